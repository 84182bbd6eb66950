/- A part of the proofs of the seat YtngjadgglbkjlaaDoor: no statement of the seat stands here. -/
import Derived.Test.YtngjadgglbkjlaaDoorMedTyped0
section
set_option linter.unusedVariables false
set_option linter.unusedSimpArgs false
set_option linter.unusedSectionVars false
namespace Go.Proofs.YtngjadgglbkjlaaDoor.Med
open Go Go.Abs Go.Proofs
set_option linter.unusedVariables false
set_option maxHeartbeats 8000000
set_option maxRecDepth 100000
/-- - -/
noncomputable def Jn39_19 {R : Type} (m : Nat) (kx0 : Abs.Rows → Int → Int → Option R) (kx1 : Int → Option R) (r0 : Abs.Rows) (i1 i2 : Int) (r3 : Abs.Rows) (i4 i5 : Int) : Option R :=
 bif decide (i5 < (1 : Int)) then (kx0 rows0 ((0 : Int)) ((9 : Int))) else
 (bif decide (i5 > (30 : Int)) then (kx0 rows0 ((0 : Int)) ((9 : Int))) else
 (kx1 ((0 : Int))))
noncomputable def brJn39_19 (m : Nat) (L : LTbl) (R : Type) (vs : List V) (k : Ex → List V → Option R) : Option R := match vs with
 | [.obj [.own [.int .u16] r0, .f (.lit (.int .u8 i1))], .f (.lit (.int .i64 i2)), .obj [.own [.int .u16] r3, .f (.lit (.int .u8 i4))], .f (.lit (.int .i64 i5)), .undef] => Jn39_19 m (fun r6 i7 i8 => k Ex.ret (W70 r6 i7 i8 r3 i4 i5)) (fun i9 => k Ex.ret (W71 r3 i4 i9 i4 i5)) r0 i1 i2 r3 i4 i5
 | _ => L R 39 19 vs k
set_option maxRecDepth 100000 in
theorem evJn39_19 (m : Nat) (R : Type) (r0 : Abs.Rows) (i1 i2 : Int) (r3 : Abs.Rows) (i4 i5 : Int) (k : Ex → List V → Option R) : codeK Tryd.prog H (T47 m) 39 (L37 m) 20 (loopBody Tryd.prog 39 19) (mkEnv [2, 3, 4, 8, 58] (W70 r0 i1 i2 r3 i4 i5) 0 (H.len 39)) (fun e env' => k e (vals [2, 3, 4, 8, 58] env')) = Jn39_19 m (fun r6 i7 i8 => k Ex.ret (W70 r6 i7 i8 r3 i4 i5)) (fun i9 => k Ex.ret (W71 r3 i4 i9 i4 i5)) r0 i1 i2 r3 i4 i5 := by kernel_rfl
noncomputable def L38 (m : Nat) : LTbl := addJ 39 19 (brJn39_19 m (L37 m)) (L37 m)
theorem okL38 (m : Nat) : LTOk Tryd.prog H (L38 m) := addJ_ok (okT47 m) hM (okL37 m) (l := [2, 3, 4, 8, 58]) (by kernel_rfl) (by kernel_rfl) fun R vs k x h => by
  unfold brJn39_19 at h
  split at h
  ·exact .inl ((evJn39_19 m R _ _ _ _ _ _ k).trans h)
  ·exact .inr h

abbrev W72 (a0 : Abs.Rows) (a1 a2 : Int) : List V := [.agg [.own [.int .u16] a0, .f (.lit (.int .u8 a1))], .f (.lit (.int .i64 a2))]
/-- - -/
noncomputable def Fn39 {R : Type} (m : Nat) : ByteArray → (Abs.Rows → Int → Int → Option R) → Option R := match m with
 | 0 => fun _ _ => none
 | m + 1 => fun s0 k =>
 bif decide ((↑(ByteArray.size s0) : Int) > (60 : Int)) then (k rows0 ((0 : Int)) ((2 : Int))) else
 (Lp39_6 m (fun r1 i2 s3 => bif i2 != (0 : Int) then (Jn39_19 m (fun r4 i5 i6 => k r4 i5 i6) (fun i7 => k r1 i2 i7) rows0 ((0 : Int)) ((0 : Int)) r1 i2 (IntKind.wrap IntKind.i64 ((↑(List.length r1) : Int) + (1 : Int)))) else
 (Jn39_19 m (fun r8 i9 i10 => k r8 i9 i10) (fun i11 => k r1 i2 i11) rows0 ((0 : Int)) ((0 : Int)) r1 i2 ((↑(List.length r1) : Int)))) (fun r12 i13 i14 r15 s16 => k r12 i13 i14) rows0 ((0 : Int)) ((0 : Int)) ((0 : Int)) m rows0 s0)
noncomputable def brFn39 (m : Nat) (T : Tbl) (R : Type) (vs : List V) (k : V → List V → Option R) : Option R := match vs with
 | [.f (.lit (.string s0))] => Fn39 m s0 (fun r17 i18 i19 => k (V.tup (W72 r17 i18 i19)) W14)
 | _ => T R 39 vs k
set_option maxRecDepth 100000 in
theorem evFn39 (m : Nat) (R : Type) (s0 : ByteArray) (k : V → List V → Option R) : runK Tryd.prog H (T47 m) (L38 m) 39 (W15 s0) k = Fn39 (m + 1) s0 (fun r17 i18 i19 => k (V.tup (W72 r17 i18 i19)) W14) := by kernel_rfl
noncomputable def T48 (m : Nat) : Tbl := addT 39 (brFn39 m (T47 m)) (T47 m)
theorem okT48 (m : Nat) : TblOk Tryd.prog (T48 m) := addT_ok (okT47 m) fun R vs k x h => by
 unfold brFn39 at h
 split at h
 ·cases m with
  | zero => cases h
  | succ m => exact runK_some (okT47 m) hM (okL38 m) ((evFn39 m R _ k).trans h)
 ·exact okT47 m R 39 _ k x h

abbrev W73 (a0 : Int) (a1 : Bool) : List V := [.f (.lit (.int .u16 a0)), .f (.lit (.bool a1))]
abbrev W74 (a0 : Abs.Rows) (a1 a2 : Int) : List V := [.agg [.f (.lst [.int .u16] a0), .f (.lit (.int .u8 a1))], .f (.lit (.int .i64 a2))]
/-- - -/
noncomputable def Fn80 {R : Type} (m : Nat) : Abs.Rows → Int → Int → (Int → Bool → Option R) → Option R := match m with
 | 0 => fun _ _ _ _ => none
 | m + 1 => fun r0 i1 i2 k =>
 bif decide (i2 < (↑(List.length r0) : Int)) then (bif decide ((0 : Int) ≤ i2 ∧ i2 < (↑(List.length r0) : Int)) then (k (fI r0 (Int.toNat i2) (0 : Nat)) false) else
 (none)) else
 (bif i1 == (46 : Int) then (k ((4095 : Int)) (decide (i2 > (↑(List.length r0) : Int)))) else
 (bif i1 == (33 : Int) then (k ((4095 : Int)) true) else
 (k ((0 : Int)) (i2 == (↑(List.length r0) : Int)))))
noncomputable def brFn80 (m : Nat) (T : Tbl) (R : Type) (vs : List V) (k : V → List V → Option R) : Option R := match vs with
 | [.agg [.f (.lst [.int .u16] r0), .f (.lit (.int .u8 i1))], .f (.lit (.int .i64 i2))] => Fn80 m r0 i1 i2 (fun i3 b4 => k (V.tup (W73 i3 b4)) W1)
 | _ => T R 80 vs k
set_option maxRecDepth 100000 in
theorem evFn80 (m : Nat) (R : Type) (r0 : Abs.Rows) (i1 i2 : Int) (k : V → List V → Option R) : runK Tryd.prog H (T48 m) (L38 m) 80 (W74 r0 i1 i2) k = Fn80 (m + 1) r0 i1 i2 (fun i3 b4 => k (V.tup (W73 i3 b4)) W1) := by kernel_rfl
noncomputable def T49 (m : Nat) : Tbl := addT 80 (brFn80 m (T48 m)) (T48 m)
theorem okT49 (m : Nat) : TblOk Tryd.prog (T49 m) := addT_ok (okT48 m) fun R vs k x h => by
 unfold brFn80 at h
 split at h
 ·cases m with
  | zero => cases h
  | succ m => exact runK_some (okT48 m) hM (okL38 m) ((evFn80 m R _ _ _ k).trans h)
 ·exact okT48 m R 80 _ k x h

abbrev W75 (a0 : Abs.Rows) (a1 : ByteArray) (a2 : Bool) (a3 : Abs.Rows) (a4 a5 : Int) (a6 : Bool) (a7 : Abs.Rows) (a8 a9 : Int) : List V := [.bor [.lst [.int .u16], .int .u8] a0, .f (.lit (.string a1)), .f (.lit (.bool a2)), .own [.int .u8] a3, .f (.lit (.int .i64 a4)), .f (.lit (.int .u16 a5)), .f (.lit (.bool a6)), .bor [.lst [.int .u16], .int .u8] a7, .f (.lit (.int .i64 a8)), .f (.lit (.int .i64 a9)), .undef]
/-- - -/
noncomputable def Lp40_8_step {R : Type} (m : Nat) (kx0 : Int → Bool → Int → Option R) (r0 : Abs.Rows) (s1 : ByteArray) (b2 : Bool) (r3 : Abs.Rows) (i4 : Int) (r5 : Abs.Rows) (i6 : Int) (REC : Int → Bool → Int → Option R) (i7 : Int) (b8 : Bool) (i9 : Int) : Option R :=
 bif decide (i9 < i6) then (bif decide ((0 : Int) ≤ i9 ∧ i9 < (↑(List.length r5) : Int)) then (Fn80 m (fR r5 (Int.toNat i9) (0 : Nat)) (fI r5 (Int.toNat i9) (1 : Nat)) i4 (fun i10 b11 => bif b8 then (REC (bitsOp IntKind.u16 (BitVec.ofInt (16 : Nat) i7 &&& BitVec.ofInt (16 : Nat) i10)) b11 (IntKind.wrap IntKind.i64 (i9 + (1 : Int)))) else
 (REC (bitsOp IntKind.u16 (BitVec.ofInt (16 : Nat) i7 &&& BitVec.ofInt (16 : Nat) i10)) false (IntKind.wrap IntKind.i64 (i9 + (1 : Int)))))) else
 (none)) else
 (kx0 i7 b8 i9)
noncomputable def Lp40_8 {R : Type} (m : Nat) (kx0 : Int → Bool → Int → Option R) (r0 : Abs.Rows) (s1 : ByteArray) (b2 : Bool) (r3 : Abs.Rows) (i4 : Int) (r5 : Abs.Rows) (i6 : Int) : Nat → Int → Bool → Int → Option R
 | 0, _, _, _ => none
 | n + 1, i7, b8, i9 => Lp40_8_step m kx0 r0 s1 b2 r3 i4 r5 i6 (Lp40_8 m kx0 r0 s1 b2 r3 i4 r5 i6 n) i7 b8 i9
noncomputable def ELp40_8 (m : Nat) (R : Type) : Nat → List V → (Ex → List V → Option R) → Option R
 | 0, _, _ => none
 | n + 1, vs, k => match vs with
  | [.bor [.lst [.int .u16], .int .u8] r0, .f (.lit (.string s1)), .f (.lit (.bool b2)), .own [.int .u8] r3, .f (.lit (.int .i64 i4)), .f (.lit (.int .u16 i7)), .f (.lit (.bool b8)), .bor [.lst [.int .u16], .int .u8] r5, .f (.lit (.int .i64 i6)), .f (.lit (.int .i64 i9)), .undef] => Lp40_8_step m (fun i12 b13 i14 => k (Ex.exit (2 : Nat)) (W75 r0 s1 b2 r3 i4 i12 b13 r5 i6 i14)) r0 s1 b2 r3 i4 r5 i6 (fun i7 b8 i9 => ELp40_8 m R n (W75 r0 s1 b2 r3 i4 i7 b8 r5 i6 i9) k) i7 b8 i9
  | _ => none
noncomputable def brLp40_8 (m : Nat) (L : LTbl) (R : Type) (vs : List V) (k : Ex → List V → Option R) : Option R := match vs with
 | [.bor [.lst [.int .u16], .int .u8] r0, .f (.lit (.string s1)), .f (.lit (.bool b2)), .own [.int .u8] r3, .f (.lit (.int .i64 i4)), .f (.lit (.int .u16 i7)), .f (.lit (.bool b8)), .bor [.lst [.int .u16], .int .u8] r5, .f (.lit (.int .i64 i6)), .f (.lit (.int .i64 i9)), .undef] => Lp40_8 m (fun i12 b13 i14 => k (Ex.exit (2 : Nat)) (W75 r0 s1 b2 r3 i4 i12 b13 r5 i6 i14)) r0 s1 b2 r3 i4 r5 i6 m i7 b8 i9
 | _ => L R 40 8 vs k
set_option maxRecDepth 100000 in
theorem stLp40_8 (m n : Nat) (R : Type) (r0 : Abs.Rows) (s1 : ByteArray) (b2 : Bool) (r3 : Abs.Rows) (i4 i7 : Int) (b8 : Bool) (r5 : Abs.Rows) (i6 i9 : Int) (k : Ex → List V → Option R) : codeK Tryd.prog H (T49 m) 40 (L38 m) 9 (loopBody Tryd.prog 40 8) (mkEnv [0, 2, 3, 4, 5, 6, 7, 18, 19, 20, 49] (W75 r0 s1 b2 r3 i4 i7 b8 r5 i6 i9) 0 (H.len 40)) (fun e env' => match e with | .normal => ELp40_8 m R n (vals [0, 2, 3, 4, 5, 6, 7, 18, 19, 20, 49] env') k | e => k e (vals [0, 2, 3, 4, 5, 6, 7, 18, 19, 20, 49] env')) = Lp40_8_step m (fun i12 b13 i14 => k (Ex.exit (2 : Nat)) (W75 r0 s1 b2 r3 i4 i12 b13 r5 i6 i14)) r0 s1 b2 r3 i4 r5 i6 (fun i7 b8 i9 => ELp40_8 m R n (W75 r0 s1 b2 r3 i4 i7 b8 r5 i6 i9) k) i7 b8 i9 := by kernel_rfl
theorem eqLp40_8 (m : Nat) (R : Type) (r0 : Abs.Rows) (s1 : ByteArray) (b2 : Bool) (r3 : Abs.Rows) (i4 : Int) (r5 : Abs.Rows) (i6 : Int) (k : Ex → List V → Option R) : ∀ (n : Nat) (i7 : Int) (b8 : Bool) (i9 : Int), ELp40_8 m R n (W75 r0 s1 b2 r3 i4 i7 b8 r5 i6 i9) k = Lp40_8 m (fun i12 b13 i14 => k (Ex.exit (2 : Nat)) (W75 r0 s1 b2 r3 i4 i12 b13 r5 i6 i14)) r0 s1 b2 r3 i4 r5 i6 n i7 b8 i9
 | 0, _, _, _ => rfl
 | n + 1, i7, b8, i9 => by
  simp only [ELp40_8, Lp40_8, W75]
  congr 1
  funext i7 b8 i9
  exact eqLp40_8 m R r0 s1 b2 r3 i4 r5 i6 k n i7 b8 i9
noncomputable def L39 (m : Nat) : LTbl := addB 40 8 (brLp40_8 m (L38 m)) (L38 m)
theorem okL39 (m : Nat) : LTOk Tryd.prog H (L39 m) := addB_ok (okT49 m) hM (okL38 m) (l := [0, 2, 3, 4, 5, 6, 7, 18, 19, 20, 49]) (by kernel_rfl) (by kernel_rfl) m (fun R n vs k => ELp40_8 m R n vs k) (fun R vs k => rfl) (fun R n vs k x h => by
   simp only [ELp40_8] at h
   split at h
   ·exact (stLp40_8 m n R _ _ _ _ _ _ _ _ _ _ k).trans h
   ·cases h) fun R vs k x h => by
  unfold brLp40_8 at h
  split at h
  ·exact .inl ((eqLp40_8 m R _ _ _ _ _ _ _ k m _ _ _).trans h)
  ·exact .inr h

/-- - -/
noncomputable def Fn81 {R : Type} (m : Nat) : Int → (Int → Option R) → Option R := match m with
 | 0 => fun _ _ => none
 | m + 1 => fun i0 k =>
 bif i0 == (0 : Int) then (k ((16 : Int))) else
 (bif decide ((0 : Int) ≤ Int.fdiv (IntKind.wrap IntKind.u32 ((125613361 : Int) * IntKind.wrap IntKind.u32 (bitsOp IntKind.u16 (BitVec.ofInt (16 : Nat) i0 &&& BitVec.ofInt (16 : Nat) (IntKind.wrap IntKind.u16 ((0 : Int) - i0)))))) ((2 : Int) ^ min (Int.toNat (27 : Int)) (32 : Nat)) ∧ Int.fdiv (IntKind.wrap IntKind.u32 ((125613361 : Int) * IntKind.wrap IntKind.u32 (bitsOp IntKind.u16 (BitVec.ofInt (16 : Nat) i0 &&& BitVec.ofInt (16 : Nat) (IntKind.wrap IntKind.u16 ((0 : Int) - i0)))))) ((2 : Int) ^ min (Int.toNat (27 : Int)) (32 : Nat)) < (↑(32 : Nat) : Int)) then (k (IntKind.wrap IntKind.i64 (fI Med.tabB (Int.toNat (Int.fdiv (IntKind.wrap IntKind.u32 ((125613361 : Int) * IntKind.wrap IntKind.u32 (bitsOp IntKind.u16 (BitVec.ofInt (16 : Nat) i0 &&& BitVec.ofInt (16 : Nat) (IntKind.wrap IntKind.u16 ((0 : Int) - i0)))))) ((2 : Int) ^ min (Int.toNat (27 : Int)) (32 : Nat)))) (0 : Nat)))) else
 (none))
noncomputable def brFn81 (m : Nat) (T : Tbl) (R : Type) (vs : List V) (k : V → List V → Option R) : Option R := match vs with
 | [.f (.lit (.int .u16 i0))] => Fn81 m i0 (fun i1 => k (V.f (F.lit (Value.int IntKind.i64 i1))) W14)
 | _ => T R 81 vs k
set_option maxRecDepth 100000 in
theorem evFn81 (m : Nat) (R : Type) (i0 : Int) (k : V → List V → Option R) : runK Tryd.prog H (T49 m) (L39 m) 81 (W65 i0) k = Fn81 (m + 1) i0 (fun i1 => k (V.f (F.lit (Value.int IntKind.i64 i1))) W14) := by kernel_rfl
noncomputable def T50 (m : Nat) : Tbl := addT 81 (brFn81 m (T49 m)) (T49 m)
theorem okT50 (m : Nat) : TblOk Tryd.prog (T50 m) := addT_ok (okT49 m) fun R vs k x h => by
 unfold brFn81 at h
 split at h
 ·cases m with
  | zero => cases h
  | succ m => exact runK_some (okT49 m) hM (okL39 m) ((evFn81 m R _ k).trans h)
 ·exact okT49 m R 81 _ k x h

abbrev W76 (a0 : Abs.Rows) (a1 : ByteArray) (a2 : Bool) (a3 : Abs.Rows) (a4 : Int) : List V := [.bor [.lst [.int .u16], .int .u8] a0, .f (.lit (.string a1)), .f (.lit (.bool a2)), .own [.int .u8] a3, .f (.lit (.int .i64 a4)), .undef]
abbrev K1Lp40_3 {R : Type} (k : Ex → List V → Option R) (r0 : Abs.Rows) : ByteArray → Bool → Abs.Rows → Int → Option R := fun s1 b2 r3 i4 => k Ex.ret (W76 r0 s1 b2 r3 i4)
/-- - -/
noncomputable def Lp40_3_step {R : Type} (m : Nat) (kx0 : ByteArray → Bool → Abs.Rows → Int → Option R) (kx1 : Abs.Rows → Int → Option R) (r0 : Abs.Rows) (s5 : ByteArray) (b6 : Bool) (REC : Abs.Rows → Int → Option R) (r7 : Abs.Rows) (i8 : Int) : Option R :=
 bif decide (i8 ≤ (30 : Int)) then (Lp40_8 m (fun i9 b10 i11 => bif b10 then (kx0 (rowsBytes r7) true r7 i8) else
 (bif i9 == (0 : Int) then (kx0 ({ data := #[] }) false r7 i8) else
 (Fn81 m i9 (fun i12 => bif decide ((0 : Int) ≤ i12 ∧ i12 < (↑(ByteArray.size { data := #[(35 : UInt8), (42 : UInt8), (48 : UInt8), (49 : UInt8), (50 : UInt8), (51 : UInt8), (52 : UInt8), (53 : UInt8), (54 : UInt8), (55 : UInt8), (56 : UInt8), (57 : UInt8)] }) : Int)) then (bif decide (List.length r7 + List.length [[F.lit (Value.int IntKind.u8 (↑(UInt8.toNat (Array.getD (ByteArray.data { data := #[(35 : UInt8), (42 : UInt8), (48 : UInt8), (49 : UInt8), (50 : UInt8), (51 : UInt8), (52 : UInt8), (53 : UInt8), (54 : UInt8), (55 : UInt8), (56 : UInt8), (57 : UInt8)] }) (Int.toNat i12) (0 : UInt8))) : Int))]] ≤ rowMax) then (letV (r7 ++ [[F.lit (Value.int IntKind.u8 (↑(UInt8.toNat (Array.getD (ByteArray.data { data := #[(35 : UInt8), (42 : UInt8), (48 : UInt8), (49 : UInt8), (50 : UInt8), (51 : UInt8), (52 : UInt8), (53 : UInt8), (54 : UInt8), (55 : UInt8), (56 : UInt8), (57 : UInt8)] }) (Int.toNat i12) (0 : UInt8))) : Int))]]) (fun r13 => REC r13 (IntKind.wrap IntKind.i64 (i8 + (1 : Int))))) else
 (none)) else
 (none))))) r0 s5 b6 r7 i8 r0 ((↑(List.length r0) : Int)) m ((4095 : Int)) (decide (i8 > (0 : Int))) ((0 : Int))) else
 (kx1 r7 i8)
noncomputable def Lp40_3 {R : Type} (m : Nat) (kx0 : ByteArray → Bool → Abs.Rows → Int → Option R) (kx1 : Abs.Rows → Int → Option R) (r0 : Abs.Rows) (s5 : ByteArray) (b6 : Bool) : Nat → Abs.Rows → Int → Option R
 | 0, _, _ => none
 | n + 1, r7, i8 => Lp40_3_step m kx0 kx1 r0 s5 b6 (Lp40_3 m kx0 kx1 r0 s5 b6 n) r7 i8
noncomputable def ELp40_3 (m : Nat) (R : Type) : Nat → List V → (Ex → List V → Option R) → Option R
 | 0, _, _ => none
 | n + 1, vs, k => match vs with
  | [.bor [.lst [.int .u16], .int .u8] r0, .f (.lit (.string s5)), .f (.lit (.bool b6)), .own [.int .u8] r7, .f (.lit (.int .i64 i8)), .undef] => Lp40_3_step m (K1Lp40_3 k r0) (fun r14 i15 => k (Ex.exit (0 : Nat)) (W76 r0 s5 b6 r14 i15)) r0 s5 b6 (fun r7 i8 => ELp40_3 m R n (W76 r0 s5 b6 r7 i8) k) r7 i8
  | _ => none
noncomputable def brLp40_3 (m : Nat) (L : LTbl) (R : Type) (vs : List V) (k : Ex → List V → Option R) : Option R := match vs with
 | [.bor [.lst [.int .u16], .int .u8] r0, .f (.lit (.string s5)), .f (.lit (.bool b6)), .own [.int .u8] r7, .f (.lit (.int .i64 i8)), .undef] => Lp40_3 m (K1Lp40_3 k r0) (fun r14 i15 => k (Ex.exit (0 : Nat)) (W76 r0 s5 b6 r14 i15)) r0 s5 b6 m r7 i8
 | _ => L R 40 3 vs k
set_option maxRecDepth 100000 in
theorem stLp40_3 (m n : Nat) (R : Type) (r0 : Abs.Rows) (s5 : ByteArray) (b6 : Bool) (r7 : Abs.Rows) (i8 : Int) (k : Ex → List V → Option R) : codeK Tryd.prog H (T50 m) 40 (L39 m) 4 (loopBody Tryd.prog 40 3) (mkEnv [0, 2, 3, 4, 5, 49] (W76 r0 s5 b6 r7 i8) 0 (H.len 40)) (fun e env' => match e with | .normal => ELp40_3 m R n (vals [0, 2, 3, 4, 5, 49] env') k | e => k e (vals [0, 2, 3, 4, 5, 49] env')) = Lp40_3_step m (K1Lp40_3 k r0) (fun r14 i15 => k (Ex.exit (0 : Nat)) (W76 r0 s5 b6 r14 i15)) r0 s5 b6 (fun r7 i8 => ELp40_3 m R n (W76 r0 s5 b6 r7 i8) k) r7 i8 := by kernel_rfl
theorem eqLp40_3 (m : Nat) (R : Type) (r0 : Abs.Rows) (s5 : ByteArray) (b6 : Bool) (k : Ex → List V → Option R) : ∀ (n : Nat) (r7 : Abs.Rows) (i8 : Int), ELp40_3 m R n (W76 r0 s5 b6 r7 i8) k = Lp40_3 m (K1Lp40_3 k r0) (fun r14 i15 => k (Ex.exit (0 : Nat)) (W76 r0 s5 b6 r14 i15)) r0 s5 b6 n r7 i8
 | 0, _, _ => rfl
 | n + 1, r7, i8 => by
  simp only [ELp40_3, Lp40_3, W76]
  congr 1
  funext r7 i8
  exact eqLp40_3 m R r0 s5 b6 k n r7 i8
noncomputable def L40 (m : Nat) : LTbl := addB 40 3 (brLp40_3 m (L39 m)) (L39 m)
theorem okL40 (m : Nat) : LTOk Tryd.prog H (L40 m) := addB_ok (okT50 m) hM (okL39 m) (l := [0, 2, 3, 4, 5, 49]) (by kernel_rfl) (by kernel_rfl) m (fun R n vs k => ELp40_3 m R n vs k) (fun R vs k => rfl) (fun R n vs k x h => by
   simp only [ELp40_3] at h
   split at h
   ·exact (stLp40_3 m n R _ _ _ _ _ k).trans h
   ·cases h) fun R vs k x h => by
  unfold brLp40_3 at h
  split at h
  ·exact .inl ((eqLp40_3 m R _ _ _ k m _ _).trans h)
  ·exact .inr h

abbrev W77 (a0 : ByteArray) (a1 : Bool) : List V := [.f (.lit (.string a0)), .f (.lit (.bool a1))]
abbrev W78 (a0 : Abs.Rows) : List V := [.bor [.lst [.int .u16], .int .u8] a0]
/-- - -/
noncomputable def Fn40 {R : Type} (m : Nat) : Abs.Rows → (ByteArray → Bool → Option R) → Option R := match m with
 | 0 => fun _ _ => none
 | m + 1 => fun r0 k =>
 Lp40_3 m (fun s1 b2 r3 i4 => k s1 b2) (fun r5 i6 => k ({ data := #[] }) false) r0 ({ data := #[] }) false m rows0 ((0 : Int))
noncomputable def brFn40 (m : Nat) (T : Tbl) (R : Type) (vs : List V) (k : V → List V → Option R) : Option R := match vs with
 | [.bor [.lst [.int .u16], .int .u8] r0] => Fn40 m r0 (fun s7 b8 => k (V.tup (W77 s7 b8)) W14)
 | _ => T R 40 vs k
set_option maxRecDepth 100000 in
theorem evFn40 (m : Nat) (R : Type) (r0 : Abs.Rows) (k : V → List V → Option R) : runK Tryd.prog H (T50 m) (L40 m) 40 (W78 r0) k = Fn40 (m + 1) r0 (fun s7 b8 => k (V.tup (W77 s7 b8)) W14) := by kernel_rfl
noncomputable def T51 (m : Nat) : Tbl := addT 40 (brFn40 m (T50 m)) (T50 m)
theorem okT51 (m : Nat) : TblOk Tryd.prog (T51 m) := addT_ok (okT50 m) fun R vs k x h => by
 unfold brFn40 at h
 split at h
 ·cases m with
  | zero => cases h
  | succ m => exact runK_some (okT50 m) hM (okL40 m) ((evFn40 m R _ k).trans h)
 ·exact okT50 m R 40 _ k x h

abbrev W79 (a0 : ByteArray) (a1 : Int) : List V := [.f (.lit (.string a0)), .f (.lit (.int .i64 a1))]
/-- - -/
noncomputable def Fn8 {R : Type} (m : Nat) : ByteArray → (ByteArray → Int → Option R) → Option R := match m with
 | 0 => fun _ _ => none
 | m + 1 => fun s0 k =>
 Fn39 m s0 (fun r1 i2 i3 => bif i3 != (0 : Int) then (k ({ data := #[] }) i3) else
 (Fn40 m ([[F.lst [LT.int IntKind.u16] r1, F.lit (Value.int IntKind.u8 i2)]]) (fun s4 b5 => k s4 ((0 : Int)))))
noncomputable def brFn8 (m : Nat) (T : Tbl) (R : Type) (vs : List V) (k : V → List V → Option R) : Option R := match vs with
 | [.f (.lit (.string s0))] => Fn8 m s0 (fun s6 i7 => k (V.tup (W79 s6 i7)) W14)
 | _ => T R 8 vs k
set_option maxRecDepth 100000 in
theorem evFn8 (m : Nat) (R : Type) (s0 : ByteArray) (k : V → List V → Option R) : runK Tryd.prog H (T51 m) (L40 m) 8 (W15 s0) k = Fn8 (m + 1) s0 (fun s6 i7 => k (V.tup (W79 s6 i7)) W14) := by kernel_rfl
noncomputable def T52 (m : Nat) : Tbl := addT 8 (brFn8 m (T51 m)) (T51 m)
theorem okT52 (m : Nat) : TblOk Tryd.prog (T52 m) := addT_ok (okT51 m) fun R vs k x h => by
 unfold brFn8 at h
 split at h
 ·cases m with
  | zero => cases h
  | succ m => exact runK_some (okT51 m) hM (okL40 m) ((evFn8 m R _ k).trans h)
 ·exact okT51 m R 8 _ k x h

/-- - -/
noncomputable def Fn12 {R : Type} (m : Nat) : (Bool → Option R) → Option R := match m with
 | 0 => fun _ => none
 | m + 1 => fun  k =>
 Fn8 m ({ data := #[(78 : UInt8), (49 : UInt8)] }) (fun s0 i1 => bif i1 == (0 : Int) then (k (ByteArray.toList s0 == ByteArray.toList { data := #[(50 : UInt8), (49 : UInt8)] })) else
 (k false))
noncomputable def brFn12 (m : Nat) (T : Tbl) (R : Type) (vs : List V) (k : V → List V → Option R) : Option R := match vs with
 | [] => Fn12 m  (fun b2 => k (V.f (F.lit (Value.bool b2))) [])
 | _ => T R 12 vs k
set_option maxRecDepth 100000 in
theorem evFn12 (m : Nat) (R : Type)  (k : V → List V → Option R) : runK Tryd.prog H (T52 m) (L40 m) 12 [] k = Fn12 (m + 1)  (fun b2 => k (V.f (F.lit (Value.bool b2))) []) := by kernel_rfl
noncomputable def T53 (m : Nat) : Tbl := addT 12 (brFn12 m (T52 m)) (T52 m)
theorem okT53 (m : Nat) : TblOk Tryd.prog (T53 m) := addT_ok (okT52 m) fun R vs k x h => by
 unfold brFn12 at h
 split at h
 ·cases m with
  | zero => cases h
  | succ m => exact runK_some (okT52 m) hM (okL40 m) ((evFn12 m R k).trans h)
 ·exact okT52 m R 12 _ k x h

abbrev W80 (a0 : Bool) (a1 : Int) (a2 : ByteArray) (a3 : Int) (a4 a5 : Abs.Rows) (a6 : Bool) (a7 : Int) (a8 : Abs.Rows) (a9 a10 a11 : Int) (a12 : Abs.Rows) (a13 : Int) : List V := [.f (.lit (.bool a0)), .f (.lit (.int .i64 a1)), .obj [.f (.lit (.string a2)), .f (.lit (.int .i64 a3)), .f (.lst [.int .i64, .int .i64, .int .i64] a4), .f (.lst [.int .i64, .int .i64, .int .i64] a5)], .f (.lit (.bool a6)), .f (.lit (.int .i64 a7)), .own [.int .i64] a8, .f (.lit (.int .i64 a9)), .f (.lit (.int .i64 a10)), .f (.lit (.int .i64 a11)), .own [.int .i64] a12, .tup [.undef, .f (.lit (.int .i64 a13))], .undef, .undef, .undef, .undef]
/-- - -/
noncomputable def Jn5_13 {R : Type} (m : Nat) (kx0 : Bool → Option R) (b0 : Bool) (i1 : Int) (s2 : ByteArray) (i3 : Int) (r4 r5 : Abs.Rows) (b6 : Bool) (i7 : Int) (r8 : Abs.Rows) (i9 i10 i11 : Int) (r12 : Abs.Rows) (i13 : Int) : Option R :=
 bif i7 == i10 then (bif i10 == (0 : Int) then (Fn31 m s2 i3 r4 r5 i1 (fun b14 => bif b6 == b14 then (bif i9 == i11 then (Fn32 m r8 r12 (fun b15 => bif b15 then (Fn12 m  (fun b16 => kx0 b16)) else
 (kx0 false))) else
 (kx0 false)) else
 (kx0 false))) else
 (bif b6 == false then (bif i9 == i11 then (Fn32 m r8 r12 (fun b17 => bif b17 then (Fn12 m  (fun b18 => kx0 b18)) else
 (kx0 false))) else
 (kx0 false)) else
 (kx0 false))) else
 (kx0 false)
noncomputable def brJn5_13 (m : Nat) (L : LTbl) (R : Type) (vs : List V) (k : Ex → List V → Option R) : Option R := match vs with
 | [.f (.lit (.bool b0)), .f (.lit (.int .i64 i1)), .obj [.f (.lit (.string s2)), .f (.lit (.int .i64 i3)), .f (.lst [.int .i64, .int .i64, .int .i64] r4), .f (.lst [.int .i64, .int .i64, .int .i64] r5)], .f (.lit (.bool b6)), .f (.lit (.int .i64 i7)), .own [.int .i64] r8, .f (.lit (.int .i64 i9)), .f (.lit (.int .i64 i10)), .f (.lit (.int .i64 i11)), .own [.int .i64] r12, .tup [.undef, .f (.lit (.int .i64 i13))], .undef, .undef, .undef, .undef] => Jn5_13 m (fun b19 => k Ex.ret (W80 b19 i1 s2 i3 r4 r5 b6 i7 r8 i9 i10 i11 r12 i13)) b0 i1 s2 i3 r4 r5 b6 i7 r8 i9 i10 i11 r12 i13
 | _ => L R 5 13 vs k
set_option maxRecDepth 100000 in
theorem evJn5_13 (m : Nat) (R : Type) (b0 : Bool) (i1 : Int) (s2 : ByteArray) (i3 : Int) (r4 r5 : Abs.Rows) (b6 : Bool) (i7 : Int) (r8 : Abs.Rows) (i9 i10 i11 : Int) (r12 : Abs.Rows) (i13 : Int) (k : Ex → List V → Option R) : codeK Tryd.prog H (T53 m) 5 (L40 m) 14 (loopBody Tryd.prog 5 13) (mkEnv [2, 5, 7, 8, 9, 10, 11, 13, 14, 15, 43, 46, 47, 66, 94] (W80 b0 i1 s2 i3 r4 r5 b6 i7 r8 i9 i10 i11 r12 i13) 0 (H.len 5)) (fun e env' => k e (vals [2, 5, 7, 8, 9, 10, 11, 13, 14, 15, 43, 46, 47, 66, 94] env')) = Jn5_13 m (fun b19 => k Ex.ret (W80 b19 i1 s2 i3 r4 r5 b6 i7 r8 i9 i10 i11 r12 i13)) b0 i1 s2 i3 r4 r5 b6 i7 r8 i9 i10 i11 r12 i13 := by kernel_rfl
noncomputable def L41 (m : Nat) : LTbl := addJ 5 13 (brJn5_13 m (L40 m)) (L40 m)
theorem okL41 (m : Nat) : LTOk Tryd.prog H (L41 m) := addJ_ok (okT53 m) hM (okL40 m) (l := [2, 5, 7, 8, 9, 10, 11, 13, 14, 15, 43, 46, 47, 66, 94]) (by kernel_rfl) (by kernel_rfl) fun R vs k x h => by
  unfold brJn5_13 at h
  split at h
  ·exact .inl ((evJn5_13 m R _ _ _ _ _ _ _ _ _ _ _ _ _ _ k).trans h)
  ·exact .inr h

abbrev W81 (a0 : Abs.Rows) : List V := [.f (.lst [.int .i64] a0)]
/-- - -/
noncomputable def Fn5 {R : Type} (m : Nat) : Abs.Rows → (Bool → Option R) → Option R := match m with
 | 0 => fun _ _ => none
 | m + 1 => fun r0 k =>
 Fn20 m r0 ((0 : Int)) (fun r1 i2 => Fn21 m r0 i2 (fun i3 i4 => Fn22 m r0 i4 (fun i5 i6 i7 => Fn23 m r1 (fun i8 => Fn24 m r1 (fun i9 => bif i8 != i9 then (k false) else
 (Fn25 m r0 i7 ((↑(List.length r1) : Int)) (fun i10 i11 => bif decide ((0 : Int) ≤ i10 ∧ i10 < (↑(List.length r1) : Int)) then (Fn26 m (fS r1 (Int.toNat i10) (0 : Nat)) (fI r1 (Int.toNat i10) (1 : Nat)) (fR r1 (Int.toNat i10) (2 : Nat)) (fR r1 (Int.toNat i10) (3 : Nat)) i3 (fun b12 i13 => Fn27 m (fS r1 (Int.toNat i10) (0 : Nat)) (fI r1 (Int.toNat i10) (1 : Nat)) (fR r1 (Int.toNat i10) (2 : Nat)) (fR r1 (Int.toNat i10) (3 : Nat)) i5 i6 (fun r14 i15 => Fn24 m ([[F.lit (Value.string (fS r1 (Int.toNat i10) (0 : Nat))), F.lit (Value.int IntKind.i64 (fI r1 (Int.toNat i10) (1 : Nat))), F.lst [LT.int IntKind.i64, LT.int IntKind.i64, LT.int IntKind.i64] (fR r1 (Int.toNat i10) (2 : Nat)), F.lst [LT.int IntKind.i64, LT.int IntKind.i64, LT.int IntKind.i64] (fR r1 (Int.toNat i10) (3 : Nat))]]) (fun i16 => Fn28 m i3 (fun i17 => Fn10 m ([[F.lit (Value.int IntKind.i64 i16)], [F.lit (Value.int IntKind.i64 i17)]]) (fun i18 => Fn29 m i5 i6 ((400 : Int)) (fun i19 => Fn10 m ([[F.lit (Value.int IntKind.i64 i16)], [F.lit (Value.int IntKind.i64 i19)]]) (fun i20 => bif i20 == (0 : Int) then (Fn30 m (fS r1 (Int.toNat i10) (0 : Nat)) (fI r1 (Int.toNat i10) (1 : Nat)) (fR r1 (Int.toNat i10) (2 : Nat)) (fR r1 (Int.toNat i10) (3 : Nat)) i5 i6 (fun r21 => Jn5_13 m (fun b22 => k b22) false i3 (fS r1 (Int.toNat i10) (0 : Nat)) (fI r1 (Int.toNat i10) (1 : Nat)) (fR r1 (Int.toNat i10) (2 : Nat)) (fR r1 (Int.toNat i10) (3 : Nat)) b12 i13 r14 i15 i18 i20 r21 i15)) else
 (Jn5_13 m (fun b23 => k b23) false i3 (fS r1 (Int.toNat i10) (0 : Nat)) (fI r1 (Int.toNat i10) (1 : Nat)) (fR r1 (Int.toNat i10) (2 : Nat)) (fR r1 (Int.toNat i10) (3 : Nat)) b12 i13 r14 i15 i18 i20 rows0 i15))))))))) else
 (none))))))))
noncomputable def brFn5 (m : Nat) (T : Tbl) (R : Type) (vs : List V) (k : V → List V → Option R) : Option R := match vs with
 | [.f (.lst [.int .i64] r0)] => Fn5 m r0 (fun b24 => k (V.f (F.lit (Value.bool b24))) W14)
 | _ => T R 5 vs k
set_option maxRecDepth 100000 in
theorem evFn5 (m : Nat) (R : Type) (r0 : Abs.Rows) (k : V → List V → Option R) : runK Tryd.prog H (T53 m) (L41 m) 5 (W81 r0) k = Fn5 (m + 1) r0 (fun b24 => k (V.f (F.lit (Value.bool b24))) W14) := by kernel_rfl
noncomputable def T54 (m : Nat) : Tbl := addT 5 (brFn5 m (T53 m)) (T53 m)
theorem okT54 (m : Nat) : TblOk Tryd.prog (T54 m) := addT_ok (okT53 m) fun R vs k x h => by
 unfold brFn5 at h
 split at h
 ·cases m with
  | zero => cases h
  | succ m => exact runK_some (okT53 m) hM (okL41 m) ((evFn5 m R _ k).trans h)
 ·exact okT53 m R 5 _ k x h


end Go.Proofs.YtngjadgglbkjlaaDoor.Med
end
