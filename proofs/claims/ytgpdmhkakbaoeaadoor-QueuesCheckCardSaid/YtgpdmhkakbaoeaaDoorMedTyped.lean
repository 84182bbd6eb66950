/- A part of the proofs of the seat YtgpdmhkakbaoeaaDoor: no statement of the seat stands here. -/
import Derived.Shelf.Small.Strs
import Derived.Shelf.Strings.SlTrimAscii
import Derived.Ground.Names2Prog
import Derived.Test.YtgpdmhkakbaoeaaDoorProg
import Derived.KernelRfl
import Derived.Test.YtgpdmhkakbaoeaaDoorAbsD
section
set_option linter.unusedVariables false
set_option linter.unusedSimpArgs false
set_option linter.unusedSectionVars false
namespace Go.Proofs.YtgpdmhkakbaoeaaDoor.Med
open Go Go.Abs
instance tables : Globs where
 view := fun _ => none
def H : Hints where
 mode := fun f j => match f, j with
  | 14, 0 => .fz
  | _, _ => .bor
 mv := fun f t => match f, t with
  | 3, 2 => true
  | 4, 2 => true
  | 5, 4 => true
  | 6, 15 => true
  | 7, 4 => true
  | 8, 2 => true
  | 9, 2 => true
  | 10, 2 => true
  | 11, 2 => true
  | 12, 2 => true
  | 13, 2 => true
  | 14, 4 => true
  | 14, 5 => true
  | 15, 2 => true
  | 16, 2 => true
  | 17, 4 => true
  | 18, 4 => true
  | 18, 5 => true
  | 19, 4 => true
  | 20, 0 => true
  | 21, 2 => true
  | 22, 4 => true
  | 23, 4 => true
  | 24, 4 => true
  | 25, 6 => true
  | 26, 4 => true
  | 27, 11 => true
  | 28, 2 => true
  | 29, 2 => true
  | 30, 2 => true
  | 31, 6 => true
  | 32, 2 => true
  | 33, 2 => true
  | 34, 6 => true
  | 35, 4 => true
  | 36, 3 => true
  | 37, 2 => true
  | 38, 4 => true
  | 39, 4 => true
  | 40, 4 => true
  | 41, 4 => true
  | 42, 3 => true
  | 43, 4 => true
  | 44, 4 => true
  | 45, 4 => true
  | 46, 6 => true
  | 48, 4 => true
  | 49, 4 => true
  | 50, 3 => true
  | 51, 4 => true
  | 59, 4 => true
  | 64, 4 => true
  | _, _ => false
 nx := fun f t => match f, t with
  | 21, 3 => [1, 4]
  | 21, 77 => [1, 4]
  | _, _ => []
 keep := fun f => match f with
  | 21 => true
  | _ => false
 live := fun f i => match f, i with
  | 3, 5 => some [2, 4, 5, 7, 23, 25, 119]
  | 3, 7 => some [2, 4, 5, 7, 23, 25, 50, 51, 52, 119]
  | 3, 16 => some [2, 4, 5, 7, 9, 10, 23, 25, 50, 51, 52, 119]
  | 3, 18 => some [2, 4, 5, 7, 9, 10, 23, 25, 50, 51, 52, 84, 85, 86, 119]
  | 4, 2 => some [0, 3, 6, 13, 79]
  | 5, 2 => some [0, 5, 9, 16, 71, 72]
  | 8, 5 => some [0, 2, 9, 10, 11, 39]
  | 8, 14 => some [0, 2, 4, 9, 10, 11, 39]
  | 9, 6 => some [0, 2, 3, 12, 13, 14, 75]
  | 9, 19 => some [0, 2, 3, 5, 12, 13, 14, 35, 36, 37, 38, 75]
  | 10, 6 => some [0, 2, 3, 9, 10, 11, 12, 80]
  | 10, 10 => some [0, 2, 3, 4, 5, 9, 10, 11, 12, 17, 80]
  | 10, 14 => some [0, 2, 3, 4, 5, 9, 10, 11, 12, 33, 80]
  | 11, 5 => some [0, 2, 8, 9, 10, 76]
  | 11, 9 => some [0, 2, 3, 4, 8, 9, 10, 15, 76]
  | 11, 13 => some [0, 2, 3, 4, 8, 9, 10, 32, 76]
  | 15, 2 => some [0, 2, 5, 6, 7, 15]
  | 21, 3 => some [0, 3, 10, 11, 12, 81]
  | 21, 11 => some [0, 3, 6, 10, 11, 12, 30, 31, 32, 81]
  | 21, 20 => some [0, 3, 6, 10, 11, 12, 78, 81]
  | 26, 4 => some [0, 5, 6, 10, 11, 48, 49]
  | 29, 5 => some [1, 2, 11, 12, 13, 14, 110]
  | 29, 19 => some [1, 2, 110]
  | 29, 24 => some [1, 2, 68, 69, 70, 71, 110]
  | 29, 30 => some [1, 2, 5, 6, 68, 69, 70, 71, 110]
  | 32, 1 => some [1, 2, 5, 67]
  | 32, 5 => some [1, 2, 67]
  | 32, 7 => some [1, 2, 25, 26, 27, 28, 67]
  | 32, 13 => some [1, 2, 3, 4, 25, 26, 27, 28, 67]
  | 43, 2 => some [1, 2, 4, 7, 8, 9, 10, 21, 22]
  | 44, 2 => some [1, 2, 4, 7, 8, 9, 10, 21, 22]
  | 48, 2 => some [0, 1, 4, 7, 8, 18, 19]
  | 49, 2 => some [0, 1, 4, 7, 8, 19, 20]
  | 51, 2 => some [0, 1, 4, 7, 8, 19, 20]
  | _, _ => none
 len := fun f => match f with
  | 3 => 120
  | 4 => 80
  | 5 => 73
  | 6 => 17
  | 7 => 14
  | 8 => 40
  | 9 => 76
  | 10 => 81
  | 11 => 77
  | 12 => 20
  | 13 => 18
  | 14 => 21
  | 15 => 16
  | 16 => 8
  | 17 => 18
  | 18 => 29
  | 19 => 14
  | 20 => 14
  | 21 => 82
  | 22 => 11
  | 23 => 66
  | 24 => 14
  | 25 => 25
  | 26 => 50
  | 27 => 13
  | 28 => 27
  | 29 => 111
  | 30 => 16
  | 31 => 18
  | 32 => 68
  | 33 => 10
  | 34 => 18
  | 35 => 11
  | 36 => 11
  | 37 => 6
  | 38 => 20
  | 39 => 9
  | 40 => 17
  | 41 => 11
  | 42 => 9
  | 43 => 23
  | 44 => 23
  | 45 => 18
  | 46 => 22
  | 48 => 20
  | 49 => 21
  | 50 => 16
  | 51 => 21
  | 59 => 10
  | 64 => 10
  | _ => 0

end Go.Proofs.YtgpdmhkakbaoeaaDoor.Med
end
section
set_option linter.unusedVariables false
set_option linter.unusedSimpArgs false
set_option linter.unusedSectionVars false
/-
 DERIVED: THE SHELF's CONTRACTS AT THIS DUMP, IN PLAIN WORDS (tools/lay-plain.mjs out of 'ShelfQ.lean', which tools/lay-shelf.mjs wrote): THE SAME DECLARATIONS UNDER THE SAME NAMES: 'import', 'namespace', 'open', 'def', 'theorem' AND NOTHING ELSE: no command of the shelf's: FOR A HAND-IN. Each laying: the table of numbers ('.._ren') and one theorem, a field a fact of the dump's own or the kernel's comparison; each contract: ONE APPLICATION.
-/
namespace Go.Proofs
open Go.Shelf
def Tryd.lays160_ren : Go.Shelf.Ren := ⟨fun | 160 => 47 | 232 => 53 | 231 => 52 | 227 => 54 | 234 => 56 | 233 => 55 | 236 => 58 | 235 => 57 | 228 => 60 | 271 => 63 | 151 => 62 | 197 => 61 | 120 => 67 | 152 => 66 | 260 => 65 | 137 => 59 | 119 => 69 | 224 => 70 | 225 => 71 | 217 => 64 | 266 => 68 | n => n, fun | 9 => 9 | 4 => 4 | 3 => 3 | 5 => 5 | 117 => 83 | 116 => 82 | 0 => 0 | 124 => 86 | 21 => 21 | 105 => 89 | 46 => 94 | 119 => 93 | 139 => 97 | 138 => 96 | n => n, fun | 3 => 0 | 4 => 1 | n => n⟩
theorem Tryd.lays160 : Go.Proofs.Lays.n160 Tryd.prog Tryd.lays160_ren := {
 mixed := by kernel_rfl
 f119 := Tryd.func69.trans (congrArg some (by kernel_rfl))
 f120 := Tryd.func67.trans (congrArg some (by kernel_rfl))
 f137 := Tryd.func59.trans (congrArg some (by kernel_rfl))
 f151 := Tryd.func62.trans (congrArg some (by kernel_rfl))
 f152 := Tryd.func66.trans (congrArg some (by kernel_rfl))
 f160 := Tryd.func47.trans (congrArg some (by kernel_rfl))
 f197 := Tryd.func61.trans (congrArg some (by kernel_rfl))
 f217 := Tryd.func64.trans (congrArg some (by kernel_rfl))
 f224 := Tryd.func70.trans (congrArg some (by kernel_rfl))
 f225 := Tryd.func71.trans (congrArg some (by kernel_rfl))
 f227 := Tryd.func54.trans (congrArg some (by kernel_rfl))
 f228 := Tryd.func60.trans (congrArg some (by kernel_rfl))
 f231 := Tryd.func52.trans (congrArg some (by kernel_rfl))
 f232 := Tryd.func53.trans (congrArg some (by kernel_rfl))
 f233 := Tryd.func55.trans (congrArg some (by kernel_rfl))
 f234 := Tryd.func56.trans (congrArg some (by kernel_rfl))
 f235 := Tryd.func57.trans (congrArg some (by kernel_rfl))
 f236 := Tryd.func58.trans (congrArg some (by kernel_rfl))
 f260 := Tryd.func65.trans (congrArg some (by kernel_rfl))
 f266 := Tryd.func68.trans (congrArg some (by kernel_rfl))
 f271 := Tryd.func63.trans (congrArg some (by kernel_rfl))
 t0 := Tryd.underlying0
 a0 := Tryd.isAgg0
 z0 := Tryd.sizeOf0
 v0 := Tryd.zeroValue0
 t3 := Tryd.underlying3
 a3 := Tryd.isAgg3
 z3 := Tryd.sizeOf3
 v3 := Tryd.zeroValue3
 t4 := Tryd.underlying4
 a4 := Tryd.isAgg4
 z4 := Tryd.sizeOf4
 v4 := Tryd.zeroValue4
 t5 := Tryd.underlying5
 a5 := Tryd.isAgg5
 z5 := Tryd.sizeOf5
 v5 := Tryd.zeroValue5
 t9 := Tryd.underlying9
 a9 := Tryd.isAgg9
 z9 := Tryd.sizeOf9
 v9 := Tryd.zeroValue9
 t21 := Tryd.underlying21
 a21 := Tryd.isAgg21
 z21 := Tryd.sizeOf21
 v21 := Tryd.zeroValue21
 t46 := Tryd.underlying94
 a46 := Tryd.isAgg94
 z46 := Tryd.sizeOf94
 v46 := Tryd.zeroValue94
 t105 := Tryd.underlying89
 a105 := Tryd.isAgg89
 z105 := Tryd.sizeOf89
 v105 := Tryd.zeroValue89
 t116 := Tryd.underlying82
 a116 := Tryd.isAgg82
 z116 := Tryd.sizeOf82
 t117 := Tryd.underlying83
 a117 := Tryd.isAgg83
 z117 := Tryd.sizeOf83
 v117 := Tryd.zeroValue83
 t119 := Tryd.underlying93
 a119 := Tryd.isAgg93
 z119 := Tryd.sizeOf93
 t124 := Tryd.underlying86
 a124 := Tryd.isAgg86
 z124 := Tryd.sizeOf86
 v124 := Tryd.zeroValue86
 t138 := Tryd.underlying96
 a138 := Tryd.isAgg96
 z138 := Tryd.sizeOf96
 v138 := Tryd.zeroValue96
 t139 := Tryd.underlying97
 a139 := Tryd.isAgg97
 z139 := Tryd.sizeOf97
 v139 := Tryd.zeroValue97
 g3 := by kernel_rfl
 g4 := by kernel_rfl }
end Go.Proofs
end
section
set_option linter.unusedVariables false
set_option linter.unusedSimpArgs false
set_option linter.unusedSectionVars false
namespace Go.Proofs.YtgpdmhkakbaoeaaDoor.Med
open Go Go.Abs Go.Proofs
theorem trim47 (s c : ByteArray) (h : trimOk s c = true) : FnOk Tryd.prog 47 [.f (.lit (.string s)), .f (.lit (.string c))] (.f (.lit (.string (trimB s c)))) [.undef, .undef] := by
 simp only [trimOk, Bool.and_eq_true, decide_eq_true_eq, List.all_eq_true] at h
 obtain ⟨h1, h2, h3⟩ := h
 obtain ⟨body, hb⟩ : ∃ b, Tryd.f47.body = some b := ⟨_, rfl⟩
 refine fnOk_lit (P := Tryd.prog) Tryd.func47 (by kernel_rfl) hb (xs := [.string s, .string c]) rfl fun w => ?_
 exact Any.strings_Trim_laid Tryd.lays160 (by kernel_rfl) s c w (by omega) (by omega) fun j b e => h3 b (List.mem_of_getElem? e)
end Go.Proofs.YtgpdmhkakbaoeaaDoor.Med
end
section
set_option linter.unusedVariables false
set_option linter.unusedSimpArgs false
set_option linter.unusedSectionVars false
namespace Go.Proofs.YtgpdmhkakbaoeaaDoor.Med
open Go Go.Abs Go.Proofs
set_option linter.unusedVariables false
set_option maxHeartbeats 8000000
set_option maxRecDepth 100000
theorem hM : Tryd.prog.follows .mixedOrders = true := by kernel_rfl
theorem idx68 (s : ByteArray) (c : Int) : FnOk Tryd.prog 68 [.f (.lit (.string s)), .f (.lit (.int .u8 c))] (vInt .i64 (idxByte s c)) [.undef, .undef] :=
 idx_ok (fn := Tryd.f68) Tryd.func68 (by kernel_rfl) (by kernel_rfl) (by kernel_rfl) (by kernel_rfl) s c
noncomputable def TC0 : Tbl := addT 68 (brIdx 68 noT) noT
theorem okTC0 : TblOk Tryd.prog TC0 := brIdx_ok noT_ok idx68
noncomputable def TC1 : Tbl := addT 47 (brTrim 47 TC0) TC0
theorem okTC1 : TblOk Tryd.prog TC1 := brTrim_ok okTC0 trim47
abbrev W1 : List V := [.undef, .undef]
abbrev W2 (a0 a1 : Int) : List V := [.f (.lit (.int .i64 a0)), .f (.lit (.int .i64 a1))]
noncomputable def T0 (_ : Nat) : Tbl := TC1
noncomputable def L0 (_ : Nat) : LTbl := noL
theorem okT0 (m : Nat) : TblOk Tryd.prog (T0 m) := okTC1
theorem okL0 (m : Nat) : LTOk Tryd.prog H (L0 m) := noL_ok
/-- - -/
noncomputable def Fn45 {R : Type} (m : Nat) : Int → Int → (Int → Option R) → Option R := match m with
 | 0 => fun _ _ _ => none
 | m + 1 => fun i0 i1 k =>
 bif decide (i1 < (1 : Int)) then (k ((0 : Int))) else
 (bif decide (i1 ≠ (0 : Int)) then (bif decide (Int.tmod i0 i1 < (0 : Int)) then (k (IntKind.wrap IntKind.i64 (Int.tmod i0 i1 + i1))) else
 (k (Int.tmod i0 i1))) else
 (none))
noncomputable def brFn45 (m : Nat) (T : Tbl) (R : Type) (vs : List V) (k : V → List V → Option R) : Option R := match vs with
 | [.f (.lit (.int .i64 i0)), .f (.lit (.int .i64 i1))] => Fn45 m i0 i1 (fun i2 => k (V.f (F.lit (Value.int IntKind.i64 i2))) W1)
 | _ => T R 45 vs k
set_option maxRecDepth 100000 in
theorem evFn45 (m : Nat) (R : Type) (i0 i1 : Int) (k : V → List V → Option R) : runK Tryd.prog H (T0 m) (L0 m) 45 (W2 i0 i1) k = Fn45 (m + 1) i0 i1 (fun i2 => k (V.f (F.lit (Value.int IntKind.i64 i2))) W1) := by kernel_rfl
noncomputable def T1 (m : Nat) : Tbl := addT 45 (brFn45 m (T0 m)) (T0 m)
theorem okT1 (m : Nat) : TblOk Tryd.prog (T1 m) := addT_ok (okT0 m) fun R vs k x h => by
 unfold brFn45 at h
 split at h
 ·cases m with
  | zero => cases h
  | succ m => exact runK_some (okT0 m) hM (okL0 m) ((evFn45 m R _ _ k).trans h)
 ·exact okT0 m R 45 _ k x h

abbrev W3 (a0 : Abs.Rows) (a1 : Int) : List V := [.obj [.f (.lst [.int .i64] a0), .f (.lit (.int .i64 a1))], .undef]
abbrev W4 (a0 : Abs.Rows) (a1 a2 : Int) : List V := [.obj [.f (.lst [.int .i64] a0), .f (.lit (.int .i64 a1))], .f (.lit (.int .i64 a2))]
/-- - -/
noncomputable def Fn23 {R : Type} (m : Nat) : Abs.Rows → Int → Int → (Int → Int → Option R) → Option R := match m with
 | 0 => fun _ _ _ _ => none
 | m + 1 => fun r0 i1 i2 k =>
 bif (↑(List.length r0) : Int) == (0 : Int) then (Fn45 m (IntKind.wrap IntKind.i64 (IntKind.wrap IntKind.i64 (i1 + (1 : Int)) * (7919 : Int))) i2 (fun i3 => k i3 (IntKind.wrap IntKind.i64 (i1 + (1 : Int))))) else
 (bif decide ((↑(List.length r0) : Int) ≠ (0 : Int)) then (bif decide ((↑(List.length r0) : Int) ≠ (0 : Int)) then (bif decide ((0 : Int) ≤ Int.tmod (IntKind.wrap IntKind.i64 (IntKind.wrap IntKind.i64 (i1 + (1 : Int)) - (1 : Int))) (↑(List.length r0) : Int) ∧ Int.tmod (IntKind.wrap IntKind.i64 (IntKind.wrap IntKind.i64 (i1 + (1 : Int)) - (1 : Int))) (↑(List.length r0) : Int) < (↑(List.length r0) : Int)) then (Fn45 m (fI r0 (Int.toNat (Int.tmod (IntKind.wrap IntKind.i64 (IntKind.wrap IntKind.i64 (i1 + (1 : Int)) - (1 : Int))) (↑(List.length r0) : Int))) (0 : Nat)) ((1073741824 : Int)) (fun i4 => Fn45 m (IntKind.wrap IntKind.i64 (i4 + IntKind.wrap IntKind.i64 (IntKind.wrap IntKind.i64 (Int.tdiv (IntKind.wrap IntKind.i64 (IntKind.wrap IntKind.i64 (i1 + (1 : Int)) - (1 : Int))) (↑(List.length r0) : Int)) * IntKind.wrap IntKind.i64 ((7919 : Int) + Int.tmod (IntKind.wrap IntKind.i64 (IntKind.wrap IntKind.i64 (i1 + (1 : Int)) - (1 : Int))) (↑(List.length r0) : Int))))) i2 (fun i5 => letV (IntKind.wrap IntKind.i64 (i4 + IntKind.wrap IntKind.i64 (IntKind.wrap IntKind.i64 (Int.tdiv (IntKind.wrap IntKind.i64 (IntKind.wrap IntKind.i64 (i1 + (1 : Int)) - (1 : Int))) (↑(List.length r0) : Int)) * IntKind.wrap IntKind.i64 ((7919 : Int) + Int.tmod (IntKind.wrap IntKind.i64 (IntKind.wrap IntKind.i64 (i1 + (1 : Int)) - (1 : Int))) (↑(List.length r0) : Int))))) (fun i6 => letV (IntKind.wrap IntKind.i64 (IntKind.wrap IntKind.i64 (Int.tdiv (IntKind.wrap IntKind.i64 (IntKind.wrap IntKind.i64 (i1 + (1 : Int)) - (1 : Int))) (↑(List.length r0) : Int)) * IntKind.wrap IntKind.i64 ((7919 : Int) + Int.tmod (IntKind.wrap IntKind.i64 (IntKind.wrap IntKind.i64 (i1 + (1 : Int)) - (1 : Int))) (↑(List.length r0) : Int)))) (fun i7 => k i5 (IntKind.wrap IntKind.i64 (i1 + (1 : Int)))))))) else
 (none)) else
 (none)) else
 (none))
noncomputable def brFn23 (m : Nat) (T : Tbl) (R : Type) (vs : List V) (k : V → List V → Option R) : Option R := match vs with
 | [.obj [.f (.lst [.int .i64] r0), .f (.lit (.int .i64 i1))], .f (.lit (.int .i64 i2))] => Fn23 m r0 i1 i2 (fun i8 i9 => k (V.f (F.lit (Value.int IntKind.i64 i8))) (W3 r0 i9))
 | _ => T R 23 vs k
set_option maxRecDepth 100000 in
theorem evFn23 (m : Nat) (R : Type) (r0 : Abs.Rows) (i1 i2 : Int) (k : V → List V → Option R) : runK Tryd.prog H (T1 m) (L0 m) 23 (W4 r0 i1 i2) k = Fn23 (m + 1) r0 i1 i2 (fun i8 i9 => k (V.f (F.lit (Value.int IntKind.i64 i8))) (W3 r0 i9)) := by kernel_rfl
noncomputable def T2 (m : Nat) : Tbl := addT 23 (brFn23 m (T1 m)) (T1 m)
theorem okT2 (m : Nat) : TblOk Tryd.prog (T2 m) := addT_ok (okT1 m) fun R vs k x h => by
 unfold brFn23 at h
 split at h
 ·cases m with
  | zero => cases h
  | succ m => exact runK_some (okT1 m) hM (okL0 m) ((evFn23 m R _ _ _ k).trans h)
 ·exact okT1 m R 23 _ k x h

/-- - -/
noncomputable def Fn22 {R : Type} (m : Nat) : Abs.Rows → Int → Int → (Bool → Int → Option R) → Option R := match m with
 | 0 => fun _ _ _ _ => none
 | m + 1 => fun r0 i1 i2 k =>
 Fn23 m r0 i1 i2 (fun i3 i4 => k (i3 == (0 : Int)) i4)
noncomputable def brFn22 (m : Nat) (T : Tbl) (R : Type) (vs : List V) (k : V → List V → Option R) : Option R := match vs with
 | [.obj [.f (.lst [.int .i64] r0), .f (.lit (.int .i64 i1))], .f (.lit (.int .i64 i2))] => Fn22 m r0 i1 i2 (fun b5 i6 => k (V.f (F.lit (Value.bool b5))) (W3 r0 i6))
 | _ => T R 22 vs k
set_option maxRecDepth 100000 in
theorem evFn22 (m : Nat) (R : Type) (r0 : Abs.Rows) (i1 i2 : Int) (k : V → List V → Option R) : runK Tryd.prog H (T2 m) (L0 m) 22 (W4 r0 i1 i2) k = Fn22 (m + 1) r0 i1 i2 (fun b5 i6 => k (V.f (F.lit (Value.bool b5))) (W3 r0 i6)) := by kernel_rfl
noncomputable def T3 (m : Nat) : Tbl := addT 22 (brFn22 m (T2 m)) (T2 m)
theorem okT3 (m : Nat) : TblOk Tryd.prog (T3 m) := addT_ok (okT2 m) fun R vs k x h => by
 unfold brFn22 at h
 split at h
 ·cases m with
  | zero => cases h
  | succ m => exact runK_some (okT2 m) hM (okL0 m) ((evFn22 m R _ _ _ k).trans h)
 ·exact okT2 m R 22 _ k x h

abbrev W5 (a0 : Abs.Rows) (a1 : Int) (a2 : Abs.Rows) : List V := [.obj [.f (.lst [.int .i64] a0), .f (.lit (.int .i64 a1))], .bor [.int .i64] a2]
/-- - -/
noncomputable def Fn7 {R : Type} (m : Nat) : Abs.Rows → Int → Abs.Rows → (Int → Int → Option R) → Option R := match m with
 | 0 => fun _ _ _ _ => none
 | m + 1 => fun r0 i1 r2 k =>
 Fn23 m r0 i1 ((↑(List.length r2) : Int)) (fun i3 i4 => bif decide ((0 : Int) ≤ i3 ∧ i3 < (↑(List.length r2) : Int)) then (k (fI r2 (Int.toNat i3) (0 : Nat)) i4) else
 (none))
noncomputable def brFn7 (m : Nat) (T : Tbl) (R : Type) (vs : List V) (k : V → List V → Option R) : Option R := match vs with
 | [.obj [.f (.lst [.int .i64] r0), .f (.lit (.int .i64 i1))], .bor [.int .i64] r2] => Fn7 m r0 i1 r2 (fun i5 i6 => k (V.f (F.lit (Value.int IntKind.i64 i5))) (W3 r0 i6))
 | _ => T R 7 vs k
set_option maxRecDepth 100000 in
theorem evFn7 (m : Nat) (R : Type) (r0 : Abs.Rows) (i1 : Int) (r2 : Abs.Rows) (k : V → List V → Option R) : runK Tryd.prog H (T3 m) (L0 m) 7 (W5 r0 i1 r2) k = Fn7 (m + 1) r0 i1 r2 (fun i5 i6 => k (V.f (F.lit (Value.int IntKind.i64 i5))) (W3 r0 i6)) := by kernel_rfl
noncomputable def T4 (m : Nat) : Tbl := addT 7 (brFn7 m (T3 m)) (T3 m)
theorem okT4 (m : Nat) : TblOk Tryd.prog (T4 m) := addT_ok (okT3 m) fun R vs k x h => by
 unfold brFn7 at h
 split at h
 ·cases m with
  | zero => cases h
  | succ m => exact runK_some (okT3 m) hM (okL0 m) ((evFn7 m R _ _ _ k).trans h)
 ·exact okT3 m R 7 _ k x h

abbrev W6 (a0 : Abs.Rows) (a1 : ByteArray) (a2 : Abs.Rows) (a3 a4 : Int) (a5 : Abs.Rows) (a6 : Int) (a7 : Abs.Rows) (a8 a9 : Int) (a10 : Abs.Rows) (a11 a12 : Int) (a13 : Abs.Rows) (a14 : Int) : List V := [.ref 81 0, .own [.nx none [1, 4], .str, .lst [.str, .int .i64], .int .i64, .int .i64, .lst [.int .i64, .int .i64], .int .i64] a0, .obj [.f (.lit (.string a1)), .own [.str, .int .i64] a2, .f (.lit (.int .i64 a3)), .f (.lit (.int .i64 a4)), .own [.int .i64, .int .i64] a5, .f (.lit (.int .i64 a6))], .own [.str] a7, .f (.lit (.int .i64 a8)), .f (.lit (.int .i64 a9)), .own [.str] a10, .f (.lit (.int .i64 a11)), .f (.lit (.int .i64 a12)), .obj [.f (.lst [.int .i64] a13), .f (.lit (.int .i64 a14))]]
/-- - -/
noncomputable def Lp21_11_step {R : Type} (m : Nat) (kx0 : Abs.Rows → Int → Int → Option R) (r0 : Abs.Rows) (s1 : ByteArray) (i2 i3 : Int) (r4 : Abs.Rows) (i5 : Int) (r6 : Abs.Rows) (i7 i8 : Int) (r9 : Abs.Rows) (i10 : Int) (r11 : Abs.Rows) (REC : Abs.Rows → Int → Int → Option R) (r12 : Abs.Rows) (i13 i14 : Int) : Option R :=
 bif decide (i13 < i10) then (bif decide ((0 : Int) ≤ i13 ∧ i13 < (↑(List.length r9) : Int)) then (Fn22 m r11 i14 ((3 : Int)) (fun b15 i16 => bif !b15 then (Fn7 m r11 i16 ([[F.lit (Value.int IntKind.i64 (1 : Int))], [F.lit (Value.int IntKind.i64 (1 : Int))], [F.lit (Value.int IntKind.i64 (2 : Int))], [F.lit (Value.int IntKind.i64 (5 : Int))]]) (fun i17 i18 => bif decide (List.length r12 + List.length [[F.lit (Value.string (fS r9 (Int.toNat i13) (0 : Nat))), F.lit (Value.int IntKind.i64 i17)]] ≤ rowMax) then (letV (r12 ++ [[F.lit (Value.string (fS r9 (Int.toNat i13) (0 : Nat))), F.lit (Value.int IntKind.i64 i17)]]) (fun r19 => REC r19 (IntKind.wrap IntKind.i64 (i13 + (1 : Int))) i18)) else
 (none))) else
 (REC r12 (IntKind.wrap IntKind.i64 (i13 + (1 : Int))) i16))) else
 (none)) else
 (kx0 r12 i13 i14)
noncomputable def Lp21_11 {R : Type} (m : Nat) (kx0 : Abs.Rows → Int → Int → Option R) (r0 : Abs.Rows) (s1 : ByteArray) (i2 i3 : Int) (r4 : Abs.Rows) (i5 : Int) (r6 : Abs.Rows) (i7 i8 : Int) (r9 : Abs.Rows) (i10 : Int) (r11 : Abs.Rows) : Nat → Abs.Rows → Int → Int → Option R
 | 0, _, _, _ => none
 | n + 1, r12, i13, i14 => Lp21_11_step m kx0 r0 s1 i2 i3 r4 i5 r6 i7 i8 r9 i10 r11 (Lp21_11 m kx0 r0 s1 i2 i3 r4 i5 r6 i7 i8 r9 i10 r11 n) r12 i13 i14
noncomputable def ELp21_11 (m : Nat) (R : Type) : Nat → List V → (Ex → List V → Option R) → Option R
 | 0, _, _ => none
 | n + 1, vs, k => match vs with
  | [.ref 81 0, .own [.nx none [1, 4], .str, .lst [.str, .int .i64], .int .i64, .int .i64, .lst [.int .i64, .int .i64], .int .i64] r0, .obj [.f (.lit (.string s1)), .own [.str, .int .i64] r12, .f (.lit (.int .i64 i2)), .f (.lit (.int .i64 i3)), .own [.int .i64, .int .i64] r4, .f (.lit (.int .i64 i5))], .own [.str] r6, .f (.lit (.int .i64 i7)), .f (.lit (.int .i64 i8)), .own [.str] r9, .f (.lit (.int .i64 i10)), .f (.lit (.int .i64 i13)), .obj [.f (.lst [.int .i64] r11), .f (.lit (.int .i64 i14))]] => Lp21_11_step m (fun r20 i21 i22 => k (Ex.exit (2 : Nat)) (W6 r0 s1 r20 i2 i3 r4 i5 r6 i7 i8 r9 i10 i21 r11 i22)) r0 s1 i2 i3 r4 i5 r6 i7 i8 r9 i10 r11 (fun r12 i13 i14 => ELp21_11 m R n (W6 r0 s1 r12 i2 i3 r4 i5 r6 i7 i8 r9 i10 i13 r11 i14) k) r12 i13 i14
  | _ => none
noncomputable def brLp21_11 (m : Nat) (L : LTbl) (R : Type) (vs : List V) (k : Ex → List V → Option R) : Option R := match vs with
 | [.ref 81 0, .own [.nx none [1, 4], .str, .lst [.str, .int .i64], .int .i64, .int .i64, .lst [.int .i64, .int .i64], .int .i64] r0, .obj [.f (.lit (.string s1)), .own [.str, .int .i64] r12, .f (.lit (.int .i64 i2)), .f (.lit (.int .i64 i3)), .own [.int .i64, .int .i64] r4, .f (.lit (.int .i64 i5))], .own [.str] r6, .f (.lit (.int .i64 i7)), .f (.lit (.int .i64 i8)), .own [.str] r9, .f (.lit (.int .i64 i10)), .f (.lit (.int .i64 i13)), .obj [.f (.lst [.int .i64] r11), .f (.lit (.int .i64 i14))]] => Lp21_11 m (fun r20 i21 i22 => k (Ex.exit (2 : Nat)) (W6 r0 s1 r20 i2 i3 r4 i5 r6 i7 i8 r9 i10 i21 r11 i22)) r0 s1 i2 i3 r4 i5 r6 i7 i8 r9 i10 r11 m r12 i13 i14
 | _ => L R 21 11 vs k
set_option maxRecDepth 100000 in
theorem stLp21_11 (m n : Nat) (R : Type) (r0 : Abs.Rows) (s1 : ByteArray) (r12 : Abs.Rows) (i2 i3 : Int) (r4 : Abs.Rows) (i5 : Int) (r6 : Abs.Rows) (i7 i8 : Int) (r9 : Abs.Rows) (i10 i13 : Int) (r11 : Abs.Rows) (i14 : Int) (k : Ex → List V → Option R) : codeK Tryd.prog H (T4 m) 21 (L0 m) 12 (loopBody Tryd.prog 21 11) (mkEnv [0, 3, 6, 10, 11, 12, 30, 31, 32, 81] (W6 r0 s1 r12 i2 i3 r4 i5 r6 i7 i8 r9 i10 i13 r11 i14) 0 (H.len 21)) (fun e env' => match e with | .normal => ELp21_11 m R n (vals [0, 3, 6, 10, 11, 12, 30, 31, 32, 81] env') k | e => k e (vals [0, 3, 6, 10, 11, 12, 30, 31, 32, 81] env')) = Lp21_11_step m (fun r20 i21 i22 => k (Ex.exit (2 : Nat)) (W6 r0 s1 r20 i2 i3 r4 i5 r6 i7 i8 r9 i10 i21 r11 i22)) r0 s1 i2 i3 r4 i5 r6 i7 i8 r9 i10 r11 (fun r12 i13 i14 => ELp21_11 m R n (W6 r0 s1 r12 i2 i3 r4 i5 r6 i7 i8 r9 i10 i13 r11 i14) k) r12 i13 i14 := by kernel_rfl
theorem eqLp21_11 (m : Nat) (R : Type) (r0 : Abs.Rows) (s1 : ByteArray) (i2 i3 : Int) (r4 : Abs.Rows) (i5 : Int) (r6 : Abs.Rows) (i7 i8 : Int) (r9 : Abs.Rows) (i10 : Int) (r11 : Abs.Rows) (k : Ex → List V → Option R) : ∀ (n : Nat) (r12 : Abs.Rows) (i13 i14 : Int), ELp21_11 m R n (W6 r0 s1 r12 i2 i3 r4 i5 r6 i7 i8 r9 i10 i13 r11 i14) k = Lp21_11 m (fun r20 i21 i22 => k (Ex.exit (2 : Nat)) (W6 r0 s1 r20 i2 i3 r4 i5 r6 i7 i8 r9 i10 i21 r11 i22)) r0 s1 i2 i3 r4 i5 r6 i7 i8 r9 i10 r11 n r12 i13 i14
 | 0, _, _, _ => rfl
 | n + 1, r12, i13, i14 => by
  simp only [ELp21_11, Lp21_11, W6]
  congr 1
  funext r12 i13 i14
  exact eqLp21_11 m R r0 s1 i2 i3 r4 i5 r6 i7 i8 r9 i10 r11 k n r12 i13 i14
noncomputable def L1 (m : Nat) : LTbl := addB 21 11 (brLp21_11 m (L0 m)) (L0 m)
theorem okL1 (m : Nat) : LTOk Tryd.prog H (L1 m) := addB_ok (okT4 m) hM (okL0 m) (l := [0, 3, 6, 10, 11, 12, 30, 31, 32, 81]) (by kernel_rfl) (by kernel_rfl) m (fun R n vs k => ELp21_11 m R n vs k) (fun R vs k => rfl) (fun R n vs k x h => by
   simp only [ELp21_11] at h
   split at h
   ·exact (stLp21_11 m n R _ _ _ _ _ _ _ _ _ _ _ _ _ _ _ k).trans h
   ·cases h) fun R vs k x h => by
  unfold brLp21_11 at h
  split at h
  ·exact .inl ((eqLp21_11 m R _ _ _ _ _ _ _ _ _ _ _ _ k m _ _ _).trans h)
  ·exact .inr h

abbrev W7 (a0 : Abs.Rows) (a1 : ByteArray) (a2 a3 a4 : Int) (a5 : Abs.Rows) (a6 a7 : Int) (a8 : Abs.Rows) (a9 : Int) : List V := [.ref 81 0, .own [.nx none [1, 4], .str, .lst [.str, .int .i64], .int .i64, .int .i64, .lst [.int .i64, .int .i64], .int .i64] a0, .obj [.f (.lit (.string a1)), .undef, .f (.lit (.int .i64 a2)), .f (.lit (.int .i64 a3)), .undef, .f (.lit (.int .i64 a4))], .own [.str] a5, .f (.lit (.int .i64 a6)), .f (.lit (.int .i64 a7)), .undef, .obj [.f (.lst [.int .i64] a8), .f (.lit (.int .i64 a9))]]
abbrev W8 (a0 : Abs.Rows) (a1 : ByteArray) (a2 : Abs.Rows) (a3 a4 : Int) (a5 : Abs.Rows) (a6 : Int) (a7 : Abs.Rows) (a8 a9 : Int) (a10 : Abs.Rows) (a11 : Int) : List V := [.ref 81 0, .own [.nx none [1, 4], .str, .lst [.str, .int .i64], .int .i64, .int .i64, .lst [.int .i64, .int .i64], .int .i64] a0, .obj [.f (.lit (.string a1)), .own [.str, .int .i64] a2, .f (.lit (.int .i64 a3)), .f (.lit (.int .i64 a4)), .own [.int .i64, .int .i64] a5, .f (.lit (.int .i64 a6))], .own [.str] a7, .f (.lit (.int .i64 a8)), .f (.lit (.int .i64 a9)), .undef, .obj [.f (.lst [.int .i64] a10), .f (.lit (.int .i64 a11))]]
/-- - -/
noncomputable def Jn21_20 {R : Type} (m : Nat) (kx0 : Abs.Rows → Int → Option R) (r0 : Abs.Rows) (s1 : ByteArray) (r2 : Abs.Rows) (i3 i4 : Int) (r5 : Abs.Rows) (i6 : Int) (r7 : Abs.Rows) (i8 i9 : Int) (r10 : Abs.Rows) (i11 : Int) : Option R :=
 Fn22 m r10 i11 ((6 : Int)) (fun b12 i13 => bif b12 then (bif decide (List.length r5 + List.length [[F.lit (Value.int IntKind.i64 (60 : Int)), F.lit (Value.int IntKind.i64 (90 : Int))]] ≤ rowMax) then (letV (r5 ++ [[F.lit (Value.int IntKind.i64 (60 : Int)), F.lit (Value.int IntKind.i64 (90 : Int))]]) (fun r14 => bif decide (List.length r0 + List.length [[F.lit (Value.string s1), F.lst [LT.str, LT.int IntKind.i64] r2, F.lit (Value.int IntKind.i64 i3), F.lit (Value.int IntKind.i64 i4), F.lst [LT.int IntKind.i64, LT.int IntKind.i64] r14, F.lit (Value.int IntKind.i64 i6)]] ≤ rowMax) then (letV (r0 ++ [[F.lit (Value.string s1), F.lst [LT.str, LT.int IntKind.i64] r2, F.lit (Value.int IntKind.i64 i3), F.lit (Value.int IntKind.i64 i4), F.lst [LT.int IntKind.i64, LT.int IntKind.i64] r14, F.lit (Value.int IntKind.i64 i6)]]) (fun r15 => kx0 r15 i13)) else
 (none))) else
 (none)) else
 (bif decide (List.length r0 + List.length [[F.lit (Value.string s1), F.lst [LT.str, LT.int IntKind.i64] r2, F.lit (Value.int IntKind.i64 i3), F.lit (Value.int IntKind.i64 i4), F.lst [LT.int IntKind.i64, LT.int IntKind.i64] r5, F.lit (Value.int IntKind.i64 i6)]] ≤ rowMax) then (letV (r0 ++ [[F.lit (Value.string s1), F.lst [LT.str, LT.int IntKind.i64] r2, F.lit (Value.int IntKind.i64 i3), F.lit (Value.int IntKind.i64 i4), F.lst [LT.int IntKind.i64, LT.int IntKind.i64] r5, F.lit (Value.int IntKind.i64 i6)]]) (fun r16 => kx0 r16 i13)) else
 (none)))
noncomputable def brJn21_20 (m : Nat) (L : LTbl) (R : Type) (vs : List V) (k : Ex → List V → Option R) : Option R := match vs with
 | [.ref 81 0, .own [.nx none [1, 4], .str, .lst [.str, .int .i64], .int .i64, .int .i64, .lst [.int .i64, .int .i64], .int .i64] r0, .obj [.f (.lit (.string s1)), .own [.str, .int .i64] r2, .f (.lit (.int .i64 i3)), .f (.lit (.int .i64 i4)), .own [.int .i64, .int .i64] r5, .f (.lit (.int .i64 i6))], .own [.str] r7, .f (.lit (.int .i64 i8)), .f (.lit (.int .i64 i9)), .undef, .obj [.f (.lst [.int .i64] r10), .f (.lit (.int .i64 i11))]] => Jn21_20 m (fun r17 i18 => k Ex.normal (W7 r17 s1 i3 i4 i6 r7 i8 i9 r10 i18)) r0 s1 r2 i3 i4 r5 i6 r7 i8 i9 r10 i11
 | _ => L R 21 20 vs k
set_option maxRecDepth 100000 in
theorem evJn21_20 (m : Nat) (R : Type) (r0 : Abs.Rows) (s1 : ByteArray) (r2 : Abs.Rows) (i3 i4 : Int) (r5 : Abs.Rows) (i6 : Int) (r7 : Abs.Rows) (i8 i9 : Int) (r10 : Abs.Rows) (i11 : Int) (k : Ex → List V → Option R) : codeK Tryd.prog H (T4 m) 21 (L1 m) 21 (loopBody Tryd.prog 21 20) (mkEnv [0, 3, 6, 10, 11, 12, 78, 81] (W8 r0 s1 r2 i3 i4 r5 i6 r7 i8 i9 r10 i11) 0 (H.len 21)) (fun e env' => k e (vals [0, 3, 6, 10, 11, 12, 78, 81] env')) = Jn21_20 m (fun r17 i18 => k Ex.normal (W7 r17 s1 i3 i4 i6 r7 i8 i9 r10 i18)) r0 s1 r2 i3 i4 r5 i6 r7 i8 i9 r10 i11 := by kernel_rfl
noncomputable def L2 (m : Nat) : LTbl := addJ 21 20 (brJn21_20 m (L1 m)) (L1 m)
theorem okL2 (m : Nat) : LTOk Tryd.prog H (L2 m) := addJ_ok (okT4 m) hM (okL1 m) (l := [0, 3, 6, 10, 11, 12, 78, 81]) (by kernel_rfl) (by kernel_rfl) fun R vs k x h => by
  unfold brJn21_20 at h
  split at h
  ·exact .inl ((evJn21_20 m R _ _ _ _ _ _ _ _ _ _ _ _ k).trans h)
  ·exact .inr h

abbrev W9 (a0 a1 : Abs.Rows) (a2 a3 : Int) (a4 : Abs.Rows) (a5 : Int) : List V := [.ref 81 0, .own [.nx none [1, 4], .str, .lst [.str, .int .i64], .int .i64, .int .i64, .lst [.int .i64, .int .i64], .int .i64] a0, .own [.str] a1, .f (.lit (.int .i64 a2)), .f (.lit (.int .i64 a3)), .obj [.f (.lst [.int .i64] a4), .f (.lit (.int .i64 a5))]]
abbrev K1Lp21_3 {R : Type} (k : Ex → List V → Option R) (r0 : Abs.Rows) (i1 : Int) (r2 : Abs.Rows) : Abs.Rows → Int → Int → Option R := fun r3 i4 i5 => k (Ex.exit (0 : Nat)) (W9 r3 r0 i1 i4 r2 i5)
/-- - -/
noncomputable def Lp21_3_step {R : Type} (m : Nat) (kx0 : Abs.Rows → Int → Int → Option R) (r0 : Abs.Rows) (i1 : Int) (r2 : Abs.Rows) (REC : Abs.Rows → Int → Int → Option R) (r6 : Abs.Rows) (i7 i8 : Int) : Option R :=
 bif decide (i7 < i1) then (bif decide ((0 : Int) ≤ i7 ∧ i7 < (↑(List.length r0) : Int)) then (Fn22 m r2 i8 ((5 : Int)) (fun b9 i10 => bif b9 then (REC r6 (IntKind.wrap IntKind.i64 (i7 + (1 : Int))) i10) else
 (Fn7 m r2 i10 ([[F.lit (Value.int IntKind.i64 (0 : Int))], [F.lit (Value.int IntKind.i64 (0 : Int))], [F.lit (Value.int IntKind.i64 (0 : Int))], [F.lit (Value.int IntKind.i64 (20 : Int))]]) (fun i11 i12 => Fn7 m r2 i12 ([[F.lit (Value.int IntKind.i64 (60 : Int))], [F.lit (Value.int IntKind.i64 (200 : Int))], [F.lit (Value.int IntKind.i64 (1000 : Int))]]) (fun i13 i14 => Fn7 m r2 i14 ([[F.lit (Value.int IntKind.i64 (0 : Int))], [F.lit (Value.int IntKind.i64 (0 : Int))], [F.lit (Value.int IntKind.i64 (5 : Int))], [F.lit (Value.int IntKind.i64 (10 : Int))]]) (fun i15 i16 => Lp21_11 m (fun r17 i18 i19 => Fn22 m r2 i19 ((3 : Int)) (fun b20 i21 => bif b20 then (Fn7 m r2 i21 ([[F.lit (Value.int IntKind.i64 (0 : Int))], [F.lit (Value.int IntKind.i64 (10 : Int))], [F.lit (Value.int IntKind.i64 (30 : Int))]]) (fun i22 i23 => Fn7 m r2 i23 ([[F.lit (Value.int IntKind.i64 (5 : Int))], [F.lit (Value.int IntKind.i64 (20 : Int))]]) (fun i24 i25 => Jn21_20 m (fun r26 i27 => REC r26 (IntKind.wrap IntKind.i64 (i7 + (1 : Int))) i27) r6 (fS r0 (Int.toNat i7) (0 : Nat)) r17 i11 i13 ([[F.lit (Value.int IntKind.i64 i22), F.lit (Value.int IntKind.i64 (IntKind.wrap IntKind.i64 (i22 + i24)))]]) i15 r0 i1 i7 r2 i25))) else
 (Jn21_20 m (fun r28 i29 => REC r28 (IntKind.wrap IntKind.i64 (i7 + (1 : Int))) i29) r6 (fS r0 (Int.toNat i7) (0 : Nat)) r17 i11 i13 rows0 i15 r0 i1 i7 r2 i21))) r6 (fS r0 (Int.toNat i7) (0 : Nat)) i11 i13 rows0 i15 r0 i1 i7 ([[F.lit (Value.string { data := #[(104 : UInt8), (101 : UInt8), (108 : UInt8), (112 : UInt8)] })], [F.lit (Value.string { data := #[(115 : UInt8), (97 : UInt8), (108 : UInt8), (101 : UInt8)] })]]) ((↑(List.length [[F.lit (Value.string { data := #[(104 : UInt8), (101 : UInt8), (108 : UInt8), (112 : UInt8)] })], [F.lit (Value.string { data := #[(115 : UInt8), (97 : UInt8), (108 : UInt8), (101 : UInt8)] })]]) : Int)) r2 m rows0 ((0 : Int)) i16)))))) else
 (none)) else
 (kx0 r6 i7 i8)
noncomputable def Lp21_3 {R : Type} (m : Nat) (kx0 : Abs.Rows → Int → Int → Option R) (r0 : Abs.Rows) (i1 : Int) (r2 : Abs.Rows) : Nat → Abs.Rows → Int → Int → Option R
 | 0, _, _, _ => none
 | n + 1, r6, i7, i8 => Lp21_3_step m kx0 r0 i1 r2 (Lp21_3 m kx0 r0 i1 r2 n) r6 i7 i8
noncomputable def ELp21_3 (m : Nat) (R : Type) : Nat → List V → (Ex → List V → Option R) → Option R
 | 0, _, _ => none
 | n + 1, vs, k => match vs with
  | [.ref 81 0, .own [.nx none [1, 4], .str, .lst [.str, .int .i64], .int .i64, .int .i64, .lst [.int .i64, .int .i64], .int .i64] r6, .own [.str] r0, .f (.lit (.int .i64 i1)), .f (.lit (.int .i64 i7)), .obj [.f (.lst [.int .i64] r2), .f (.lit (.int .i64 i8))]] => Lp21_3_step m (K1Lp21_3 k r0 i1 r2) r0 i1 r2 (fun r6 i7 i8 => ELp21_3 m R n (W9 r6 r0 i1 i7 r2 i8) k) r6 i7 i8
  | _ => none
noncomputable def brLp21_3 (m : Nat) (L : LTbl) (R : Type) (vs : List V) (k : Ex → List V → Option R) : Option R := match vs with
 | [.ref 81 0, .own [.nx none [1, 4], .str, .lst [.str, .int .i64], .int .i64, .int .i64, .lst [.int .i64, .int .i64], .int .i64] r6, .own [.str] r0, .f (.lit (.int .i64 i1)), .f (.lit (.int .i64 i7)), .obj [.f (.lst [.int .i64] r2), .f (.lit (.int .i64 i8))]] => Lp21_3 m (K1Lp21_3 k r0 i1 r2) r0 i1 r2 m r6 i7 i8
 | _ => L R 21 3 vs k
set_option maxRecDepth 100000 in
theorem stLp21_3 (m n : Nat) (R : Type) (r6 r0 : Abs.Rows) (i1 i7 : Int) (r2 : Abs.Rows) (i8 : Int) (k : Ex → List V → Option R) : codeK Tryd.prog H (T4 m) 21 (L2 m) 4 (loopBody Tryd.prog 21 3) (mkEnv [0, 3, 10, 11, 12, 81] (W9 r6 r0 i1 i7 r2 i8) 0 (H.len 21)) (fun e env' => match e with | .normal => ELp21_3 m R n (vals [0, 3, 10, 11, 12, 81] env') k | e => k e (vals [0, 3, 10, 11, 12, 81] env')) = Lp21_3_step m (K1Lp21_3 k r0 i1 r2) r0 i1 r2 (fun r6 i7 i8 => ELp21_3 m R n (W9 r6 r0 i1 i7 r2 i8) k) r6 i7 i8 := by kernel_rfl
theorem eqLp21_3 (m : Nat) (R : Type) (r0 : Abs.Rows) (i1 : Int) (r2 : Abs.Rows) (k : Ex → List V → Option R) : ∀ (n : Nat) (r6 : Abs.Rows) (i7 i8 : Int), ELp21_3 m R n (W9 r6 r0 i1 i7 r2 i8) k = Lp21_3 m (K1Lp21_3 k r0 i1 r2) r0 i1 r2 n r6 i7 i8
 | 0, _, _, _ => rfl
 | n + 1, r6, i7, i8 => by
  simp only [ELp21_3, Lp21_3, W9]
  congr 1
  funext r6 i7 i8
  exact eqLp21_3 m R r0 i1 r2 k n r6 i7 i8
noncomputable def L3 (m : Nat) : LTbl := addB 21 3 (brLp21_3 m (L2 m)) (L2 m)
theorem okL3 (m : Nat) : LTOk Tryd.prog H (L3 m) := addB_ok (okT4 m) hM (okL2 m) (l := [0, 3, 10, 11, 12, 81]) (by kernel_rfl) (by kernel_rfl) m (fun R n vs k => ELp21_3 m R n vs k) (fun R vs k => rfl) (fun R n vs k x h => by
   simp only [ELp21_3] at h
   split at h
   ·exact (stLp21_3 m n R _ _ _ _ _ _ k).trans h
   ·cases h) fun R vs k x h => by
  unfold brLp21_3 at h
  split at h
  ·exact .inl ((eqLp21_3 m R _ _ _ k m _ _ _).trans h)
  ·exact .inr h

abbrev W10 (a0 : Abs.Rows) (a1 : Int) : List V := [.obj [.f (.lst [.int .i64] a0), .f (.lit (.int .i64 a1))]]
/-- - -/
noncomputable def Fn21 {R : Type} (m : Nat) : Abs.Rows → Int → (Abs.Rows → Int → Option R) → Option R := match m with
 | 0 => fun _ _ _ => none
 | m + 1 => fun r0 i1 k =>
 Lp21_3 m (fun r2 i3 i4 => k r2 i4) ([[F.lit (Value.string { data := #[(97 : UInt8), (97 : UInt8)] })], [F.lit (Value.string { data := #[(97 : UInt8), (98 : UInt8)] })], [F.lit (Value.string { data := #[(97 : UInt8), (99 : UInt8)] })]]) ((↑(List.length [[F.lit (Value.string { data := #[(97 : UInt8), (97 : UInt8)] })], [F.lit (Value.string { data := #[(97 : UInt8), (98 : UInt8)] })], [F.lit (Value.string { data := #[(97 : UInt8), (99 : UInt8)] })]]) : Int)) r0 m rows0 ((0 : Int)) i1
noncomputable def brFn21 (m : Nat) (T : Tbl) (R : Type) (vs : List V) (k : V → List V → Option R) : Option R := match vs with
 | [.obj [.f (.lst [.int .i64] r0), .f (.lit (.int .i64 i1))]] => Fn21 m r0 i1 (fun r5 i6 => k (V.own [LT.nx none [(1 : Nat), (4 : Nat)], LT.str, LT.lst [LT.str, LT.int IntKind.i64], LT.int IntKind.i64, LT.int IntKind.i64, LT.lst [LT.int IntKind.i64, LT.int IntKind.i64], LT.int IntKind.i64] r5) (W10 r0 i6))
 | _ => T R 21 vs k
set_option maxRecDepth 100000 in
theorem evFn21 (m : Nat) (R : Type) (r0 : Abs.Rows) (i1 : Int) (k : V → List V → Option R) : runK Tryd.prog H (T4 m) (L3 m) 21 (W10 r0 i1) k = Fn21 (m + 1) r0 i1 (fun r5 i6 => k (V.own [LT.nx none [(1 : Nat), (4 : Nat)], LT.str, LT.lst [LT.str, LT.int IntKind.i64], LT.int IntKind.i64, LT.int IntKind.i64, LT.lst [LT.int IntKind.i64, LT.int IntKind.i64], LT.int IntKind.i64] r5) (W10 r0 i6)) := by kernel_rfl
noncomputable def T5 (m : Nat) : Tbl := addT 21 (brFn21 m (T4 m)) (T4 m)
theorem okT5 (m : Nat) : TblOk Tryd.prog (T5 m) := addT_ok (okT4 m) fun R vs k x h => by
 unfold brFn21 at h
 split at h
 ·cases m with
  | zero => cases h
  | succ m => exact runK_some (okT4 m) hM (okL3 m) ((evFn21 m R _ _ k).trans h)
 ·exact okT4 m R 21 _ k x h

abbrev W11 (a0 : Abs.Rows) (a1 : Int) (a2 : Abs.Rows) : List V := [.obj [.f (.lst [.int .i64] a0), .f (.lit (.int .i64 a1))], .bor [.str] a2]
/-- - -/
noncomputable def Fn24 {R : Type} (m : Nat) : Abs.Rows → Int → Abs.Rows → (ByteArray → Int → Option R) → Option R := match m with
 | 0 => fun _ _ _ _ => none
 | m + 1 => fun r0 i1 r2 k =>
 Fn23 m r0 i1 ((↑(List.length r2) : Int)) (fun i3 i4 => bif decide ((0 : Int) ≤ i3 ∧ i3 < (↑(List.length r2) : Int)) then (k (fS r2 (Int.toNat i3) (0 : Nat)) i4) else
 (none))
noncomputable def brFn24 (m : Nat) (T : Tbl) (R : Type) (vs : List V) (k : V → List V → Option R) : Option R := match vs with
 | [.obj [.f (.lst [.int .i64] r0), .f (.lit (.int .i64 i1))], .bor [.str] r2] => Fn24 m r0 i1 r2 (fun s5 i6 => k (V.f (F.lit (Value.string s5))) (W3 r0 i6))
 | _ => T R 24 vs k
set_option maxRecDepth 100000 in
theorem evFn24 (m : Nat) (R : Type) (r0 : Abs.Rows) (i1 : Int) (r2 : Abs.Rows) (k : V → List V → Option R) : runK Tryd.prog H (T5 m) (L3 m) 24 (W11 r0 i1 r2) k = Fn24 (m + 1) r0 i1 r2 (fun s5 i6 => k (V.f (F.lit (Value.string s5))) (W3 r0 i6)) := by kernel_rfl
noncomputable def T6 (m : Nat) : Tbl := addT 24 (brFn24 m (T5 m)) (T5 m)
theorem okT6 (m : Nat) : TblOk Tryd.prog (T6 m) := addT_ok (okT5 m) fun R vs k x h => by
 unfold brFn24 at h
 split at h
 ·cases m with
  | zero => cases h
  | succ m => exact runK_some (okT5 m) hM (okL3 m) ((evFn24 m R _ _ _ k).trans h)
 ·exact okT5 m R 24 _ k x h

abbrev W12 (a0 : Abs.Rows) (a1 : Int) : List V := [.obj [.f (.lst [.int .i64] a0), .f (.lit (.int .i64 a1))], .undef, .undef]
abbrev W13 (a0 : Abs.Rows) (a1 a2 a3 : Int) : List V := [.obj [.f (.lst [.int .i64] a0), .f (.lit (.int .i64 a1))], .f (.lit (.int .i64 a2)), .f (.lit (.int .i64 a3))]
/-- - -/
noncomputable def Fn46 {R : Type} (m : Nat) : Abs.Rows → Int → Int → Int → (Int → Int → Option R) → Option R := match m with
 | 0 => fun _ _ _ _ _ => none
 | m + 1 => fun r0 i1 i2 i3 k =>
 bif decide (i3 < i2) then (k i2 i1) else
 (Fn23 m r0 i1 (IntKind.wrap IntKind.i64 (IntKind.wrap IntKind.i64 (i3 - i2) + (1 : Int))) (fun i4 i5 => k (IntKind.wrap IntKind.i64 (i2 + i4)) i5))
noncomputable def brFn46 (m : Nat) (T : Tbl) (R : Type) (vs : List V) (k : V → List V → Option R) : Option R := match vs with
 | [.obj [.f (.lst [.int .i64] r0), .f (.lit (.int .i64 i1))], .f (.lit (.int .i64 i2)), .f (.lit (.int .i64 i3))] => Fn46 m r0 i1 i2 i3 (fun i6 i7 => k (V.f (F.lit (Value.int IntKind.i64 i6))) (W12 r0 i7))
 | _ => T R 46 vs k
set_option maxRecDepth 100000 in
theorem evFn46 (m : Nat) (R : Type) (r0 : Abs.Rows) (i1 i2 i3 : Int) (k : V → List V → Option R) : runK Tryd.prog H (T6 m) (L3 m) 46 (W13 r0 i1 i2 i3) k = Fn46 (m + 1) r0 i1 i2 i3 (fun i6 i7 => k (V.f (F.lit (Value.int IntKind.i64 i6))) (W12 r0 i7)) := by kernel_rfl
noncomputable def T7 (m : Nat) : Tbl := addT 46 (brFn46 m (T6 m)) (T6 m)
theorem okT7 (m : Nat) : TblOk Tryd.prog (T7 m) := addT_ok (okT6 m) fun R vs k x h => by
 unfold brFn46 at h
 split at h
 ·cases m with
  | zero => cases h
  | succ m => exact runK_some (okT6 m) hM (okL3 m) ((evFn46 m R _ _ _ _ k).trans h)
 ·exact okT6 m R 46 _ k x h

/-- - -/
noncomputable def Fn25 {R : Type} (m : Nat) : Abs.Rows → Int → Int → Int → (Int → Int → Option R) → Option R := match m with
 | 0 => fun _ _ _ _ _ => none
 | m + 1 => fun r0 i1 i2 i3 k =>
 Fn22 m r0 i1 ((12 : Int)) (fun b4 i5 => bif b4 then (Fn7 m r0 i5 ([[F.lit (Value.int IntKind.i64 (IntKind.wrap IntKind.i64 (i2 - (1 : Int))))], [F.lit (Value.int IntKind.i64 (IntKind.wrap IntKind.i64 (i3 + (1 : Int))))], [F.lit (Value.int IntKind.i64 i2)], [F.lit (Value.int IntKind.i64 i3)], [F.lit (Value.int IntKind.i64 (-1099511627776 : Int))], [F.lit (Value.int IntKind.i64 (1099511627776 : Int))]]) (fun i6 i7 => k i6 i7)) else
 (Fn46 m r0 i5 i2 i3 (fun i8 i9 => k i8 i9)))
noncomputable def brFn25 (m : Nat) (T : Tbl) (R : Type) (vs : List V) (k : V → List V → Option R) : Option R := match vs with
 | [.obj [.f (.lst [.int .i64] r0), .f (.lit (.int .i64 i1))], .f (.lit (.int .i64 i2)), .f (.lit (.int .i64 i3))] => Fn25 m r0 i1 i2 i3 (fun i10 i11 => k (V.f (F.lit (Value.int IntKind.i64 i10))) (W12 r0 i11))
 | _ => T R 25 vs k
set_option maxRecDepth 100000 in
theorem evFn25 (m : Nat) (R : Type) (r0 : Abs.Rows) (i1 i2 i3 : Int) (k : V → List V → Option R) : runK Tryd.prog H (T7 m) (L3 m) 25 (W13 r0 i1 i2 i3) k = Fn25 (m + 1) r0 i1 i2 i3 (fun i10 i11 => k (V.f (F.lit (Value.int IntKind.i64 i10))) (W12 r0 i11)) := by kernel_rfl
noncomputable def T8 (m : Nat) : Tbl := addT 25 (brFn25 m (T7 m)) (T7 m)
theorem okT8 (m : Nat) : TblOk Tryd.prog (T8 m) := addT_ok (okT7 m) fun R vs k x h => by
 unfold brFn25 at h
 split at h
 ·cases m with
  | zero => cases h
  | succ m => exact runK_some (okT7 m) hM (okL3 m) ((evFn25 m R _ _ _ _ k).trans h)
 ·exact okT7 m R 25 _ k x h

abbrev W14 (a0 : Abs.Rows) (a1 : Bool) (a2 : Abs.Rows) (a3 : Int) : List V := [.ref 79 0, .own [.nx none [1, 4], .str, .lst [.str, .int .i64], .int .i64, .int .i64, .lst [.int .i64, .int .i64], .int .i64] a0, .undef, .f (.lit (.bool a1)), .obj [.f (.lst [.int .i64] a2), .f (.lit (.int .i64 a3))]]
/-- - -/
noncomputable def Jn4_2 {R : Type} (m : Nat) (kx0 : Abs.Rows → Bool → Int → Option R) (r0 : Abs.Rows) (b1 : Bool) (r2 : Abs.Rows) (i3 : Int) : Option R :=
 bif b1 then (Fn23 m r2 i3 ((↑(List.length r0) : Int)) (fun i4 i5 => bif decide ((0 : Int) ≤ i4 ∧ i4 < (↑(List.length r0) : Int)) then (Fn23 m r2 i5 ((5 : Int)) (fun i6 i7 => bif i6 == (0 : Int) then (Fn24 m r2 i7 ([[F.lit (Value.string { data := #[] })], [F.lit (Value.string { data := #[(65 : UInt8)] })], [F.lit (Value.string { data := #[(97 : UInt8), (97 : UInt8)] })]]) (fun s8 i9 => kx0 (stR [LT.str, LT.lst [LT.str, LT.int IntKind.i64], LT.int IntKind.i64, LT.int IntKind.i64, LT.lst [LT.int IntKind.i64, LT.int IntKind.i64], LT.int IntKind.i64] r0 (Int.toNat i4) ((0 : Nat) + (0 : Nat)) [F.lit (Value.string s8)]) true i9)) else
 (bif i6 == (1 : Int) then (Fn24 m r2 i7 ([[F.lit (Value.string { data := #[(104 : UInt8), (101 : UInt8), (108 : UInt8), (112 : UInt8)] })], [F.lit (Value.string { data := #[(122 : UInt8), (122 : UInt8)] })], [F.lit (Value.string { data := #[] })]]) (fun s10 i11 => Fn25 m r2 i11 ((1 : Int)) ((9 : Int)) (fun i12 i13 => bif decide (List.length (fR r0 (Int.toNat i4) ((0 : Nat) + (1 : Nat))) + List.length [[F.lit (Value.string s10), F.lit (Value.int IntKind.i64 i12)]] ≤ rowMax) then (letV (fR r0 (Int.toNat i4) ((0 : Nat) + (1 : Nat)) ++ [[F.lit (Value.string s10), F.lit (Value.int IntKind.i64 i12)]]) (fun r14 => bif Nat.beq (Int.toNat i4) (Int.toNat i4) then (letV (stR [LT.str, LT.lst [LT.str, LT.int IntKind.i64], LT.int IntKind.i64, LT.int IntKind.i64, LT.lst [LT.int IntKind.i64, LT.int IntKind.i64], LT.int IntKind.i64] r0 (Int.toNat i4) ((0 : Nat) + (1 : Nat)) [F.lst [LT.str, LT.int IntKind.i64] r14]) (fun r15 => kx0 r15 true i13)) else
 (none))) else
 (none)))) else
 (bif i6 == (2 : Int) then (Fn25 m r2 i7 ((0 : Int)) ((50 : Int)) (fun i16 i17 => Fn25 m r2 i17 ((0 : Int)) ((100 : Int)) (fun i18 i19 => kx0 (stR [LT.str, LT.lst [LT.str, LT.int IntKind.i64], LT.int IntKind.i64, LT.int IntKind.i64, LT.lst [LT.int IntKind.i64, LT.int IntKind.i64], LT.int IntKind.i64] r0 (Int.toNat i4) ((0 : Nat) + (2 : Nat)) [F.lit (Value.int IntKind.i64 i16), F.lit (Value.int IntKind.i64 i18)]) true i19))) else
 (bif i6 == (3 : Int) then (Fn25 m r2 i7 ((0 : Int)) ((50 : Int)) (fun i20 i21 => Fn25 m r2 i21 ((0 : Int)) ((100 : Int)) (fun i22 i23 => bif decide (List.length (fR r0 (Int.toNat i4) ((0 : Nat) + (4 : Nat))) + List.length [[F.lit (Value.int IntKind.i64 i20), F.lit (Value.int IntKind.i64 i22)]] ≤ rowMax) then (letV (fR r0 (Int.toNat i4) ((0 : Nat) + (4 : Nat)) ++ [[F.lit (Value.int IntKind.i64 i20), F.lit (Value.int IntKind.i64 i22)]]) (fun r24 => bif Nat.beq (Int.toNat i4) (Int.toNat i4) then (letV (stR [LT.str, LT.lst [LT.str, LT.int IntKind.i64], LT.int IntKind.i64, LT.int IntKind.i64, LT.lst [LT.int IntKind.i64, LT.int IntKind.i64], LT.int IntKind.i64] r0 (Int.toNat i4) ((0 : Nat) + (4 : Nat)) [F.lst [LT.int IntKind.i64, LT.int IntKind.i64] r24]) (fun r25 => kx0 r25 true i23)) else
 (none))) else
 (none)))) else
 (Fn25 m r2 i7 ((0 : Int)) ((100 : Int)) (fun i26 i27 => kx0 (stR [LT.str, LT.lst [LT.str, LT.int IntKind.i64], LT.int IntKind.i64, LT.int IntKind.i64, LT.lst [LT.int IntKind.i64, LT.int IntKind.i64], LT.int IntKind.i64] r0 (Int.toNat i4) ((0 : Nat) + (5 : Nat)) [F.lit (Value.int IntKind.i64 i26)]) true i27))))))) else
 (none))) else
 (kx0 r0 false i3)
noncomputable def brJn4_2 (m : Nat) (L : LTbl) (R : Type) (vs : List V) (k : Ex → List V → Option R) : Option R := match vs with
 | [.ref 79 0, .own [.nx none [1, 4], .str, .lst [.str, .int .i64], .int .i64, .int .i64, .lst [.int .i64, .int .i64], .int .i64] r0, .undef, .f (.lit (.bool b1)), .obj [.f (.lst [.int .i64] r2), .f (.lit (.int .i64 i3))]] => Jn4_2 m (fun r28 b29 i30 => k Ex.normal (W14 r28 b29 r2 i30)) r0 b1 r2 i3
 | _ => L R 4 2 vs k
set_option maxRecDepth 100000 in
theorem evJn4_2 (m : Nat) (R : Type) (r0 : Abs.Rows) (b1 : Bool) (r2 : Abs.Rows) (i3 : Int) (k : Ex → List V → Option R) : codeK Tryd.prog H (T8 m) 4 (L3 m) 3 (loopBody Tryd.prog 4 2) (mkEnv [0, 3, 6, 13, 79] (W14 r0 b1 r2 i3) 0 (H.len 4)) (fun e env' => k e (vals [0, 3, 6, 13, 79] env')) = Jn4_2 m (fun r28 b29 i30 => k Ex.normal (W14 r28 b29 r2 i30)) r0 b1 r2 i3 := by kernel_rfl
noncomputable def L4 (m : Nat) : LTbl := addJ 4 2 (brJn4_2 m (L3 m)) (L3 m)
theorem okL4 (m : Nat) : LTOk Tryd.prog H (L4 m) := addJ_ok (okT8 m) hM (okL3 m) (l := [0, 3, 6, 13, 79]) (by kernel_rfl) (by kernel_rfl) fun R vs k x h => by
  unfold brJn4_2 at h
  split at h
  ·exact .inl ((evJn4_2 m R _ _ _ _ k).trans h)
  ·exact .inr h

/-- - -/
noncomputable def Fn4 {R : Type} (m : Nat) : Abs.Rows → Int → (Abs.Rows → Int → Option R) → Option R := match m with
 | 0 => fun _ _ _ => none
 | m + 1 => fun r0 i1 k =>
 Fn21 m r0 i1 (fun r2 i3 => bif decide ((↑(List.length r2) : Int) > (0 : Int)) then (Fn22 m r0 i3 ((12 : Int)) (fun b4 i5 => Jn4_2 m (fun r6 b7 i8 => k r6 i8) r2 b4 r0 i5)) else
 (Jn4_2 m (fun r9 b10 i11 => k r9 i11) r2 false r0 i3))
noncomputable def brFn4 (m : Nat) (T : Tbl) (R : Type) (vs : List V) (k : V → List V → Option R) : Option R := match vs with
 | [.obj [.f (.lst [.int .i64] r0), .f (.lit (.int .i64 i1))]] => Fn4 m r0 i1 (fun r12 i13 => k (V.own [LT.str, LT.lst [LT.str, LT.int IntKind.i64], LT.int IntKind.i64, LT.int IntKind.i64, LT.lst [LT.int IntKind.i64, LT.int IntKind.i64], LT.int IntKind.i64] r12) (W10 r0 i13))
 | _ => T R 4 vs k
set_option maxRecDepth 100000 in
theorem evFn4 (m : Nat) (R : Type) (r0 : Abs.Rows) (i1 : Int) (k : V → List V → Option R) : runK Tryd.prog H (T8 m) (L4 m) 4 (W10 r0 i1) k = Fn4 (m + 1) r0 i1 (fun r12 i13 => k (V.own [LT.str, LT.lst [LT.str, LT.int IntKind.i64], LT.int IntKind.i64, LT.int IntKind.i64, LT.lst [LT.int IntKind.i64, LT.int IntKind.i64], LT.int IntKind.i64] r12) (W10 r0 i13)) := by kernel_rfl
noncomputable def T9 (m : Nat) : Tbl := addT 4 (brFn4 m (T8 m)) (T8 m)
theorem okT9 (m : Nat) : TblOk Tryd.prog (T9 m) := addT_ok (okT8 m) fun R vs k x h => by
 unfold brFn4 at h
 split at h
 ·cases m with
  | zero => cases h
  | succ m => exact runK_some (okT8 m) hM (okL4 m) ((evFn4 m R _ _ k).trans h)
 ·exact okT8 m R 4 _ k x h

abbrev W15 (a0 : Abs.Rows) (a1 a2 a3 : Int) (a4 : Abs.Rows) (a5 : Int) : List V := [.ref 48 0, .own [.str, .str, .int .i64, .int .i64, .int .i64, .int .i64, .int .i64, .bool] a0, .f (.lit (.int .i64 a1)), .f (.lit (.int .i64 a2)), .f (.lit (.int .i64 a3)), .obj [.f (.lst [.int .i64] a4), .f (.lit (.int .i64 a5))], .undef]
abbrev K1Lp26_4 {R : Type} (k : Ex → List V → Option R) (i0 : Int) (r1 : Abs.Rows) : Abs.Rows → Int → Int → Int → Option R := fun r2 i3 i4 i5 => k (Ex.exit (0 : Nat)) (W15 r2 i3 i0 i4 r1 i5)
/-- - -/
noncomputable def Lp26_4_step {R : Type} (m : Nat) (kx0 : Abs.Rows → Int → Int → Int → Option R) (i0 : Int) (r1 : Abs.Rows) (REC : Abs.Rows → Int → Int → Int → Option R) (r6 : Abs.Rows) (i7 i8 i9 : Int) : Option R :=
 bif decide (i8 < i0) then (Fn7 m r1 i9 ([[F.lit (Value.int IntKind.i64 (0 : Int))], [F.lit (Value.int IntKind.i64 (0 : Int))], [F.lit (Value.int IntKind.i64 (1 : Int))], [F.lit (Value.int IntKind.i64 (3 : Int))], [F.lit (Value.int IntKind.i64 (10 : Int))]]) (fun i10 i11 => bif decide (ByteArray.size { data := #[(99 : UInt8)] } + ByteArray.size (Utf8.encode (IntKind.wrap IntKind.i32 (IntKind.wrap IntKind.i64 ((97 : Int) + i8)))) ≤ strMax) then (Fn24 m r1 i11 ([[F.lit (Value.string { data := #[(104 : UInt8), (101 : UInt8), (108 : UInt8), (112 : UInt8)] })], [F.lit (Value.string { data := #[(104 : UInt8), (101 : UInt8), (108 : UInt8), (112 : UInt8)] })], [F.lit (Value.string { data := #[(115 : UInt8), (97 : UInt8), (108 : UInt8), (101 : UInt8)] })]]) (fun s12 i13 => Fn7 m r1 i13 ([[F.lit (Value.int IntKind.i64 (1 : Int))], [F.lit (Value.int IntKind.i64 (1 : Int))], [F.lit (Value.int IntKind.i64 (2 : Int))]]) (fun i14 i15 => Fn7 m r1 i15 ([[F.lit (Value.int IntKind.i64 (0 : Int))], [F.lit (Value.int IntKind.i64 (0 : Int))], [F.lit (Value.int IntKind.i64 (0 : Int))], [F.lit (Value.int IntKind.i64 (1 : Int))], [F.lit (Value.int IntKind.i64 (5 : Int))]]) (fun i16 i17 => Fn7 m r1 i17 ([[F.lit (Value.int IntKind.i64 (0 : Int))], [F.lit (Value.int IntKind.i64 (5 : Int))], [F.lit (Value.int IntKind.i64 (20 : Int))], [F.lit (Value.int IntKind.i64 (100 : Int))]]) (fun i18 i19 => Fn7 m r1 i19 ([[F.lit (Value.int IntKind.i64 (1 : Int))], [F.lit (Value.int IntKind.i64 (5 : Int))], [F.lit (Value.int IntKind.i64 (10 : Int))], [F.lit (Value.int IntKind.i64 (30 : Int))]]) (fun i20 i21 => Fn22 m r1 i21 ((4 : Int)) (fun b22 i23 => bif decide (List.length r6 + List.length [[F.lit (Value.string ({ data := #[(99 : UInt8)] } ++ Utf8.encode (IntKind.wrap IntKind.i32 (IntKind.wrap IntKind.i64 ((97 : Int) + i8))))), F.lit (Value.string s12), F.lit (Value.int IntKind.i64 (IntKind.wrap IntKind.i64 (i7 + i10))), F.lit (Value.int IntKind.i64 i14), F.lit (Value.int IntKind.i64 i16), F.lit (Value.int IntKind.i64 i18), F.lit (Value.int IntKind.i64 i20), F.lit (Value.bool b22)]] ≤ rowMax) then (letV (r6 ++ [[F.lit (Value.string ({ data := #[(99 : UInt8)] } ++ Utf8.encode (IntKind.wrap IntKind.i32 (IntKind.wrap IntKind.i64 ((97 : Int) + i8))))), F.lit (Value.string s12), F.lit (Value.int IntKind.i64 (IntKind.wrap IntKind.i64 (i7 + i10))), F.lit (Value.int IntKind.i64 i14), F.lit (Value.int IntKind.i64 i16), F.lit (Value.int IntKind.i64 i18), F.lit (Value.int IntKind.i64 i20), F.lit (Value.bool b22)]]) (fun r24 => REC r24 (IntKind.wrap IntKind.i64 (i7 + i10)) (IntKind.wrap IntKind.i64 (i8 + (1 : Int))) i23)) else
 (none)))))))) else
 (none))) else
 (kx0 r6 i7 i8 i9)
noncomputable def Lp26_4 {R : Type} (m : Nat) (kx0 : Abs.Rows → Int → Int → Int → Option R) (i0 : Int) (r1 : Abs.Rows) : Nat → Abs.Rows → Int → Int → Int → Option R
 | 0, _, _, _, _ => none
 | n + 1, r6, i7, i8, i9 => Lp26_4_step m kx0 i0 r1 (Lp26_4 m kx0 i0 r1 n) r6 i7 i8 i9
noncomputable def ELp26_4 (m : Nat) (R : Type) : Nat → List V → (Ex → List V → Option R) → Option R
 | 0, _, _ => none
 | n + 1, vs, k => match vs with
  | [.ref 48 0, .own [.str, .str, .int .i64, .int .i64, .int .i64, .int .i64, .int .i64, .bool] r6, .f (.lit (.int .i64 i7)), .f (.lit (.int .i64 i0)), .f (.lit (.int .i64 i8)), .obj [.f (.lst [.int .i64] r1), .f (.lit (.int .i64 i9))], .undef] => Lp26_4_step m (K1Lp26_4 k i0 r1) i0 r1 (fun r6 i7 i8 i9 => ELp26_4 m R n (W15 r6 i7 i0 i8 r1 i9) k) r6 i7 i8 i9
  | _ => none
noncomputable def brLp26_4 (m : Nat) (L : LTbl) (R : Type) (vs : List V) (k : Ex → List V → Option R) : Option R := match vs with
 | [.ref 48 0, .own [.str, .str, .int .i64, .int .i64, .int .i64, .int .i64, .int .i64, .bool] r6, .f (.lit (.int .i64 i7)), .f (.lit (.int .i64 i0)), .f (.lit (.int .i64 i8)), .obj [.f (.lst [.int .i64] r1), .f (.lit (.int .i64 i9))], .undef] => Lp26_4 m (K1Lp26_4 k i0 r1) i0 r1 m r6 i7 i8 i9
 | _ => L R 26 4 vs k
set_option maxRecDepth 100000 in
theorem stLp26_4 (m n : Nat) (R : Type) (r6 : Abs.Rows) (i7 i0 i8 : Int) (r1 : Abs.Rows) (i9 : Int) (k : Ex → List V → Option R) : codeK Tryd.prog H (T9 m) 26 (L4 m) 5 (loopBody Tryd.prog 26 4) (mkEnv [0, 5, 6, 10, 11, 48, 49] (W15 r6 i7 i0 i8 r1 i9) 0 (H.len 26)) (fun e env' => match e with | .normal => ELp26_4 m R n (vals [0, 5, 6, 10, 11, 48, 49] env') k | e => k e (vals [0, 5, 6, 10, 11, 48, 49] env')) = Lp26_4_step m (K1Lp26_4 k i0 r1) i0 r1 (fun r6 i7 i8 i9 => ELp26_4 m R n (W15 r6 i7 i0 i8 r1 i9) k) r6 i7 i8 i9 := by kernel_rfl
theorem eqLp26_4 (m : Nat) (R : Type) (i0 : Int) (r1 : Abs.Rows) (k : Ex → List V → Option R) : ∀ (n : Nat) (r6 : Abs.Rows) (i7 i8 i9 : Int), ELp26_4 m R n (W15 r6 i7 i0 i8 r1 i9) k = Lp26_4 m (K1Lp26_4 k i0 r1) i0 r1 n r6 i7 i8 i9
 | 0, _, _, _, _ => rfl
 | n + 1, r6, i7, i8, i9 => by
  simp only [ELp26_4, Lp26_4, W15]
  congr 1
  funext r6 i7 i8 i9
  exact eqLp26_4 m R i0 r1 k n r6 i7 i8 i9
noncomputable def L5 (m : Nat) : LTbl := addB 26 4 (brLp26_4 m (L4 m)) (L4 m)
theorem okL5 (m : Nat) : LTOk Tryd.prog H (L5 m) := addB_ok (okT9 m) hM (okL4 m) (l := [0, 5, 6, 10, 11, 48, 49]) (by kernel_rfl) (by kernel_rfl) m (fun R n vs k => ELp26_4 m R n vs k) (fun R vs k => rfl) (fun R n vs k x h => by
   simp only [ELp26_4] at h
   split at h
   ·exact (stLp26_4 m n R _ _ _ _ _ _ k).trans h
   ·cases h) fun R vs k x h => by
  unfold brLp26_4 at h
  split at h
  ·exact .inl ((eqLp26_4 m R _ _ k m _ _ _ _).trans h)
  ·exact .inr h

/-- - -/
noncomputable def Fn26 {R : Type} (m : Nat) : Abs.Rows → Int → Int → (Abs.Rows → Int → Option R) → Option R := match m with
 | 0 => fun _ _ _ _ => none
 | m + 1 => fun r0 i1 i2 k =>
 Fn46 m r0 i1 ((0 : Int)) i2 (fun i3 i4 => Lp26_4 m (fun r5 i6 i7 i8 => k r5 i8) i3 r0 m rows0 ((0 : Int)) ((0 : Int)) i4)
noncomputable def brFn26 (m : Nat) (T : Tbl) (R : Type) (vs : List V) (k : V → List V → Option R) : Option R := match vs with
 | [.obj [.f (.lst [.int .i64] r0), .f (.lit (.int .i64 i1))], .f (.lit (.int .i64 i2))] => Fn26 m r0 i1 i2 (fun r9 i10 => k (V.own [LT.str, LT.str, LT.int IntKind.i64, LT.int IntKind.i64, LT.int IntKind.i64, LT.int IntKind.i64, LT.int IntKind.i64, LT.bool] r9) (W3 r0 i10))
 | _ => T R 26 vs k
set_option maxRecDepth 100000 in
theorem evFn26 (m : Nat) (R : Type) (r0 : Abs.Rows) (i1 i2 : Int) (k : V → List V → Option R) : runK Tryd.prog H (T9 m) (L5 m) 26 (W4 r0 i1 i2) k = Fn26 (m + 1) r0 i1 i2 (fun r9 i10 => k (V.own [LT.str, LT.str, LT.int IntKind.i64, LT.int IntKind.i64, LT.int IntKind.i64, LT.int IntKind.i64, LT.int IntKind.i64, LT.bool] r9) (W3 r0 i10)) := by kernel_rfl
noncomputable def T10 (m : Nat) : Tbl := addT 26 (brFn26 m (T9 m)) (T9 m)
theorem okT10 (m : Nat) : TblOk Tryd.prog (T10 m) := addT_ok (okT9 m) fun R vs k x h => by
 unfold brFn26 at h
 split at h
 ·cases m with
  | zero => cases h
  | succ m => exact runK_some (okT9 m) hM (okL5 m) ((evFn26 m R _ _ _ k).trans h)
 ·exact okT9 m R 26 _ k x h

abbrev W16 (a0 : Abs.Rows) (a1 : Bool) (a2 : Abs.Rows) (a3 : Int) : List V := [.ref 71 0, .own [.str, .str, .int .i64, .int .i64, .int .i64, .int .i64, .int .i64, .bool] a0, .undef, .f (.lit (.bool a1)), .obj [.f (.lst [.int .i64] a2), .f (.lit (.int .i64 a3))], .undef]
/-- - -/
noncomputable def Jn5_2 {R : Type} (m : Nat) (kx0 : Abs.Rows → Bool → Int → Option R) (r0 : Abs.Rows) (b1 : Bool) (r2 : Abs.Rows) (i3 : Int) : Option R :=
 bif b1 then (Fn23 m r2 i3 ((↑(List.length r0) : Int)) (fun i4 i5 => bif decide ((0 : Int) ≤ i4 ∧ i4 < (↑(List.length r0) : Int)) then (Fn23 m r2 i5 ((5 : Int)) (fun i6 i7 => bif i6 == (0 : Int) then (Fn24 m r2 i7 ([[F.lit (Value.string { data := #[] })], [F.lit (Value.string { data := #[(99 : UInt8), (97 : UInt8)] })], [F.lit (Value.string { data := #[(65 : UInt8)] })]]) (fun s8 i9 => kx0 (stR [LT.str, LT.str, LT.int IntKind.i64, LT.int IntKind.i64, LT.int IntKind.i64, LT.int IntKind.i64, LT.int IntKind.i64, LT.bool] r0 (Int.toNat i4) ((0 : Nat) + (0 : Nat)) [F.lit (Value.string s8)]) true i9)) else
 (bif i6 == (1 : Int) then (Fn24 m r2 i7 ([[F.lit (Value.string { data := #[] })], [F.lit (Value.string { data := #[(104 : UInt8), (101 : UInt8), (108 : UInt8), (112 : UInt8)] })]]) (fun s10 i11 => Fn25 m r2 i11 ((1 : Int)) ((9 : Int)) (fun i12 i13 => kx0 (stR [LT.str, LT.str, LT.int IntKind.i64, LT.int IntKind.i64, LT.int IntKind.i64, LT.int IntKind.i64, LT.int IntKind.i64, LT.bool] (stR [LT.str, LT.str, LT.int IntKind.i64, LT.int IntKind.i64, LT.int IntKind.i64, LT.int IntKind.i64, LT.int IntKind.i64, LT.bool] r0 (Int.toNat i4) ((0 : Nat) + (1 : Nat)) [F.lit (Value.string s10)]) (Int.toNat i4) ((0 : Nat) + (3 : Nat)) [F.lit (Value.int IntKind.i64 i12)]) true i13))) else
 (bif i6 == (2 : Int) then (Fn25 m r2 i7 ((0 : Int)) ((50 : Int)) (fun i14 i15 => kx0 (stR [LT.str, LT.str, LT.int IntKind.i64, LT.int IntKind.i64, LT.int IntKind.i64, LT.int IntKind.i64, LT.int IntKind.i64, LT.bool] r0 (Int.toNat i4) ((0 : Nat) + (2 : Nat)) [F.lit (Value.int IntKind.i64 i14)]) true i15)) else
 (bif i6 == (3 : Int) then (Fn25 m r2 i7 ((0 : Int)) ((50 : Int)) (fun i16 i17 => Fn25 m r2 i17 ((1 : Int)) ((50 : Int)) (fun i18 i19 => kx0 (stR [LT.str, LT.str, LT.int IntKind.i64, LT.int IntKind.i64, LT.int IntKind.i64, LT.int IntKind.i64, LT.int IntKind.i64, LT.bool] (stR [LT.str, LT.str, LT.int IntKind.i64, LT.int IntKind.i64, LT.int IntKind.i64, LT.int IntKind.i64, LT.int IntKind.i64, LT.bool] r0 (Int.toNat i4) ((0 : Nat) + (5 : Nat)) [F.lit (Value.int IntKind.i64 i16)]) (Int.toNat i4) ((0 : Nat) + (6 : Nat)) [F.lit (Value.int IntKind.i64 i18)]) true i19))) else
 (Fn25 m r2 i7 ((0 : Int)) ((9 : Int)) (fun i20 i21 => kx0 (stR [LT.str, LT.str, LT.int IntKind.i64, LT.int IntKind.i64, LT.int IntKind.i64, LT.int IntKind.i64, LT.int IntKind.i64, LT.bool] r0 (Int.toNat i4) ((0 : Nat) + (4 : Nat)) [F.lit (Value.int IntKind.i64 i20)]) true i21))))))) else
 (none))) else
 (kx0 r0 false i3)
noncomputable def brJn5_2 (m : Nat) (L : LTbl) (R : Type) (vs : List V) (k : Ex → List V → Option R) : Option R := match vs with
 | [.ref 71 0, .own [.str, .str, .int .i64, .int .i64, .int .i64, .int .i64, .int .i64, .bool] r0, .undef, .f (.lit (.bool b1)), .obj [.f (.lst [.int .i64] r2), .f (.lit (.int .i64 i3))], .undef] => Jn5_2 m (fun r22 b23 i24 => k Ex.normal (W16 r22 b23 r2 i24)) r0 b1 r2 i3
 | _ => L R 5 2 vs k
set_option maxRecDepth 100000 in
theorem evJn5_2 (m : Nat) (R : Type) (r0 : Abs.Rows) (b1 : Bool) (r2 : Abs.Rows) (i3 : Int) (k : Ex → List V → Option R) : codeK Tryd.prog H (T10 m) 5 (L5 m) 3 (loopBody Tryd.prog 5 2) (mkEnv [0, 5, 9, 16, 71, 72] (W16 r0 b1 r2 i3) 0 (H.len 5)) (fun e env' => k e (vals [0, 5, 9, 16, 71, 72] env')) = Jn5_2 m (fun r22 b23 i24 => k Ex.normal (W16 r22 b23 r2 i24)) r0 b1 r2 i3 := by kernel_rfl
noncomputable def L6 (m : Nat) : LTbl := addJ 5 2 (brJn5_2 m (L5 m)) (L5 m)
theorem okL6 (m : Nat) : LTOk Tryd.prog H (L6 m) := addJ_ok (okT10 m) hM (okL5 m) (l := [0, 5, 9, 16, 71, 72]) (by kernel_rfl) (by kernel_rfl) fun R vs k x h => by
  unfold brJn5_2 at h
  split at h
  ·exact .inl ((evJn5_2 m R _ _ _ _ k).trans h)
  ·exact .inr h

/-- - -/
noncomputable def Fn5 {R : Type} (m : Nat) : Abs.Rows → Int → Int → (Abs.Rows → Int → Option R) → Option R := match m with
 | 0 => fun _ _ _ _ => none
 | m + 1 => fun r0 i1 i2 k =>
 Fn26 m r0 i1 i2 (fun r3 i4 => bif decide ((↑(List.length r3) : Int) > (0 : Int)) then (Fn22 m r0 i4 ((12 : Int)) (fun b5 i6 => Jn5_2 m (fun r7 b8 i9 => k r7 i9) r3 b5 r0 i6)) else
 (Jn5_2 m (fun r10 b11 i12 => k r10 i12) r3 false r0 i4))
noncomputable def brFn5 (m : Nat) (T : Tbl) (R : Type) (vs : List V) (k : V → List V → Option R) : Option R := match vs with
 | [.obj [.f (.lst [.int .i64] r0), .f (.lit (.int .i64 i1))], .f (.lit (.int .i64 i2))] => Fn5 m r0 i1 i2 (fun r13 i14 => k (V.own [LT.str, LT.str, LT.int IntKind.i64, LT.int IntKind.i64, LT.int IntKind.i64, LT.int IntKind.i64, LT.int IntKind.i64, LT.bool] r13) (W3 r0 i14))
 | _ => T R 5 vs k
set_option maxRecDepth 100000 in
theorem evFn5 (m : Nat) (R : Type) (r0 : Abs.Rows) (i1 i2 : Int) (k : V → List V → Option R) : runK Tryd.prog H (T10 m) (L6 m) 5 (W4 r0 i1 i2) k = Fn5 (m + 1) r0 i1 i2 (fun r13 i14 => k (V.own [LT.str, LT.str, LT.int IntKind.i64, LT.int IntKind.i64, LT.int IntKind.i64, LT.int IntKind.i64, LT.int IntKind.i64, LT.bool] r13) (W3 r0 i14)) := by kernel_rfl
noncomputable def T11 (m : Nat) : Tbl := addT 5 (brFn5 m (T10 m)) (T10 m)
theorem okT11 (m : Nat) : TblOk Tryd.prog (T11 m) := addT_ok (okT10 m) fun R vs k x h => by
 unfold brFn5 at h
 split at h
 ·cases m with
  | zero => cases h
  | succ m => exact runK_some (okT10 m) hM (okL6 m) ((evFn5 m R _ _ _ k).trans h)
 ·exact okT10 m R 5 _ k x h

abbrev W17 (a0 a1 a2 : Int) : List V := [.f (.lit (.int .i64 a0)), .f (.lit (.int .i64 a1)), .f (.lit (.int .i64 a2))]
/-- - -/
noncomputable def Fn27 {R : Type} (m : Nat) : Abs.Rows → Int → (Int → Int → Int → Int → Option R) → Option R := match m with
 | 0 => fun _ _ _ => none
 | m + 1 => fun r0 i1 k =>
 Fn46 m r0 i1 ((1 : Int)) ((4 : Int)) (fun i2 i3 => Fn7 m r0 i3 ([[F.lit (Value.int IntKind.i64 (0 : Int))], [F.lit (Value.int IntKind.i64 (0 : Int))], [F.lit (Value.int IntKind.i64 (1 : Int))], [F.lit (Value.int IntKind.i64 (5 : Int))], [F.lit (Value.int IntKind.i64 (20 : Int))]]) (fun i4 i5 => Fn7 m r0 i5 ([[F.lit (Value.int IntKind.i64 (0 : Int))], [F.lit (Value.int IntKind.i64 (1 : Int))], [F.lit (Value.int IntKind.i64 (4 : Int))], [F.lit (Value.int IntKind.i64 (7 : Int))]]) (fun i6 i7 => k i2 i4 i6 i7)))
noncomputable def brFn27 (m : Nat) (T : Tbl) (R : Type) (vs : List V) (k : V → List V → Option R) : Option R := match vs with
 | [.obj [.f (.lst [.int .i64] r0), .f (.lit (.int .i64 i1))]] => Fn27 m r0 i1 (fun i8 i9 i10 i11 => k (V.agg (W17 i8 i9 i10)) (W10 r0 i11))
 | _ => T R 27 vs k
set_option maxRecDepth 100000 in
theorem evFn27 (m : Nat) (R : Type) (r0 : Abs.Rows) (i1 : Int) (k : V → List V → Option R) : runK Tryd.prog H (T11 m) (L6 m) 27 (W10 r0 i1) k = Fn27 (m + 1) r0 i1 (fun i8 i9 i10 i11 => k (V.agg (W17 i8 i9 i10)) (W10 r0 i11)) := by kernel_rfl
noncomputable def T12 (m : Nat) : Tbl := addT 27 (brFn27 m (T11 m)) (T11 m)
theorem okT12 (m : Nat) : TblOk Tryd.prog (T12 m) := addT_ok (okT11 m) fun R vs k x h => by
 unfold brFn27 at h
 split at h
 ·cases m with
  | zero => cases h
  | succ m => exact runK_some (okT11 m) hM (okL6 m) ((evFn27 m R _ _ k).trans h)
 ·exact okT11 m R 27 _ k x h

/-- - -/
noncomputable def Fn6 {R : Type} (m : Nat) : Abs.Rows → Int → (Int → Int → Int → Int → Option R) → Option R := match m with
 | 0 => fun _ _ _ => none
 | m + 1 => fun r0 i1 k =>
 Fn27 m r0 i1 (fun i2 i3 i4 i5 => Fn22 m r0 i5 ((15 : Int)) (fun b6 i7 => bif b6 then (Fn25 m r0 i7 ((1 : Int)) ((4 : Int)) (fun i8 i9 => Fn25 m r0 i9 ((0 : Int)) ((20 : Int)) (fun i10 i11 => Fn25 m r0 i11 ((0 : Int)) ((20 : Int)) (fun i12 i13 => k i8 i10 i12 i13)))) else
 (k i2 i3 i4 i7)))
noncomputable def brFn6 (m : Nat) (T : Tbl) (R : Type) (vs : List V) (k : V → List V → Option R) : Option R := match vs with
 | [.obj [.f (.lst [.int .i64] r0), .f (.lit (.int .i64 i1))]] => Fn6 m r0 i1 (fun i14 i15 i16 i17 => k (V.agg (W17 i14 i15 i16)) (W10 r0 i17))
 | _ => T R 6 vs k
set_option maxRecDepth 100000 in
theorem evFn6 (m : Nat) (R : Type) (r0 : Abs.Rows) (i1 : Int) (k : V → List V → Option R) : runK Tryd.prog H (T12 m) (L6 m) 6 (W10 r0 i1) k = Fn6 (m + 1) r0 i1 (fun i14 i15 i16 i17 => k (V.agg (W17 i14 i15 i16)) (W10 r0 i17)) := by kernel_rfl
noncomputable def T13 (m : Nat) : Tbl := addT 6 (brFn6 m (T12 m)) (T12 m)
theorem okT13 (m : Nat) : TblOk Tryd.prog (T13 m) := addT_ok (okT12 m) fun R vs k x h => by
 unfold brFn6 at h
 split at h
 ·cases m with
  | zero => cases h
  | succ m => exact runK_some (okT12 m) hM (okL6 m) ((evFn6 m R _ _ k).trans h)
 ·exact okT12 m R 6 _ k x h

abbrev W18 : List V := [.undef]
abbrev W19 (a0 : ByteArray) : List V := [.f (.lit (.string a0))]
/-- - -/
noncomputable def Fn28 {R : Type} (m : Nat) : ByteArray → (Bool → Option R) → Option R := match m with
 | 0 => fun _ _ => none
 | m + 1 => fun s0 k =>
 bif decide ((↑(ByteArray.size s0) : Int) ≥ (1 : Int)) then (bif decide ((↑(ByteArray.size s0) : Int) ≤ (40 : Int)) then (bif decide ((0 : Int) ≤ (0 : Int) ∧ (0 : Int) < (↑(ByteArray.size s0) : Int)) then (bif decide ((↑(UInt8.toNat (Array.getD (ByteArray.data s0) (Int.toNat (0 : Int)) (0 : UInt8))) : Int) ≥ (97 : Int)) then (bif decide ((0 : Int) ≤ (0 : Int) ∧ (0 : Int) < (↑(ByteArray.size s0) : Int)) then (bif decide ((↑(UInt8.toNat (Array.getD (ByteArray.data s0) (Int.toNat (0 : Int)) (0 : UInt8))) : Int) ≤ (122 : Int)) then (bif trimOk s0 { data := #[(97 : UInt8), (98 : UInt8), (99 : UInt8), (100 : UInt8), (101 : UInt8), (102 : UInt8), (103 : UInt8), (104 : UInt8), (105 : UInt8), (106 : UInt8), (107 : UInt8), (108 : UInt8), (109 : UInt8), (110 : UInt8), (111 : UInt8), (112 : UInt8), (113 : UInt8), (114 : UInt8), (115 : UInt8), (116 : UInt8), (117 : UInt8), (118 : UInt8), (119 : UInt8), (120 : UInt8), (121 : UInt8), (122 : UInt8), (48 : UInt8), (49 : UInt8), (50 : UInt8), (51 : UInt8), (52 : UInt8), (53 : UInt8), (54 : UInt8), (55 : UInt8), (56 : UInt8), (57 : UInt8), (45 : UInt8), (95 : UInt8)] } then (k (ByteArray.toList (trimB s0 { data := #[(97 : UInt8), (98 : UInt8), (99 : UInt8), (100 : UInt8), (101 : UInt8), (102 : UInt8), (103 : UInt8), (104 : UInt8), (105 : UInt8), (106 : UInt8), (107 : UInt8), (108 : UInt8), (109 : UInt8), (110 : UInt8), (111 : UInt8), (112 : UInt8), (113 : UInt8), (114 : UInt8), (115 : UInt8), (116 : UInt8), (117 : UInt8), (118 : UInt8), (119 : UInt8), (120 : UInt8), (121 : UInt8), (122 : UInt8), (48 : UInt8), (49 : UInt8), (50 : UInt8), (51 : UInt8), (52 : UInt8), (53 : UInt8), (54 : UInt8), (55 : UInt8), (56 : UInt8), (57 : UInt8), (45 : UInt8), (95 : UInt8)] }) == ByteArray.toList { data := #[] })) else
 (none)) else
 (k false)) else
 (none)) else
 (k false)) else
 (none)) else
 (k false)) else
 (k false)
noncomputable def brFn28 (m : Nat) (T : Tbl) (R : Type) (vs : List V) (k : V → List V → Option R) : Option R := match vs with
 | [.f (.lit (.string s0))] => Fn28 m s0 (fun b1 => k (V.f (F.lit (Value.bool b1))) W18)
 | _ => T R 28 vs k
set_option maxRecDepth 100000 in
theorem evFn28 (m : Nat) (R : Type) (s0 : ByteArray) (k : V → List V → Option R) : runK Tryd.prog H (T13 m) (L6 m) 28 (W19 s0) k = Fn28 (m + 1) s0 (fun b1 => k (V.f (F.lit (Value.bool b1))) W18) := by kernel_rfl
noncomputable def T14 (m : Nat) : Tbl := addT 28 (brFn28 m (T13 m)) (T13 m)
theorem okT14 (m : Nat) : TblOk Tryd.prog (T14 m) := addT_ok (okT13 m) fun R vs k x h => by
 unfold brFn28 at h
 split at h
 ·cases m with
  | zero => cases h
  | succ m => exact runK_some (okT13 m) hM (okL6 m) ((evFn28 m R _ k).trans h)
 ·exact okT13 m R 28 _ k x h

abbrev W20 : List V := [.undef, .undef, .undef]
/-- - -/
noncomputable def Fn34 {R : Type} (m : Nat) : Int → Int → Int → (Bool → Option R) → Option R := match m with
 | 0 => fun _ _ _ _ => none
 | m + 1 => fun i0 i1 i2 k =>
 bif decide (i0 ≥ i1) then (k (decide (i0 ≤ i2))) else
 (k false)
noncomputable def brFn34 (m : Nat) (T : Tbl) (R : Type) (vs : List V) (k : V → List V → Option R) : Option R := match vs with
 | [.f (.lit (.int .i64 i0)), .f (.lit (.int .i64 i1)), .f (.lit (.int .i64 i2))] => Fn34 m i0 i1 i2 (fun b3 => k (V.f (F.lit (Value.bool b3))) W20)
 | _ => T R 34 vs k
set_option maxRecDepth 100000 in
theorem evFn34 (m : Nat) (R : Type) (i0 i1 i2 : Int) (k : V → List V → Option R) : runK Tryd.prog H (T14 m) (L6 m) 34 (W17 i0 i1 i2) k = Fn34 (m + 1) i0 i1 i2 (fun b3 => k (V.f (F.lit (Value.bool b3))) W20) := by kernel_rfl
noncomputable def T15 (m : Nat) : Tbl := addT 34 (brFn34 m (T14 m)) (T14 m)
theorem okT15 (m : Nat) : TblOk Tryd.prog (T15 m) := addT_ok (okT14 m) fun R vs k x h => by
 unfold brFn34 at h
 split at h
 ·cases m with
  | zero => cases h
  | succ m => exact runK_some (okT14 m) hM (okL6 m) ((evFn34 m R _ _ _ k).trans h)
 ·exact okT14 m R 34 _ k x h

abbrev W21 (a0 : ByteArray) (a1 : Abs.Rows) (a2 a3 : Int) (a4 : Abs.Rows) (a5 a6 : Int) (a7 : Abs.Rows) (a8 a9 : Int) : List V := [.obj [.f (.lit (.string a0)), .f (.lst [.str, .int .i64] a1), .f (.lit (.int .i64 a2)), .f (.lit (.int .i64 a3)), .f (.lst [.int .i64, .int .i64] a4), .f (.lit (.int .i64 a5))], .f (.lit (.int .i64 a6)), .ref 1 1, .f (.lst [.str, .int .i64] a7), .f (.lit (.int .i64 a8)), .f (.lit (.int .i64 a9)), .undef]
/-- - -/
noncomputable def Lp29_5_step {R : Type} (m : Nat) (kx0 : Int → Int → Option R) (kx1 : Int → Option R) (s0 : ByteArray) (r1 : Abs.Rows) (i2 i3 : Int) (r4 : Abs.Rows) (i5 i6 : Int) (r7 : Abs.Rows) (i8 : Int) (REC : Int → Option R) (i9 : Int) : Option R :=
 bif decide (i9 < i8) then (bif decide ((0 : Int) ≤ i9 ∧ i9 < (↑(List.length r7) : Int)) then (Fn28 m (fS r7 (Int.toNat i9) (0 : Nat)) (fun b10 => bif !b10 then (kx0 ((5 : Int)) i9) else
 (Fn34 m (fI r7 (Int.toNat i9) (1 : Nat)) ((1 : Int)) ((9 : Int)) (fun b11 => bif !b11 then (kx0 ((1 : Int)) i9) else
 (bif decide (i9 > (0 : Int)) then (bif decide ((0 : Int) ≤ IntKind.wrap IntKind.i64 (i9 - (1 : Int)) ∧ IntKind.wrap IntKind.i64 (i9 - (1 : Int)) < (↑(List.length r1) : Int)) then (bif Op.bytesLess (ByteArray.toList (fS r7 (Int.toNat i9) (0 : Nat))) (ByteArray.toList (fS r1 (Int.toNat (IntKind.wrap IntKind.i64 (i9 - (1 : Int)))) (0 : Nat))) || ByteArray.toList (fS r7 (Int.toNat i9) (0 : Nat)) == ByteArray.toList (fS r1 (Int.toNat (IntKind.wrap IntKind.i64 (i9 - (1 : Int)))) (0 : Nat)) then (kx0 ((7 : Int)) i9) else
 (REC (IntKind.wrap IntKind.i64 (i9 + (1 : Int))))) else
 (none)) else
 (REC (IntKind.wrap IntKind.i64 (i9 + (1 : Int))))))))) else
 (none)) else
 (kx1 i9)
noncomputable def Lp29_5 {R : Type} (m : Nat) (kx0 : Int → Int → Option R) (kx1 : Int → Option R) (s0 : ByteArray) (r1 : Abs.Rows) (i2 i3 : Int) (r4 : Abs.Rows) (i5 i6 : Int) (r7 : Abs.Rows) (i8 : Int) : Nat → Int → Option R
 | 0, _ => none
 | n + 1, i9 => Lp29_5_step m kx0 kx1 s0 r1 i2 i3 r4 i5 i6 r7 i8 (Lp29_5 m kx0 kx1 s0 r1 i2 i3 r4 i5 i6 r7 i8 n) i9
noncomputable def ELp29_5 (m : Nat) (R : Type) : Nat → List V → (Ex → List V → Option R) → Option R
 | 0, _, _ => none
 | n + 1, vs, k => match vs with
  | [.obj [.f (.lit (.string s0)), .f (.lst [.str, .int .i64] r1), .f (.lit (.int .i64 i2)), .f (.lit (.int .i64 i3)), .f (.lst [.int .i64, .int .i64] r4), .f (.lit (.int .i64 i5))], .f (.lit (.int .i64 i6)), .ref 1 1, .f (.lst [.str, .int .i64] r7), .f (.lit (.int .i64 i8)), .f (.lit (.int .i64 i9)), .undef] => Lp29_5_step m (fun i12 i13 => k Ex.ret (W21 s0 r1 i2 i3 r4 i5 i12 r7 i8 i13)) (fun i14 => k (Ex.exit (0 : Nat)) (W21 s0 r1 i2 i3 r4 i5 i6 r7 i8 i14)) s0 r1 i2 i3 r4 i5 i6 r7 i8 (fun i9 => ELp29_5 m R n (W21 s0 r1 i2 i3 r4 i5 i6 r7 i8 i9) k) i9
  | _ => none
noncomputable def brLp29_5 (m : Nat) (L : LTbl) (R : Type) (vs : List V) (k : Ex → List V → Option R) : Option R := match vs with
 | [.obj [.f (.lit (.string s0)), .f (.lst [.str, .int .i64] r1), .f (.lit (.int .i64 i2)), .f (.lit (.int .i64 i3)), .f (.lst [.int .i64, .int .i64] r4), .f (.lit (.int .i64 i5))], .f (.lit (.int .i64 i6)), .ref 1 1, .f (.lst [.str, .int .i64] r7), .f (.lit (.int .i64 i8)), .f (.lit (.int .i64 i9)), .undef] => Lp29_5 m (fun i12 i13 => k Ex.ret (W21 s0 r1 i2 i3 r4 i5 i12 r7 i8 i13)) (fun i14 => k (Ex.exit (0 : Nat)) (W21 s0 r1 i2 i3 r4 i5 i6 r7 i8 i14)) s0 r1 i2 i3 r4 i5 i6 r7 i8 m i9
 | _ => L R 29 5 vs k
set_option maxRecDepth 100000 in
theorem stLp29_5 (m n : Nat) (R : Type) (s0 : ByteArray) (r1 : Abs.Rows) (i2 i3 : Int) (r4 : Abs.Rows) (i5 i6 : Int) (r7 : Abs.Rows) (i8 i9 : Int) (k : Ex → List V → Option R) : codeK Tryd.prog H (T15 m) 29 (L6 m) 6 (loopBody Tryd.prog 29 5) (mkEnv [1, 2, 11, 12, 13, 14, 110] (W21 s0 r1 i2 i3 r4 i5 i6 r7 i8 i9) 0 (H.len 29)) (fun e env' => match e with | .normal => ELp29_5 m R n (vals [1, 2, 11, 12, 13, 14, 110] env') k | e => k e (vals [1, 2, 11, 12, 13, 14, 110] env')) = Lp29_5_step m (fun i12 i13 => k Ex.ret (W21 s0 r1 i2 i3 r4 i5 i12 r7 i8 i13)) (fun i14 => k (Ex.exit (0 : Nat)) (W21 s0 r1 i2 i3 r4 i5 i6 r7 i8 i14)) s0 r1 i2 i3 r4 i5 i6 r7 i8 (fun i9 => ELp29_5 m R n (W21 s0 r1 i2 i3 r4 i5 i6 r7 i8 i9) k) i9 := by kernel_rfl
theorem eqLp29_5 (m : Nat) (R : Type) (s0 : ByteArray) (r1 : Abs.Rows) (i2 i3 : Int) (r4 : Abs.Rows) (i5 i6 : Int) (r7 : Abs.Rows) (i8 : Int) (k : Ex → List V → Option R) : ∀ (n : Nat) (i9 : Int), ELp29_5 m R n (W21 s0 r1 i2 i3 r4 i5 i6 r7 i8 i9) k = Lp29_5 m (fun i12 i13 => k Ex.ret (W21 s0 r1 i2 i3 r4 i5 i12 r7 i8 i13)) (fun i14 => k (Ex.exit (0 : Nat)) (W21 s0 r1 i2 i3 r4 i5 i6 r7 i8 i14)) s0 r1 i2 i3 r4 i5 i6 r7 i8 n i9
 | 0, _ => rfl
 | n + 1, i9 => by
  simp only [ELp29_5, Lp29_5, W21]
  congr 1
  funext i9
  exact eqLp29_5 m R s0 r1 i2 i3 r4 i5 i6 r7 i8 k n i9
noncomputable def L7 (m : Nat) : LTbl := addB 29 5 (brLp29_5 m (L6 m)) (L6 m)
theorem okL7 (m : Nat) : LTOk Tryd.prog H (L7 m) := addB_ok (okT15 m) hM (okL6 m) (l := [1, 2, 11, 12, 13, 14, 110]) (by kernel_rfl) (by kernel_rfl) m (fun R n vs k => ELp29_5 m R n vs k) (fun R vs k => rfl) (fun R n vs k x h => by
   simp only [ELp29_5] at h
   split at h
   ·exact (stLp29_5 m n R _ _ _ _ _ _ _ _ _ _ k).trans h
   ·cases h) fun R vs k x h => by
  unfold brLp29_5 at h
  split at h
  ·exact .inl ((eqLp29_5 m R _ _ _ _ _ _ _ _ _ k m _).trans h)
  ·exact .inr h

abbrev W22 (a0 : ByteArray) (a1 : Abs.Rows) (a2 a3 : Int) (a4 : Abs.Rows) (a5 a6 a7 a8 a9 : Int) (a10 : Abs.Rows) (a11 a12 : Int) : List V := [.obj [.f (.lit (.string a0)), .f (.lst [.str, .int .i64] a1), .f (.lit (.int .i64 a2)), .f (.lit (.int .i64 a3)), .f (.lst [.int .i64, .int .i64] a4), .f (.lit (.int .i64 a5))], .f (.lit (.int .i64 a6)), .f (.lit (.int .i64 a7)), .obj [.f (.lit (.int .i64 a8)), .f (.lit (.int .i64 a9))], .ref 1 4, .f (.lst [.int .i64, .int .i64] a10), .f (.lit (.int .i64 a11)), .f (.lit (.int .i64 a12)), .undef]
/-- - -/
noncomputable def Jn29_30 {R : Type} (m : Nat) (kx0 : Int → Option R) (kx1 : Option R) (s0 : ByteArray) (r1 : Abs.Rows) (i2 i3 : Int) (r4 : Abs.Rows) (i5 i6 i7 i8 i9 : Int) (r10 : Abs.Rows) (i11 i12 : Int) : Option R :=
 bif decide (i7 > (0 : Int)) then (bif decide ((0 : Int) ≤ IntKind.wrap IntKind.i64 (i7 - (1 : Int)) ∧ IntKind.wrap IntKind.i64 (i7 - (1 : Int)) < (↑(List.length r4) : Int)) then (bif decide (i8 < fI r4 (Int.toNat (IntKind.wrap IntKind.i64 (i7 - (1 : Int)))) (1 : Nat)) then (kx0 ((7 : Int))) else
 (kx1 )) else
 (none)) else
 (kx1 )
noncomputable def brJn29_30 (m : Nat) (L : LTbl) (R : Type) (vs : List V) (k : Ex → List V → Option R) : Option R := match vs with
 | [.obj [.f (.lit (.string s0)), .f (.lst [.str, .int .i64] r1), .f (.lit (.int .i64 i2)), .f (.lit (.int .i64 i3)), .f (.lst [.int .i64, .int .i64] r4), .f (.lit (.int .i64 i5))], .f (.lit (.int .i64 i6)), .f (.lit (.int .i64 i7)), .obj [.f (.lit (.int .i64 i8)), .f (.lit (.int .i64 i9))], .ref 1 4, .f (.lst [.int .i64, .int .i64] r10), .f (.lit (.int .i64 i11)), .f (.lit (.int .i64 i12)), .undef] => Jn29_30 m (fun i13 => k Ex.ret (W22 s0 r1 i2 i3 r4 i5 i13 i7 i8 i9 r10 i11 i12)) (k Ex.normal (W22 s0 r1 i2 i3 r4 i5 i6 i7 i8 i9 r10 i11 i12)) s0 r1 i2 i3 r4 i5 i6 i7 i8 i9 r10 i11 i12
 | _ => L R 29 30 vs k
set_option maxRecDepth 100000 in
theorem evJn29_30 (m : Nat) (R : Type) (s0 : ByteArray) (r1 : Abs.Rows) (i2 i3 : Int) (r4 : Abs.Rows) (i5 i6 i7 i8 i9 : Int) (r10 : Abs.Rows) (i11 i12 : Int) (k : Ex → List V → Option R) : codeK Tryd.prog H (T15 m) 29 (L7 m) 31 (loopBody Tryd.prog 29 30) (mkEnv [1, 2, 5, 6, 68, 69, 70, 71, 110] (W22 s0 r1 i2 i3 r4 i5 i6 i7 i8 i9 r10 i11 i12) 0 (H.len 29)) (fun e env' => k e (vals [1, 2, 5, 6, 68, 69, 70, 71, 110] env')) = Jn29_30 m (fun i13 => k Ex.ret (W22 s0 r1 i2 i3 r4 i5 i13 i7 i8 i9 r10 i11 i12)) (k Ex.normal (W22 s0 r1 i2 i3 r4 i5 i6 i7 i8 i9 r10 i11 i12)) s0 r1 i2 i3 r4 i5 i6 i7 i8 i9 r10 i11 i12 := by kernel_rfl
noncomputable def L8 (m : Nat) : LTbl := addJ 29 30 (brJn29_30 m (L7 m)) (L7 m)
theorem okL8 (m : Nat) : LTOk Tryd.prog H (L8 m) := addJ_ok (okT15 m) hM (okL7 m) (l := [1, 2, 5, 6, 68, 69, 70, 71, 110]) (by kernel_rfl) (by kernel_rfl) fun R vs k x h => by
  unfold brJn29_30 at h
  split at h
  ·exact .inl ((evJn29_30 m R _ _ _ _ _ _ _ _ _ _ _ _ _ k).trans h)
  ·exact .inr h

abbrev W23 (a0 : ByteArray) (a1 : Abs.Rows) (a2 a3 : Int) (a4 : Abs.Rows) (a5 a6 : Int) (a7 : Abs.Rows) (a8 a9 : Int) : List V := [.obj [.f (.lit (.string a0)), .f (.lst [.str, .int .i64] a1), .f (.lit (.int .i64 a2)), .f (.lit (.int .i64 a3)), .f (.lst [.int .i64, .int .i64] a4), .f (.lit (.int .i64 a5))], .f (.lit (.int .i64 a6)), .ref 1 4, .f (.lst [.int .i64, .int .i64] a7), .f (.lit (.int .i64 a8)), .f (.lit (.int .i64 a9)), .undef]
/-- - -/
noncomputable def Lp29_24_step {R : Type} (m : Nat) (kx0 : Int → Int → Option R) (kx1 : Int → Option R) (s0 : ByteArray) (r1 : Abs.Rows) (i2 i3 : Int) (r4 : Abs.Rows) (i5 i6 : Int) (r7 : Abs.Rows) (i8 : Int) (REC : Int → Option R) (i9 : Int) : Option R :=
 bif decide (i9 < i8) then (bif decide ((0 : Int) ≤ i9 ∧ i9 < (↑(List.length r7) : Int)) then (bif decide (fI r7 (Int.toNat i9) (0 : Nat) < (0 : Int)) then (kx0 ((1 : Int)) i9) else
 (bif decide (fI r7 (Int.toNat i9) (0 : Nat) ≥ fI r7 (Int.toNat i9) (1 : Nat)) then (kx0 ((1 : Int)) i9) else
 (bif decide (fI r7 (Int.toNat i9) (1 : Nat) > (345686400000 : Int)) then (kx0 ((1 : Int)) i9) else
 (Jn29_30 m (fun i10 => kx0 i10 i9) (REC (IntKind.wrap IntKind.i64 (i9 + (1 : Int)))) s0 r1 i2 i3 r4 i5 i6 i9 (fI r7 (Int.toNat i9) (0 : Nat)) (fI r7 (Int.toNat i9) (1 : Nat)) r7 i8 i9)))) else
 (none)) else
 (kx1 i9)
noncomputable def Lp29_24 {R : Type} (m : Nat) (kx0 : Int → Int → Option R) (kx1 : Int → Option R) (s0 : ByteArray) (r1 : Abs.Rows) (i2 i3 : Int) (r4 : Abs.Rows) (i5 i6 : Int) (r7 : Abs.Rows) (i8 : Int) : Nat → Int → Option R
 | 0, _ => none
 | n + 1, i9 => Lp29_24_step m kx0 kx1 s0 r1 i2 i3 r4 i5 i6 r7 i8 (Lp29_24 m kx0 kx1 s0 r1 i2 i3 r4 i5 i6 r7 i8 n) i9
noncomputable def ELp29_24 (m : Nat) (R : Type) : Nat → List V → (Ex → List V → Option R) → Option R
 | 0, _, _ => none
 | n + 1, vs, k => match vs with
  | [.obj [.f (.lit (.string s0)), .f (.lst [.str, .int .i64] r1), .f (.lit (.int .i64 i2)), .f (.lit (.int .i64 i3)), .f (.lst [.int .i64, .int .i64] r4), .f (.lit (.int .i64 i5))], .f (.lit (.int .i64 i6)), .ref 1 4, .f (.lst [.int .i64, .int .i64] r7), .f (.lit (.int .i64 i8)), .f (.lit (.int .i64 i9)), .undef] => Lp29_24_step m (fun i11 i12 => k Ex.ret (W23 s0 r1 i2 i3 r4 i5 i11 r7 i8 i12)) (fun i13 => k (Ex.exit (3 : Nat)) (W23 s0 r1 i2 i3 r4 i5 i6 r7 i8 i13)) s0 r1 i2 i3 r4 i5 i6 r7 i8 (fun i9 => ELp29_24 m R n (W23 s0 r1 i2 i3 r4 i5 i6 r7 i8 i9) k) i9
  | _ => none
noncomputable def brLp29_24 (m : Nat) (L : LTbl) (R : Type) (vs : List V) (k : Ex → List V → Option R) : Option R := match vs with
 | [.obj [.f (.lit (.string s0)), .f (.lst [.str, .int .i64] r1), .f (.lit (.int .i64 i2)), .f (.lit (.int .i64 i3)), .f (.lst [.int .i64, .int .i64] r4), .f (.lit (.int .i64 i5))], .f (.lit (.int .i64 i6)), .ref 1 4, .f (.lst [.int .i64, .int .i64] r7), .f (.lit (.int .i64 i8)), .f (.lit (.int .i64 i9)), .undef] => Lp29_24 m (fun i11 i12 => k Ex.ret (W23 s0 r1 i2 i3 r4 i5 i11 r7 i8 i12)) (fun i13 => k (Ex.exit (3 : Nat)) (W23 s0 r1 i2 i3 r4 i5 i6 r7 i8 i13)) s0 r1 i2 i3 r4 i5 i6 r7 i8 m i9
 | _ => L R 29 24 vs k
set_option maxRecDepth 100000 in
theorem stLp29_24 (m n : Nat) (R : Type) (s0 : ByteArray) (r1 : Abs.Rows) (i2 i3 : Int) (r4 : Abs.Rows) (i5 i6 : Int) (r7 : Abs.Rows) (i8 i9 : Int) (k : Ex → List V → Option R) : codeK Tryd.prog H (T15 m) 29 (L8 m) 25 (loopBody Tryd.prog 29 24) (mkEnv [1, 2, 68, 69, 70, 71, 110] (W23 s0 r1 i2 i3 r4 i5 i6 r7 i8 i9) 0 (H.len 29)) (fun e env' => match e with | .normal => ELp29_24 m R n (vals [1, 2, 68, 69, 70, 71, 110] env') k | e => k e (vals [1, 2, 68, 69, 70, 71, 110] env')) = Lp29_24_step m (fun i11 i12 => k Ex.ret (W23 s0 r1 i2 i3 r4 i5 i11 r7 i8 i12)) (fun i13 => k (Ex.exit (3 : Nat)) (W23 s0 r1 i2 i3 r4 i5 i6 r7 i8 i13)) s0 r1 i2 i3 r4 i5 i6 r7 i8 (fun i9 => ELp29_24 m R n (W23 s0 r1 i2 i3 r4 i5 i6 r7 i8 i9) k) i9 := by kernel_rfl
theorem eqLp29_24 (m : Nat) (R : Type) (s0 : ByteArray) (r1 : Abs.Rows) (i2 i3 : Int) (r4 : Abs.Rows) (i5 i6 : Int) (r7 : Abs.Rows) (i8 : Int) (k : Ex → List V → Option R) : ∀ (n : Nat) (i9 : Int), ELp29_24 m R n (W23 s0 r1 i2 i3 r4 i5 i6 r7 i8 i9) k = Lp29_24 m (fun i11 i12 => k Ex.ret (W23 s0 r1 i2 i3 r4 i5 i11 r7 i8 i12)) (fun i13 => k (Ex.exit (3 : Nat)) (W23 s0 r1 i2 i3 r4 i5 i6 r7 i8 i13)) s0 r1 i2 i3 r4 i5 i6 r7 i8 n i9
 | 0, _ => rfl
 | n + 1, i9 => by
  simp only [ELp29_24, Lp29_24, W23]
  congr 1
  funext i9
  exact eqLp29_24 m R s0 r1 i2 i3 r4 i5 i6 r7 i8 k n i9
noncomputable def L9 (m : Nat) : LTbl := addB 29 24 (brLp29_24 m (L8 m)) (L8 m)
theorem okL9 (m : Nat) : LTOk Tryd.prog H (L9 m) := addB_ok (okT15 m) hM (okL8 m) (l := [1, 2, 68, 69, 70, 71, 110]) (by kernel_rfl) (by kernel_rfl) m (fun R n vs k => ELp29_24 m R n vs k) (fun R vs k => rfl) (fun R n vs k x h => by
   simp only [ELp29_24] at h
   split at h
   ·exact (stLp29_24 m n R _ _ _ _ _ _ _ _ _ _ k).trans h
   ·cases h) fun R vs k x h => by
  unfold brLp29_24 at h
  split at h
  ·exact .inl ((eqLp29_24 m R _ _ _ _ _ _ _ _ _ k m _).trans h)
  ·exact .inr h

abbrev W24 (a0 : ByteArray) (a1 : Abs.Rows) (a2 a3 : Int) (a4 : Abs.Rows) (a5 a6 : Int) : List V := [.obj [.f (.lit (.string a0)), .f (.lst [.str, .int .i64] a1), .f (.lit (.int .i64 a2)), .f (.lit (.int .i64 a3)), .f (.lst [.int .i64, .int .i64] a4), .f (.lit (.int .i64 a5))], .f (.lit (.int .i64 a6)), .undef]
/-- - -/
noncomputable def Jn29_19 {R : Type} (m : Nat) (kx0 : Int → Option R) (s0 : ByteArray) (r1 : Abs.Rows) (i2 i3 : Int) (r4 : Abs.Rows) (i5 i6 : Int) : Option R :=
 bif decide ((↑(List.length r4) : Int) > (50 : Int)) then (kx0 ((2 : Int))) else
 (Lp29_24 m (fun i7 i8 => kx0 i7) (fun i9 => Fn34 m i5 ((0 : Int)) ((86400000 : Int)) (fun b10 => bif !b10 then (kx0 ((1 : Int))) else
 (kx0 ((0 : Int))))) s0 r1 i2 i3 r4 i5 i6 r4 ((↑(List.length r4) : Int)) m ((0 : Int)))
noncomputable def brJn29_19 (m : Nat) (L : LTbl) (R : Type) (vs : List V) (k : Ex → List V → Option R) : Option R := match vs with
 | [.obj [.f (.lit (.string s0)), .f (.lst [.str, .int .i64] r1), .f (.lit (.int .i64 i2)), .f (.lit (.int .i64 i3)), .f (.lst [.int .i64, .int .i64] r4), .f (.lit (.int .i64 i5))], .f (.lit (.int .i64 i6)), .undef] => Jn29_19 m (fun i11 => k Ex.ret (W24 s0 r1 i2 i3 r4 i5 i11)) s0 r1 i2 i3 r4 i5 i6
 | _ => L R 29 19 vs k
set_option maxRecDepth 100000 in
theorem evJn29_19 (m : Nat) (R : Type) (s0 : ByteArray) (r1 : Abs.Rows) (i2 i3 : Int) (r4 : Abs.Rows) (i5 i6 : Int) (k : Ex → List V → Option R) : codeK Tryd.prog H (T15 m) 29 (L9 m) 20 (loopBody Tryd.prog 29 19) (mkEnv [1, 2, 110] (W24 s0 r1 i2 i3 r4 i5 i6) 0 (H.len 29)) (fun e env' => k e (vals [1, 2, 110] env')) = Jn29_19 m (fun i11 => k Ex.ret (W24 s0 r1 i2 i3 r4 i5 i11)) s0 r1 i2 i3 r4 i5 i6 := by kernel_rfl
noncomputable def L10 (m : Nat) : LTbl := addJ 29 19 (brJn29_19 m (L9 m)) (L9 m)
theorem okL10 (m : Nat) : LTOk Tryd.prog H (L10 m) := addJ_ok (okT15 m) hM (okL9 m) (l := [1, 2, 110]) (by kernel_rfl) (by kernel_rfl) fun R vs k x h => by
  unfold brJn29_19 at h
  split at h
  ·exact .inl ((evJn29_19 m R _ _ _ _ _ _ _ k).trans h)
  ·exact .inr h

abbrev W25 (a0 : ByteArray) (a1 : Abs.Rows) (a2 a3 : Int) (a4 : Abs.Rows) (a5 : Int) : List V := [.agg [.f (.lit (.string a0)), .f (.lst [.str, .int .i64] a1), .f (.lit (.int .i64 a2)), .f (.lit (.int .i64 a3)), .f (.lst [.int .i64, .int .i64] a4), .f (.lit (.int .i64 a5))]]
/-- - -/
noncomputable def Fn29 {R : Type} (m : Nat) : ByteArray → Abs.Rows → Int → Int → Abs.Rows → Int → (Int → Option R) → Option R := match m with
 | 0 => fun _ _ _ _ _ _ _ => none
 | m + 1 => fun s0 r1 i2 i3 r4 i5 k =>
 bif decide ((↑(List.length r1) : Int) > (10 : Int)) then (k ((2 : Int))) else
 (Lp29_5 m (fun i6 i7 => k i6) (fun i8 => bif decide (i2 < (0 : Int)) then (k ((1 : Int))) else
 (bif decide (i2 > i3) then (k ((1 : Int))) else
 (bif decide (i3 > (345686400000 : Int)) then (k ((1 : Int))) else
 (Jn29_19 m (fun i9 => k i9) s0 r1 i2 i3 r4 i5 ((0 : Int)))))) s0 r1 i2 i3 r4 i5 ((0 : Int)) r1 ((↑(List.length r1) : Int)) m ((0 : Int)))
noncomputable def brFn29 (m : Nat) (T : Tbl) (R : Type) (vs : List V) (k : V → List V → Option R) : Option R := match vs with
 | [.agg [.f (.lit (.string s0)), .f (.lst [.str, .int .i64] r1), .f (.lit (.int .i64 i2)), .f (.lit (.int .i64 i3)), .f (.lst [.int .i64, .int .i64] r4), .f (.lit (.int .i64 i5))]] => Fn29 m s0 r1 i2 i3 r4 i5 (fun i10 => k (V.f (F.lit (Value.int IntKind.i64 i10))) W18)
 | _ => T R 29 vs k
set_option maxRecDepth 100000 in
theorem evFn29 (m : Nat) (R : Type) (s0 : ByteArray) (r1 : Abs.Rows) (i2 i3 : Int) (r4 : Abs.Rows) (i5 : Int) (k : V → List V → Option R) : runK Tryd.prog H (T15 m) (L10 m) 29 (W25 s0 r1 i2 i3 r4 i5) k = Fn29 (m + 1) s0 r1 i2 i3 r4 i5 (fun i10 => k (V.f (F.lit (Value.int IntKind.i64 i10))) W18) := by kernel_rfl
noncomputable def T16 (m : Nat) : Tbl := addT 29 (brFn29 m (T15 m)) (T15 m)
theorem okT16 (m : Nat) : TblOk Tryd.prog (T16 m) := addT_ok (okT15 m) fun R vs k x h => by
 unfold brFn29 at h
 split at h
 ·cases m with
  | zero => cases h
  | succ m => exact runK_some (okT15 m) hM (okL10 m) ((evFn29 m R _ _ _ _ _ _ k).trans h)
 ·exact okT15 m R 29 _ k x h

abbrev W26 (a0 : Abs.Rows) (a1 : Int) (a2 : ByteArray) (a3 : Abs.Rows) (a4 a5 : Int) (a6 : Abs.Rows) (a7 : Int) (a8 : Abs.Rows) (a9 a10 : Int) : List V := [.bor [.str, .lst [.str, .int .i64], .int .i64, .int .i64, .lst [.int .i64, .int .i64], .int .i64] a0, .f (.lit (.int .i64 a1)), .obj [.f (.lit (.string a2)), .f (.lst [.str, .int .i64] a3), .f (.lit (.int .i64 a4)), .f (.lit (.int .i64 a5)), .f (.lst [.int .i64, .int .i64] a6), .f (.lit (.int .i64 a7))], .bor [.str, .lst [.str, .int .i64], .int .i64, .int .i64, .lst [.int .i64, .int .i64], .int .i64] a8, .f (.lit (.int .i64 a9)), .f (.lit (.int .i64 a10)), .undef]
/-- - -/
noncomputable def Jn8_14 {R : Type} (m : Nat) (kx0 : Int → Option R) (kx1 : Option R) (r0 : Abs.Rows) (i1 : Int) (s2 : ByteArray) (r3 : Abs.Rows) (i4 i5 : Int) (r6 : Abs.Rows) (i7 : Int) (r8 : Abs.Rows) (i9 i10 : Int) : Option R :=
 Fn29 m s2 r3 i4 i5 r6 i7 (fun i11 => bif i11 != (0 : Int) then (kx0 i11) else
 (kx1 ))
noncomputable def brJn8_14 (m : Nat) (L : LTbl) (R : Type) (vs : List V) (k : Ex → List V → Option R) : Option R := match vs with
 | [.bor [.str, .lst [.str, .int .i64], .int .i64, .int .i64, .lst [.int .i64, .int .i64], .int .i64] r0, .f (.lit (.int .i64 i1)), .obj [.f (.lit (.string s2)), .f (.lst [.str, .int .i64] r3), .f (.lit (.int .i64 i4)), .f (.lit (.int .i64 i5)), .f (.lst [.int .i64, .int .i64] r6), .f (.lit (.int .i64 i7))], .bor [.str, .lst [.str, .int .i64], .int .i64, .int .i64, .lst [.int .i64, .int .i64], .int .i64] r8, .f (.lit (.int .i64 i9)), .f (.lit (.int .i64 i10)), .undef] => Jn8_14 m (fun i12 => k Ex.ret (W26 r0 i12 s2 r3 i4 i5 r6 i7 r8 i9 i10)) (k Ex.normal (W26 r0 i1 s2 r3 i4 i5 r6 i7 r8 i9 i10)) r0 i1 s2 r3 i4 i5 r6 i7 r8 i9 i10
 | _ => L R 8 14 vs k
set_option maxRecDepth 100000 in
theorem evJn8_14 (m : Nat) (R : Type) (r0 : Abs.Rows) (i1 : Int) (s2 : ByteArray) (r3 : Abs.Rows) (i4 i5 : Int) (r6 : Abs.Rows) (i7 : Int) (r8 : Abs.Rows) (i9 i10 : Int) (k : Ex → List V → Option R) : codeK Tryd.prog H (T16 m) 8 (L10 m) 15 (loopBody Tryd.prog 8 14) (mkEnv [0, 2, 4, 9, 10, 11, 39] (W26 r0 i1 s2 r3 i4 i5 r6 i7 r8 i9 i10) 0 (H.len 8)) (fun e env' => k e (vals [0, 2, 4, 9, 10, 11, 39] env')) = Jn8_14 m (fun i12 => k Ex.ret (W26 r0 i12 s2 r3 i4 i5 r6 i7 r8 i9 i10)) (k Ex.normal (W26 r0 i1 s2 r3 i4 i5 r6 i7 r8 i9 i10)) r0 i1 s2 r3 i4 i5 r6 i7 r8 i9 i10 := by kernel_rfl
noncomputable def L11 (m : Nat) : LTbl := addJ 8 14 (brJn8_14 m (L10 m)) (L10 m)
theorem okL11 (m : Nat) : LTOk Tryd.prog H (L11 m) := addJ_ok (okT16 m) hM (okL10 m) (l := [0, 2, 4, 9, 10, 11, 39]) (by kernel_rfl) (by kernel_rfl) fun R vs k x h => by
  unfold brJn8_14 at h
  split at h
  ·exact .inl ((evJn8_14 m R _ _ _ _ _ _ _ _ _ _ _ k).trans h)
  ·exact .inr h

abbrev W27 (a0 : Abs.Rows) (a1 : Int) (a2 : Abs.Rows) (a3 a4 : Int) : List V := [.bor [.str, .lst [.str, .int .i64], .int .i64, .int .i64, .lst [.int .i64, .int .i64], .int .i64] a0, .f (.lit (.int .i64 a1)), .bor [.str, .lst [.str, .int .i64], .int .i64, .int .i64, .lst [.int .i64, .int .i64], .int .i64] a2, .f (.lit (.int .i64 a3)), .f (.lit (.int .i64 a4)), .undef]
/-- - -/
noncomputable def Lp8_5_step {R : Type} (m : Nat) (kx0 : Int → Int → Option R) (kx1 : Int → Option R) (r0 : Abs.Rows) (i1 : Int) (r2 : Abs.Rows) (i3 : Int) (REC : Int → Option R) (i4 : Int) : Option R :=
 bif decide (i4 < i3) then (bif decide ((0 : Int) ≤ i4 ∧ i4 < (↑(List.length r2) : Int)) then (Fn28 m (fS r2 (Int.toNat i4) (0 : Nat)) (fun b5 => bif !b5 then (kx0 ((5 : Int)) i4) else
 (bif decide (i4 > (0 : Int)) then (bif decide ((0 : Int) ≤ IntKind.wrap IntKind.i64 (i4 - (1 : Int)) ∧ IntKind.wrap IntKind.i64 (i4 - (1 : Int)) < (↑(List.length r0) : Int)) then (bif Op.bytesLess (ByteArray.toList (fS r2 (Int.toNat i4) (0 : Nat))) (ByteArray.toList (fS r0 (Int.toNat (IntKind.wrap IntKind.i64 (i4 - (1 : Int)))) (0 : Nat))) || ByteArray.toList (fS r2 (Int.toNat i4) (0 : Nat)) == ByteArray.toList (fS r0 (Int.toNat (IntKind.wrap IntKind.i64 (i4 - (1 : Int)))) (0 : Nat)) then (kx0 ((7 : Int)) i4) else
 (Jn8_14 m (fun i6 => kx0 i6 i4) (REC (IntKind.wrap IntKind.i64 (i4 + (1 : Int)))) r0 i1 (fS r2 (Int.toNat i4) (0 : Nat)) (fR r2 (Int.toNat i4) (1 : Nat)) (fI r2 (Int.toNat i4) (2 : Nat)) (fI r2 (Int.toNat i4) (3 : Nat)) (fR r2 (Int.toNat i4) (4 : Nat)) (fI r2 (Int.toNat i4) (5 : Nat)) r2 i3 i4)) else
 (none)) else
 (Jn8_14 m (fun i7 => kx0 i7 i4) (REC (IntKind.wrap IntKind.i64 (i4 + (1 : Int)))) r0 i1 (fS r2 (Int.toNat i4) (0 : Nat)) (fR r2 (Int.toNat i4) (1 : Nat)) (fI r2 (Int.toNat i4) (2 : Nat)) (fI r2 (Int.toNat i4) (3 : Nat)) (fR r2 (Int.toNat i4) (4 : Nat)) (fI r2 (Int.toNat i4) (5 : Nat)) r2 i3 i4)))) else
 (none)) else
 (kx1 i4)
noncomputable def Lp8_5 {R : Type} (m : Nat) (kx0 : Int → Int → Option R) (kx1 : Int → Option R) (r0 : Abs.Rows) (i1 : Int) (r2 : Abs.Rows) (i3 : Int) : Nat → Int → Option R
 | 0, _ => none
 | n + 1, i4 => Lp8_5_step m kx0 kx1 r0 i1 r2 i3 (Lp8_5 m kx0 kx1 r0 i1 r2 i3 n) i4
noncomputable def ELp8_5 (m : Nat) (R : Type) : Nat → List V → (Ex → List V → Option R) → Option R
 | 0, _, _ => none
 | n + 1, vs, k => match vs with
  | [.bor [.str, .lst [.str, .int .i64], .int .i64, .int .i64, .lst [.int .i64, .int .i64], .int .i64] r0, .f (.lit (.int .i64 i1)), .bor [.str, .lst [.str, .int .i64], .int .i64, .int .i64, .lst [.int .i64, .int .i64], .int .i64] r2, .f (.lit (.int .i64 i3)), .f (.lit (.int .i64 i4)), .undef] => Lp8_5_step m (fun i8 i9 => k Ex.ret (W27 r0 i8 r2 i3 i9)) (fun i10 => k (Ex.exit (0 : Nat)) (W27 r0 i1 r2 i3 i10)) r0 i1 r2 i3 (fun i4 => ELp8_5 m R n (W27 r0 i1 r2 i3 i4) k) i4
  | _ => none
noncomputable def brLp8_5 (m : Nat) (L : LTbl) (R : Type) (vs : List V) (k : Ex → List V → Option R) : Option R := match vs with
 | [.bor [.str, .lst [.str, .int .i64], .int .i64, .int .i64, .lst [.int .i64, .int .i64], .int .i64] r0, .f (.lit (.int .i64 i1)), .bor [.str, .lst [.str, .int .i64], .int .i64, .int .i64, .lst [.int .i64, .int .i64], .int .i64] r2, .f (.lit (.int .i64 i3)), .f (.lit (.int .i64 i4)), .undef] => Lp8_5 m (fun i8 i9 => k Ex.ret (W27 r0 i8 r2 i3 i9)) (fun i10 => k (Ex.exit (0 : Nat)) (W27 r0 i1 r2 i3 i10)) r0 i1 r2 i3 m i4
 | _ => L R 8 5 vs k
set_option maxRecDepth 100000 in
theorem stLp8_5 (m n : Nat) (R : Type) (r0 : Abs.Rows) (i1 : Int) (r2 : Abs.Rows) (i3 i4 : Int) (k : Ex → List V → Option R) : codeK Tryd.prog H (T16 m) 8 (L11 m) 6 (loopBody Tryd.prog 8 5) (mkEnv [0, 2, 9, 10, 11, 39] (W27 r0 i1 r2 i3 i4) 0 (H.len 8)) (fun e env' => match e with | .normal => ELp8_5 m R n (vals [0, 2, 9, 10, 11, 39] env') k | e => k e (vals [0, 2, 9, 10, 11, 39] env')) = Lp8_5_step m (fun i8 i9 => k Ex.ret (W27 r0 i8 r2 i3 i9)) (fun i10 => k (Ex.exit (0 : Nat)) (W27 r0 i1 r2 i3 i10)) r0 i1 r2 i3 (fun i4 => ELp8_5 m R n (W27 r0 i1 r2 i3 i4) k) i4 := by kernel_rfl
theorem eqLp8_5 (m : Nat) (R : Type) (r0 : Abs.Rows) (i1 : Int) (r2 : Abs.Rows) (i3 : Int) (k : Ex → List V → Option R) : ∀ (n : Nat) (i4 : Int), ELp8_5 m R n (W27 r0 i1 r2 i3 i4) k = Lp8_5 m (fun i8 i9 => k Ex.ret (W27 r0 i8 r2 i3 i9)) (fun i10 => k (Ex.exit (0 : Nat)) (W27 r0 i1 r2 i3 i10)) r0 i1 r2 i3 n i4
 | 0, _ => rfl
 | n + 1, i4 => by
  simp only [ELp8_5, Lp8_5, W27]
  congr 1
  funext i4
  exact eqLp8_5 m R r0 i1 r2 i3 k n i4
noncomputable def L12 (m : Nat) : LTbl := addB 8 5 (brLp8_5 m (L11 m)) (L11 m)
theorem okL12 (m : Nat) : LTOk Tryd.prog H (L12 m) := addB_ok (okT16 m) hM (okL11 m) (l := [0, 2, 9, 10, 11, 39]) (by kernel_rfl) (by kernel_rfl) m (fun R n vs k => ELp8_5 m R n vs k) (fun R vs k => rfl) (fun R n vs k x h => by
   simp only [ELp8_5] at h
   split at h
   ·exact (stLp8_5 m n R _ _ _ _ _ k).trans h
   ·cases h) fun R vs k x h => by
  unfold brLp8_5 at h
  split at h
  ·exact .inl ((eqLp8_5 m R _ _ _ _ k m _).trans h)
  ·exact .inr h

abbrev W28 (a0 : Abs.Rows) : List V := [.bor [.str, .lst [.str, .int .i64], .int .i64, .int .i64, .lst [.int .i64, .int .i64], .int .i64] a0]
/-- - -/
noncomputable def Fn8 {R : Type} (m : Nat) : Abs.Rows → (Int → Option R) → Option R := match m with
 | 0 => fun _ _ => none
 | m + 1 => fun r0 k =>
 bif decide ((↑(List.length r0) : Int) > (100 : Int)) then (k ((2 : Int))) else
 (Lp8_5 m (fun i1 i2 => k i1) (fun i3 => k ((0 : Int))) r0 ((0 : Int)) r0 ((↑(List.length r0) : Int)) m ((0 : Int)))
noncomputable def brFn8 (m : Nat) (T : Tbl) (R : Type) (vs : List V) (k : V → List V → Option R) : Option R := match vs with
 | [.bor [.str, .lst [.str, .int .i64], .int .i64, .int .i64, .lst [.int .i64, .int .i64], .int .i64] r0] => Fn8 m r0 (fun i4 => k (V.f (F.lit (Value.int IntKind.i64 i4))) W18)
 | _ => T R 8 vs k
set_option maxRecDepth 100000 in
theorem evFn8 (m : Nat) (R : Type) (r0 : Abs.Rows) (k : V → List V → Option R) : runK Tryd.prog H (T16 m) (L12 m) 8 (W28 r0) k = Fn8 (m + 1) r0 (fun i4 => k (V.f (F.lit (Value.int IntKind.i64 i4))) W18) := by kernel_rfl
noncomputable def T17 (m : Nat) : Tbl := addT 8 (brFn8 m (T16 m)) (T16 m)
theorem okT17 (m : Nat) : TblOk Tryd.prog (T17 m) := addT_ok (okT16 m) fun R vs k x h => by
 unfold brFn8 at h
 split at h
 ·cases m with
  | zero => cases h
  | succ m => exact runK_some (okT16 m) hM (okL12 m) ((evFn8 m R _ k).trans h)
 ·exact okT16 m R 8 _ k x h

/-- - -/
noncomputable def Fn31 {R : Type} (m : Nat) : Int → Int → Int → (Bool → Option R) → Option R := match m with
 | 0 => fun _ _ _ _ => none
 | m + 1 => fun i0 i1 i2 k =>
 bif decide (i1 ≤ i0) then (k (decide (i0 ≤ i2))) else
 (k false)
noncomputable def brFn31 (m : Nat) (T : Tbl) (R : Type) (vs : List V) (k : V → List V → Option R) : Option R := match vs with
 | [.f (.lit (.int .i64 i0)), .f (.lit (.int .i64 i1)), .f (.lit (.int .i64 i2))] => Fn31 m i0 i1 i2 (fun b3 => k (V.f (F.lit (Value.bool b3))) W20)
 | _ => T R 31 vs k
set_option maxRecDepth 100000 in
theorem evFn31 (m : Nat) (R : Type) (i0 i1 i2 : Int) (k : V → List V → Option R) : runK Tryd.prog H (T17 m) (L12 m) 31 (W17 i0 i1 i2) k = Fn31 (m + 1) i0 i1 i2 (fun b3 => k (V.f (F.lit (Value.bool b3))) W20) := by kernel_rfl
noncomputable def T18 (m : Nat) : Tbl := addT 31 (brFn31 m (T17 m)) (T17 m)
theorem okT18 (m : Nat) : TblOk Tryd.prog (T18 m) := addT_ok (okT17 m) fun R vs k x h => by
 unfold brFn31 at h
 split at h
 ·cases m with
  | zero => cases h
  | succ m => exact runK_some (okT17 m) hM (okL12 m) ((evFn31 m R _ _ _ k).trans h)
 ·exact okT17 m R 31 _ k x h

abbrev W29 (a0 : ByteArray) (a1 : Int) : List V := [.f (.lit (.string a0)), .f (.lit (.int .u8 a1))]
/-- - -/
noncomputable def Fn64 {R : Type} (m : Nat) : ByteArray → Int → (Int → Option R) → Option R := match m with
 | 0 => fun _ _ _ => none
 | m + 1 => fun s0 i1 k =>
 k (idxByte s0 i1)
noncomputable def brFn64 (m : Nat) (T : Tbl) (R : Type) (vs : List V) (k : V → List V → Option R) : Option R := match vs with
 | [.f (.lit (.string s0)), .f (.lit (.int .u8 i1))] => Fn64 m s0 i1 (fun i2 => k (V.f (F.lit (Value.int IntKind.i64 i2))) W1)
 | _ => T R 64 vs k
set_option maxRecDepth 100000 in
theorem evFn64 (m : Nat) (R : Type) (s0 : ByteArray) (i1 : Int) (k : V → List V → Option R) : runK Tryd.prog H (T18 m) (L12 m) 64 (W29 s0 i1) k = Fn64 (m + 1) s0 i1 (fun i2 => k (V.f (F.lit (Value.int IntKind.i64 i2))) W1) := by kernel_rfl
noncomputable def T19 (m : Nat) : Tbl := addT 64 (brFn64 m (T18 m)) (T18 m)
theorem okT19 (m : Nat) : TblOk Tryd.prog (T19 m) := addT_ok (okT18 m) fun R vs k x h => by
 unfold brFn64 at h
 split at h
 ·cases m with
  | zero => cases h
  | succ m => exact runK_some (okT18 m) hM (okL12 m) ((evFn64 m R _ _ k).trans h)
 ·exact okT18 m R 64 _ k x h

/-- - -/
noncomputable def Fn59 {R : Type} (m : Nat) : ByteArray → Int → (Int → Option R) → Option R := match m with
 | 0 => fun _ _ _ => none
 | m + 1 => fun s0 i1 k =>
 Fn64 m s0 i1 (fun i2 => k i2)
noncomputable def brFn59 (m : Nat) (T : Tbl) (R : Type) (vs : List V) (k : V → List V → Option R) : Option R := match vs with
 | [.f (.lit (.string s0)), .f (.lit (.int .u8 i1))] => Fn59 m s0 i1 (fun i3 => k (V.f (F.lit (Value.int IntKind.i64 i3))) W1)
 | _ => T R 59 vs k
set_option maxRecDepth 100000 in
theorem evFn59 (m : Nat) (R : Type) (s0 : ByteArray) (i1 : Int) (k : V → List V → Option R) : runK Tryd.prog H (T19 m) (L12 m) 59 (W29 s0 i1) k = Fn59 (m + 1) s0 i1 (fun i3 => k (V.f (F.lit (Value.int IntKind.i64 i3))) W1) := by kernel_rfl
noncomputable def T20 (m : Nat) : Tbl := addT 59 (brFn59 m (T19 m)) (T19 m)
theorem okT20 (m : Nat) : TblOk Tryd.prog (T20 m) := addT_ok (okT19 m) fun R vs k x h => by
 unfold brFn59 at h
 split at h
 ·cases m with
  | zero => cases h
  | succ m => exact runK_some (okT19 m) hM (okL12 m) ((evFn59 m R _ _ k).trans h)
 ·exact okT19 m R 59 _ k x h

abbrev W30 (a0 a1 : ByteArray) (a2 : Bool) (a3 a4 : Int) : List V := [.f (.lit (.string a0)), .f (.lit (.string a1)), .f (.lit (.bool a2)), .f (.lit (.int .i64 a3)), .f (.lit (.int .i64 a4)), .undef, .undef]
/-- - -/
noncomputable def Lp48_2_step {R : Type} (m : Nat) (kx0 : Bool → Int → Option R) (kx1 : Int → Option R) (s0 s1 : ByteArray) (b2 : Bool) (i3 : Int) (REC : Int → Option R) (i4 : Int) : Option R :=
 bif decide (i4 < i3) then (bif decide ((0 : Int) ≤ i4 ∧ i4 < (↑(ByteArray.size s0) : Int)) then (Fn59 m s1 ((↑(UInt8.toNat (Array.getD (ByteArray.data s0) (Int.toNat i4) (0 : UInt8))) : Int)) (fun i5 => bif decide (i5 < (0 : Int)) then (kx0 false i4) else
 (REC (IntKind.wrap IntKind.i64 (i4 + (1 : Int)))))) else
 (none)) else
 (kx1 i4)
noncomputable def Lp48_2 {R : Type} (m : Nat) (kx0 : Bool → Int → Option R) (kx1 : Int → Option R) (s0 s1 : ByteArray) (b2 : Bool) (i3 : Int) : Nat → Int → Option R
 | 0, _ => none
 | n + 1, i4 => Lp48_2_step m kx0 kx1 s0 s1 b2 i3 (Lp48_2 m kx0 kx1 s0 s1 b2 i3 n) i4
noncomputable def ELp48_2 (m : Nat) (R : Type) : Nat → List V → (Ex → List V → Option R) → Option R
 | 0, _, _ => none
 | n + 1, vs, k => match vs with
  | [.f (.lit (.string s0)), .f (.lit (.string s1)), .f (.lit (.bool b2)), .f (.lit (.int .i64 i3)), .f (.lit (.int .i64 i4)), .undef, .undef] => Lp48_2_step m (fun b6 i7 => k Ex.ret (W30 s0 s1 b6 i3 i7)) (fun i8 => k (Ex.exit (0 : Nat)) (W30 s0 s1 b2 i3 i8)) s0 s1 b2 i3 (fun i4 => ELp48_2 m R n (W30 s0 s1 b2 i3 i4) k) i4
  | _ => none
noncomputable def brLp48_2 (m : Nat) (L : LTbl) (R : Type) (vs : List V) (k : Ex → List V → Option R) : Option R := match vs with
 | [.f (.lit (.string s0)), .f (.lit (.string s1)), .f (.lit (.bool b2)), .f (.lit (.int .i64 i3)), .f (.lit (.int .i64 i4)), .undef, .undef] => Lp48_2 m (fun b6 i7 => k Ex.ret (W30 s0 s1 b6 i3 i7)) (fun i8 => k (Ex.exit (0 : Nat)) (W30 s0 s1 b2 i3 i8)) s0 s1 b2 i3 m i4
 | _ => L R 48 2 vs k
set_option maxRecDepth 100000 in
theorem stLp48_2 (m n : Nat) (R : Type) (s0 s1 : ByteArray) (b2 : Bool) (i3 i4 : Int) (k : Ex → List V → Option R) : codeK Tryd.prog H (T20 m) 48 (L12 m) 3 (loopBody Tryd.prog 48 2) (mkEnv [0, 1, 4, 7, 8, 18, 19] (W30 s0 s1 b2 i3 i4) 0 (H.len 48)) (fun e env' => match e with | .normal => ELp48_2 m R n (vals [0, 1, 4, 7, 8, 18, 19] env') k | e => k e (vals [0, 1, 4, 7, 8, 18, 19] env')) = Lp48_2_step m (fun b6 i7 => k Ex.ret (W30 s0 s1 b6 i3 i7)) (fun i8 => k (Ex.exit (0 : Nat)) (W30 s0 s1 b2 i3 i8)) s0 s1 b2 i3 (fun i4 => ELp48_2 m R n (W30 s0 s1 b2 i3 i4) k) i4 := by kernel_rfl
theorem eqLp48_2 (m : Nat) (R : Type) (s0 s1 : ByteArray) (b2 : Bool) (i3 : Int) (k : Ex → List V → Option R) : ∀ (n : Nat) (i4 : Int), ELp48_2 m R n (W30 s0 s1 b2 i3 i4) k = Lp48_2 m (fun b6 i7 => k Ex.ret (W30 s0 s1 b6 i3 i7)) (fun i8 => k (Ex.exit (0 : Nat)) (W30 s0 s1 b2 i3 i8)) s0 s1 b2 i3 n i4
 | 0, _ => rfl
 | n + 1, i4 => by
  simp only [ELp48_2, Lp48_2, W30]
  congr 1
  funext i4
  exact eqLp48_2 m R s0 s1 b2 i3 k n i4
noncomputable def L13 (m : Nat) : LTbl := addB 48 2 (brLp48_2 m (L12 m)) (L12 m)
theorem okL13 (m : Nat) : LTOk Tryd.prog H (L13 m) := addB_ok (okT20 m) hM (okL12 m) (l := [0, 1, 4, 7, 8, 18, 19]) (by kernel_rfl) (by kernel_rfl) m (fun R n vs k => ELp48_2 m R n vs k) (fun R vs k => rfl) (fun R n vs k x h => by
   simp only [ELp48_2] at h
   split at h
   ·exact (stLp48_2 m n R _ _ _ _ _ k).trans h
   ·cases h) fun R vs k x h => by
  unfold brLp48_2 at h
  split at h
  ·exact .inl ((eqLp48_2 m R _ _ _ _ k m _).trans h)
  ·exact .inr h

abbrev W31 (a0 a1 : ByteArray) : List V := [.f (.lit (.string a0)), .f (.lit (.string a1))]
/-- - -/
noncomputable def Fn48 {R : Type} (m : Nat) : ByteArray → ByteArray → (Bool → Option R) → Option R := match m with
 | 0 => fun _ _ _ => none
 | m + 1 => fun s0 s1 k =>
 Lp48_2 m (fun b2 i3 => k b2) (fun i4 => k true) s0 s1 false ((↑(ByteArray.size s0) : Int)) m ((0 : Int))
noncomputable def brFn48 (m : Nat) (T : Tbl) (R : Type) (vs : List V) (k : V → List V → Option R) : Option R := match vs with
 | [.f (.lit (.string s0)), .f (.lit (.string s1))] => Fn48 m s0 s1 (fun b5 => k (V.f (F.lit (Value.bool b5))) W1)
 | _ => T R 48 vs k
set_option maxRecDepth 100000 in
theorem evFn48 (m : Nat) (R : Type) (s0 s1 : ByteArray) (k : V → List V → Option R) : runK Tryd.prog H (T20 m) (L13 m) 48 (W31 s0 s1) k = Fn48 (m + 1) s0 s1 (fun b5 => k (V.f (F.lit (Value.bool b5))) W1) := by kernel_rfl
noncomputable def T21 (m : Nat) : Tbl := addT 48 (brFn48 m (T20 m)) (T20 m)
theorem okT21 (m : Nat) : TblOk Tryd.prog (T21 m) := addT_ok (okT20 m) fun R vs k x h => by
 unfold brFn48 at h
 split at h
 ·cases m with
  | zero => cases h
  | succ m => exact runK_some (okT20 m) hM (okL13 m) ((evFn48 m R _ _ k).trans h)
 ·exact okT20 m R 48 _ k x h

/-- - -/
noncomputable def Fn30 {R : Type} (m : Nat) : ByteArray → (Bool → Option R) → Option R := match m with
 | 0 => fun _ _ => none
 | m + 1 => fun s0 k =>
 Fn31 m ((↑(ByteArray.size s0) : Int)) ((1 : Int)) ((40 : Int)) (fun b1 => bif b1 then (bif decide ((0 : Int) ≤ (1 : Int) ∧ (1 : Int) ≤ (↑(ByteArray.size s0) : Int)) then (Fn48 m (ByteArray.extract s0 (0 : Nat) (Int.toNat (1 : Int))) ({ data := #[(97 : UInt8), (98 : UInt8), (99 : UInt8), (100 : UInt8), (101 : UInt8), (102 : UInt8), (103 : UInt8), (104 : UInt8), (105 : UInt8), (106 : UInt8), (107 : UInt8), (108 : UInt8), (109 : UInt8), (110 : UInt8), (111 : UInt8), (112 : UInt8), (113 : UInt8), (114 : UInt8), (115 : UInt8), (116 : UInt8), (117 : UInt8), (118 : UInt8), (119 : UInt8), (120 : UInt8), (121 : UInt8), (122 : UInt8)] }) (fun b2 => bif b2 then (Fn48 m s0 ({ data := #[(97 : UInt8), (98 : UInt8), (99 : UInt8), (100 : UInt8), (101 : UInt8), (102 : UInt8), (103 : UInt8), (104 : UInt8), (105 : UInt8), (106 : UInt8), (107 : UInt8), (108 : UInt8), (109 : UInt8), (110 : UInt8), (111 : UInt8), (112 : UInt8), (113 : UInt8), (114 : UInt8), (115 : UInt8), (116 : UInt8), (117 : UInt8), (118 : UInt8), (119 : UInt8), (120 : UInt8), (121 : UInt8), (122 : UInt8), (48 : UInt8), (49 : UInt8), (50 : UInt8), (51 : UInt8), (52 : UInt8), (53 : UInt8), (54 : UInt8), (55 : UInt8), (56 : UInt8), (57 : UInt8), (45 : UInt8), (95 : UInt8)] }) (fun b3 => k b3)) else
 (k false))) else
 (none)) else
 (k false))
noncomputable def brFn30 (m : Nat) (T : Tbl) (R : Type) (vs : List V) (k : V → List V → Option R) : Option R := match vs with
 | [.f (.lit (.string s0))] => Fn30 m s0 (fun b4 => k (V.f (F.lit (Value.bool b4))) W18)
 | _ => T R 30 vs k
set_option maxRecDepth 100000 in
theorem evFn30 (m : Nat) (R : Type) (s0 : ByteArray) (k : V → List V → Option R) : runK Tryd.prog H (T21 m) (L13 m) 30 (W19 s0) k = Fn30 (m + 1) s0 (fun b4 => k (V.f (F.lit (Value.bool b4))) W18) := by kernel_rfl
noncomputable def T22 (m : Nat) : Tbl := addT 30 (brFn30 m (T21 m)) (T21 m)
theorem okT22 (m : Nat) : TblOk Tryd.prog (T22 m) := addT_ok (okT21 m) fun R vs k x h => by
 unfold brFn30 at h
 split at h
 ·cases m with
  | zero => cases h
  | succ m => exact runK_some (okT21 m) hM (okL13 m) ((evFn30 m R _ k).trans h)
 ·exact okT21 m R 30 _ k x h

abbrev W32 (a0 : Abs.Rows) (a1 : Int) (a2 a3 : ByteArray) (a4 : Abs.Rows) (a5 a6 : Int) (a7 : Abs.Rows) (a8 : Int) (a9 : Abs.Rows) (a10 a11 : Int) (a12 : Abs.Rows) (a13 a14 : Int) : List V := [.bor [.str, .lst [.str, .int .i64], .int .i64, .int .i64, .lst [.int .i64, .int .i64], .int .i64] a0, .f (.lit (.int .i64 a1)), .f (.lit (.string a2)), .obj [.f (.lit (.string a3)), .f (.lst [.str, .int .i64] a4), .f (.lit (.int .i64 a5)), .f (.lit (.int .i64 a6)), .f (.lst [.int .i64, .int .i64] a7), .f (.lit (.int .i64 a8))], .bor [.str, .lst [.str, .int .i64], .int .i64, .int .i64, .lst [.int .i64, .int .i64], .int .i64] a9, .f (.lit (.int .i64 a10)), .f (.lit (.int .i64 a11)), .ref 5 1, .f (.lst [.str, .int .i64] a12), .f (.lit (.int .i64 a13)), .f (.lit (.int .i64 a14)), .undef]
/-- - -/
noncomputable def Lp9_19_step {R : Type} (m : Nat) (kx0 : Int → Int → Option R) (kx1 : Int → Option R) (r0 : Abs.Rows) (i1 : Int) (s2 s3 : ByteArray) (r4 : Abs.Rows) (i5 i6 : Int) (r7 : Abs.Rows) (i8 : Int) (r9 : Abs.Rows) (i10 i11 : Int) (r12 : Abs.Rows) (i13 : Int) (REC : Int → Option R) (i14 : Int) : Option R :=
 bif decide (i14 < i13) then (bif decide ((0 : Int) ≤ i14 ∧ i14 < (↑(List.length r12) : Int)) then (Fn30 m (fS r12 (Int.toNat i14) (0 : Nat)) (fun b15 => bif !b15 then (kx0 ((5 : Int)) i14) else
 (Fn31 m (fI r12 (Int.toNat i14) (1 : Nat)) ((1 : Int)) ((9 : Int)) (fun b16 => bif !b16 then (kx0 ((1 : Int)) i14) else
 (bif decide (i14 > (0 : Int)) then (bif decide ((0 : Int) ≤ IntKind.wrap IntKind.i64 (i14 - (1 : Int)) ∧ IntKind.wrap IntKind.i64 (i14 - (1 : Int)) < (↑(List.length r4) : Int)) then (bif Op.bytesLess (ByteArray.toList (fS r12 (Int.toNat i14) (0 : Nat))) (ByteArray.toList (fS r4 (Int.toNat (IntKind.wrap IntKind.i64 (i14 - (1 : Int)))) (0 : Nat))) || ByteArray.toList (fS r12 (Int.toNat i14) (0 : Nat)) == ByteArray.toList (fS r4 (Int.toNat (IntKind.wrap IntKind.i64 (i14 - (1 : Int)))) (0 : Nat)) then (kx0 ((7 : Int)) i14) else
 (REC (IntKind.wrap IntKind.i64 (i14 + (1 : Int))))) else
 (none)) else
 (REC (IntKind.wrap IntKind.i64 (i14 + (1 : Int))))))))) else
 (none)) else
 (kx1 i14)
noncomputable def Lp9_19 {R : Type} (m : Nat) (kx0 : Int → Int → Option R) (kx1 : Int → Option R) (r0 : Abs.Rows) (i1 : Int) (s2 s3 : ByteArray) (r4 : Abs.Rows) (i5 i6 : Int) (r7 : Abs.Rows) (i8 : Int) (r9 : Abs.Rows) (i10 i11 : Int) (r12 : Abs.Rows) (i13 : Int) : Nat → Int → Option R
 | 0, _ => none
 | n + 1, i14 => Lp9_19_step m kx0 kx1 r0 i1 s2 s3 r4 i5 i6 r7 i8 r9 i10 i11 r12 i13 (Lp9_19 m kx0 kx1 r0 i1 s2 s3 r4 i5 i6 r7 i8 r9 i10 i11 r12 i13 n) i14
noncomputable def ELp9_19 (m : Nat) (R : Type) : Nat → List V → (Ex → List V → Option R) → Option R
 | 0, _, _ => none
 | n + 1, vs, k => match vs with
  | [.bor [.str, .lst [.str, .int .i64], .int .i64, .int .i64, .lst [.int .i64, .int .i64], .int .i64] r0, .f (.lit (.int .i64 i1)), .f (.lit (.string s2)), .obj [.f (.lit (.string s3)), .f (.lst [.str, .int .i64] r4), .f (.lit (.int .i64 i5)), .f (.lit (.int .i64 i6)), .f (.lst [.int .i64, .int .i64] r7), .f (.lit (.int .i64 i8))], .bor [.str, .lst [.str, .int .i64], .int .i64, .int .i64, .lst [.int .i64, .int .i64], .int .i64] r9, .f (.lit (.int .i64 i10)), .f (.lit (.int .i64 i11)), .ref 5 1, .f (.lst [.str, .int .i64] r12), .f (.lit (.int .i64 i13)), .f (.lit (.int .i64 i14)), .undef] => Lp9_19_step m (fun i17 i18 => k Ex.ret (W32 r0 i17 s2 s3 r4 i5 i6 r7 i8 r9 i10 i11 r12 i13 i18)) (fun i19 => k (Ex.exit (3 : Nat)) (W32 r0 i1 s2 s3 r4 i5 i6 r7 i8 r9 i10 i11 r12 i13 i19)) r0 i1 s2 s3 r4 i5 i6 r7 i8 r9 i10 i11 r12 i13 (fun i14 => ELp9_19 m R n (W32 r0 i1 s2 s3 r4 i5 i6 r7 i8 r9 i10 i11 r12 i13 i14) k) i14
  | _ => none
noncomputable def brLp9_19 (m : Nat) (L : LTbl) (R : Type) (vs : List V) (k : Ex → List V → Option R) : Option R := match vs with
 | [.bor [.str, .lst [.str, .int .i64], .int .i64, .int .i64, .lst [.int .i64, .int .i64], .int .i64] r0, .f (.lit (.int .i64 i1)), .f (.lit (.string s2)), .obj [.f (.lit (.string s3)), .f (.lst [.str, .int .i64] r4), .f (.lit (.int .i64 i5)), .f (.lit (.int .i64 i6)), .f (.lst [.int .i64, .int .i64] r7), .f (.lit (.int .i64 i8))], .bor [.str, .lst [.str, .int .i64], .int .i64, .int .i64, .lst [.int .i64, .int .i64], .int .i64] r9, .f (.lit (.int .i64 i10)), .f (.lit (.int .i64 i11)), .ref 5 1, .f (.lst [.str, .int .i64] r12), .f (.lit (.int .i64 i13)), .f (.lit (.int .i64 i14)), .undef] => Lp9_19 m (fun i17 i18 => k Ex.ret (W32 r0 i17 s2 s3 r4 i5 i6 r7 i8 r9 i10 i11 r12 i13 i18)) (fun i19 => k (Ex.exit (3 : Nat)) (W32 r0 i1 s2 s3 r4 i5 i6 r7 i8 r9 i10 i11 r12 i13 i19)) r0 i1 s2 s3 r4 i5 i6 r7 i8 r9 i10 i11 r12 i13 m i14
 | _ => L R 9 19 vs k
set_option maxRecDepth 100000 in
theorem stLp9_19 (m n : Nat) (R : Type) (r0 : Abs.Rows) (i1 : Int) (s2 s3 : ByteArray) (r4 : Abs.Rows) (i5 i6 : Int) (r7 : Abs.Rows) (i8 : Int) (r9 : Abs.Rows) (i10 i11 : Int) (r12 : Abs.Rows) (i13 i14 : Int) (k : Ex → List V → Option R) : codeK Tryd.prog H (T22 m) 9 (L13 m) 20 (loopBody Tryd.prog 9 19) (mkEnv [0, 2, 3, 5, 12, 13, 14, 35, 36, 37, 38, 75] (W32 r0 i1 s2 s3 r4 i5 i6 r7 i8 r9 i10 i11 r12 i13 i14) 0 (H.len 9)) (fun e env' => match e with | .normal => ELp9_19 m R n (vals [0, 2, 3, 5, 12, 13, 14, 35, 36, 37, 38, 75] env') k | e => k e (vals [0, 2, 3, 5, 12, 13, 14, 35, 36, 37, 38, 75] env')) = Lp9_19_step m (fun i17 i18 => k Ex.ret (W32 r0 i17 s2 s3 r4 i5 i6 r7 i8 r9 i10 i11 r12 i13 i18)) (fun i19 => k (Ex.exit (3 : Nat)) (W32 r0 i1 s2 s3 r4 i5 i6 r7 i8 r9 i10 i11 r12 i13 i19)) r0 i1 s2 s3 r4 i5 i6 r7 i8 r9 i10 i11 r12 i13 (fun i14 => ELp9_19 m R n (W32 r0 i1 s2 s3 r4 i5 i6 r7 i8 r9 i10 i11 r12 i13 i14) k) i14 := by kernel_rfl
theorem eqLp9_19 (m : Nat) (R : Type) (r0 : Abs.Rows) (i1 : Int) (s2 s3 : ByteArray) (r4 : Abs.Rows) (i5 i6 : Int) (r7 : Abs.Rows) (i8 : Int) (r9 : Abs.Rows) (i10 i11 : Int) (r12 : Abs.Rows) (i13 : Int) (k : Ex → List V → Option R) : ∀ (n : Nat) (i14 : Int), ELp9_19 m R n (W32 r0 i1 s2 s3 r4 i5 i6 r7 i8 r9 i10 i11 r12 i13 i14) k = Lp9_19 m (fun i17 i18 => k Ex.ret (W32 r0 i17 s2 s3 r4 i5 i6 r7 i8 r9 i10 i11 r12 i13 i18)) (fun i19 => k (Ex.exit (3 : Nat)) (W32 r0 i1 s2 s3 r4 i5 i6 r7 i8 r9 i10 i11 r12 i13 i19)) r0 i1 s2 s3 r4 i5 i6 r7 i8 r9 i10 i11 r12 i13 n i14
 | 0, _ => rfl
 | n + 1, i14 => by
  simp only [ELp9_19, Lp9_19, W32]
  congr 1
  funext i14
  exact eqLp9_19 m R r0 i1 s2 s3 r4 i5 i6 r7 i8 r9 i10 i11 r12 i13 k n i14
noncomputable def L14 (m : Nat) : LTbl := addB 9 19 (brLp9_19 m (L13 m)) (L13 m)
theorem okL14 (m : Nat) : LTOk Tryd.prog H (L14 m) := addB_ok (okT22 m) hM (okL13 m) (l := [0, 2, 3, 5, 12, 13, 14, 35, 36, 37, 38, 75]) (by kernel_rfl) (by kernel_rfl) m (fun R n vs k => ELp9_19 m R n vs k) (fun R vs k => rfl) (fun R n vs k x h => by
   simp only [ELp9_19] at h
   split at h
   ·exact (stLp9_19 m n R _ _ _ _ _ _ _ _ _ _ _ _ _ _ _ k).trans h
   ·cases h) fun R vs k x h => by
  unfold brLp9_19 at h
  split at h
  ·exact .inl ((eqLp9_19 m R _ _ _ _ _ _ _ _ _ _ _ _ _ _ k m _).trans h)
  ·exact .inr h

abbrev W33 (a0 : ByteArray) (a1 : Abs.Rows) (a2 a3 : Int) (a4 : Abs.Rows) (a5 a6 : Int) (a7 : Bool) : List V := [.obj [.f (.lit (.string a0)), .f (.lst [.str, .int .i64] a1), .f (.lit (.int .i64 a2)), .f (.lit (.int .i64 a3)), .f (.lst [.int .i64, .int .i64] a4), .f (.lit (.int .i64 a5))], .f (.lit (.int .i64 a6)), .f (.lit (.bool a7)), .undef]
/-- - -/
noncomputable def Jn32_1 {R : Type} (m : Nat) (kx0 : Int → Bool → Option R) (kx1 : Bool → Option R) (s0 : ByteArray) (r1 : Abs.Rows) (i2 i3 : Int) (r4 : Abs.Rows) (i5 i6 : Int) (b7 : Bool) : Option R :=
 bif b7 then (kx0 ((1 : Int)) true) else
 (bif decide ((↑(List.length r4) : Int) > (50 : Int)) then (kx0 ((2 : Int)) false) else
 (kx1 false))
noncomputable def brJn32_1 (m : Nat) (L : LTbl) (R : Type) (vs : List V) (k : Ex → List V → Option R) : Option R := match vs with
 | [.obj [.f (.lit (.string s0)), .f (.lst [.str, .int .i64] r1), .f (.lit (.int .i64 i2)), .f (.lit (.int .i64 i3)), .f (.lst [.int .i64, .int .i64] r4), .f (.lit (.int .i64 i5))], .f (.lit (.int .i64 i6)), .f (.lit (.bool b7)), .undef] => Jn32_1 m (fun i8 b9 => k Ex.ret (W33 s0 r1 i2 i3 r4 i5 i8 b9)) (fun b10 => k Ex.normal (W33 s0 r1 i2 i3 r4 i5 i6 b10)) s0 r1 i2 i3 r4 i5 i6 b7
 | _ => L R 32 1 vs k
set_option maxRecDepth 100000 in
theorem evJn32_1 (m : Nat) (R : Type) (s0 : ByteArray) (r1 : Abs.Rows) (i2 i3 : Int) (r4 : Abs.Rows) (i5 i6 : Int) (b7 : Bool) (k : Ex → List V → Option R) : codeK Tryd.prog H (T22 m) 32 (L14 m) 2 (loopBody Tryd.prog 32 1) (mkEnv [1, 2, 5, 67] (W33 s0 r1 i2 i3 r4 i5 i6 b7) 0 (H.len 32)) (fun e env' => k e (vals [1, 2, 5, 67] env')) = Jn32_1 m (fun i8 b9 => k Ex.ret (W33 s0 r1 i2 i3 r4 i5 i8 b9)) (fun b10 => k Ex.normal (W33 s0 r1 i2 i3 r4 i5 i6 b10)) s0 r1 i2 i3 r4 i5 i6 b7 := by kernel_rfl
noncomputable def L15 (m : Nat) : LTbl := addJ 32 1 (brJn32_1 m (L14 m)) (L14 m)
theorem okL15 (m : Nat) : LTOk Tryd.prog H (L15 m) := addJ_ok (okT22 m) hM (okL14 m) (l := [1, 2, 5, 67]) (by kernel_rfl) (by kernel_rfl) fun R vs k x h => by
  unfold brJn32_1 at h
  split at h
  ·exact .inl ((evJn32_1 m R _ _ _ _ _ _ _ _ k).trans h)
  ·exact .inr h

/-- - -/
noncomputable def Jn32_13 {R : Type} (m : Nat) (kx0 : Int → Option R) (kx1 : Option R) (s0 : ByteArray) (r1 : Abs.Rows) (i2 i3 : Int) (r4 : Abs.Rows) (i5 i6 i7 i8 i9 : Int) (r10 : Abs.Rows) (i11 i12 : Int) : Option R :=
 bif decide (i7 > (0 : Int)) then (bif decide ((0 : Int) ≤ IntKind.wrap IntKind.i64 (i7 - (1 : Int)) ∧ IntKind.wrap IntKind.i64 (i7 - (1 : Int)) < (↑(List.length r4) : Int)) then (bif decide (i8 < fI r4 (Int.toNat (IntKind.wrap IntKind.i64 (i7 - (1 : Int)))) (1 : Nat)) then (kx0 ((7 : Int))) else
 (kx1 )) else
 (none)) else
 (kx1 )
noncomputable def brJn32_13 (m : Nat) (L : LTbl) (R : Type) (vs : List V) (k : Ex → List V → Option R) : Option R := match vs with
 | [.obj [.f (.lit (.string s0)), .f (.lst [.str, .int .i64] r1), .f (.lit (.int .i64 i2)), .f (.lit (.int .i64 i3)), .f (.lst [.int .i64, .int .i64] r4), .f (.lit (.int .i64 i5))], .f (.lit (.int .i64 i6)), .f (.lit (.int .i64 i7)), .obj [.f (.lit (.int .i64 i8)), .f (.lit (.int .i64 i9))], .ref 1 4, .f (.lst [.int .i64, .int .i64] r10), .f (.lit (.int .i64 i11)), .f (.lit (.int .i64 i12)), .undef] => Jn32_13 m (fun i13 => k Ex.ret (W22 s0 r1 i2 i3 r4 i5 i13 i7 i8 i9 r10 i11 i12)) (k Ex.normal (W22 s0 r1 i2 i3 r4 i5 i6 i7 i8 i9 r10 i11 i12)) s0 r1 i2 i3 r4 i5 i6 i7 i8 i9 r10 i11 i12
 | _ => L R 32 13 vs k
set_option maxRecDepth 100000 in
theorem evJn32_13 (m : Nat) (R : Type) (s0 : ByteArray) (r1 : Abs.Rows) (i2 i3 : Int) (r4 : Abs.Rows) (i5 i6 i7 i8 i9 : Int) (r10 : Abs.Rows) (i11 i12 : Int) (k : Ex → List V → Option R) : codeK Tryd.prog H (T22 m) 32 (L15 m) 14 (loopBody Tryd.prog 32 13) (mkEnv [1, 2, 3, 4, 25, 26, 27, 28, 67] (W22 s0 r1 i2 i3 r4 i5 i6 i7 i8 i9 r10 i11 i12) 0 (H.len 32)) (fun e env' => k e (vals [1, 2, 3, 4, 25, 26, 27, 28, 67] env')) = Jn32_13 m (fun i13 => k Ex.ret (W22 s0 r1 i2 i3 r4 i5 i13 i7 i8 i9 r10 i11 i12)) (k Ex.normal (W22 s0 r1 i2 i3 r4 i5 i6 i7 i8 i9 r10 i11 i12)) s0 r1 i2 i3 r4 i5 i6 i7 i8 i9 r10 i11 i12 := by kernel_rfl
noncomputable def L16 (m : Nat) : LTbl := addJ 32 13 (brJn32_13 m (L15 m)) (L15 m)
theorem okL16 (m : Nat) : LTOk Tryd.prog H (L16 m) := addJ_ok (okT22 m) hM (okL15 m) (l := [1, 2, 3, 4, 25, 26, 27, 28, 67]) (by kernel_rfl) (by kernel_rfl) fun R vs k x h => by
  unfold brJn32_13 at h
  split at h
  ·exact .inl ((evJn32_13 m R _ _ _ _ _ _ _ _ _ _ _ _ _ k).trans h)
  ·exact .inr h

/-- - -/
noncomputable def Lp32_7_step {R : Type} (m : Nat) (kx0 : Int → Int → Option R) (kx1 : Int → Option R) (s0 : ByteArray) (r1 : Abs.Rows) (i2 i3 : Int) (r4 : Abs.Rows) (i5 i6 : Int) (r7 : Abs.Rows) (i8 : Int) (REC : Int → Option R) (i9 : Int) : Option R :=
 bif decide (i9 < i8) then (bif decide ((0 : Int) ≤ i9 ∧ i9 < (↑(List.length r7) : Int)) then (bif decide (fI r7 (Int.toNat i9) (0 : Nat) < (0 : Int)) then (kx0 ((1 : Int)) i9) else
 (bif decide (fI r7 (Int.toNat i9) (0 : Nat) ≥ fI r7 (Int.toNat i9) (1 : Nat)) then (kx0 ((1 : Int)) i9) else
 (bif decide (fI r7 (Int.toNat i9) (1 : Nat) > (345686400000 : Int)) then (kx0 ((1 : Int)) i9) else
 (Jn32_13 m (fun i10 => kx0 i10 i9) (REC (IntKind.wrap IntKind.i64 (i9 + (1 : Int)))) s0 r1 i2 i3 r4 i5 i6 i9 (fI r7 (Int.toNat i9) (0 : Nat)) (fI r7 (Int.toNat i9) (1 : Nat)) r7 i8 i9)))) else
 (none)) else
 (kx1 i9)
noncomputable def Lp32_7 {R : Type} (m : Nat) (kx0 : Int → Int → Option R) (kx1 : Int → Option R) (s0 : ByteArray) (r1 : Abs.Rows) (i2 i3 : Int) (r4 : Abs.Rows) (i5 i6 : Int) (r7 : Abs.Rows) (i8 : Int) : Nat → Int → Option R
 | 0, _ => none
 | n + 1, i9 => Lp32_7_step m kx0 kx1 s0 r1 i2 i3 r4 i5 i6 r7 i8 (Lp32_7 m kx0 kx1 s0 r1 i2 i3 r4 i5 i6 r7 i8 n) i9
noncomputable def ELp32_7 (m : Nat) (R : Type) : Nat → List V → (Ex → List V → Option R) → Option R
 | 0, _, _ => none
 | n + 1, vs, k => match vs with
  | [.obj [.f (.lit (.string s0)), .f (.lst [.str, .int .i64] r1), .f (.lit (.int .i64 i2)), .f (.lit (.int .i64 i3)), .f (.lst [.int .i64, .int .i64] r4), .f (.lit (.int .i64 i5))], .f (.lit (.int .i64 i6)), .ref 1 4, .f (.lst [.int .i64, .int .i64] r7), .f (.lit (.int .i64 i8)), .f (.lit (.int .i64 i9)), .undef] => Lp32_7_step m (fun i11 i12 => k Ex.ret (W23 s0 r1 i2 i3 r4 i5 i11 r7 i8 i12)) (fun i13 => k (Ex.exit (1 : Nat)) (W23 s0 r1 i2 i3 r4 i5 i6 r7 i8 i13)) s0 r1 i2 i3 r4 i5 i6 r7 i8 (fun i9 => ELp32_7 m R n (W23 s0 r1 i2 i3 r4 i5 i6 r7 i8 i9) k) i9
  | _ => none
noncomputable def brLp32_7 (m : Nat) (L : LTbl) (R : Type) (vs : List V) (k : Ex → List V → Option R) : Option R := match vs with
 | [.obj [.f (.lit (.string s0)), .f (.lst [.str, .int .i64] r1), .f (.lit (.int .i64 i2)), .f (.lit (.int .i64 i3)), .f (.lst [.int .i64, .int .i64] r4), .f (.lit (.int .i64 i5))], .f (.lit (.int .i64 i6)), .ref 1 4, .f (.lst [.int .i64, .int .i64] r7), .f (.lit (.int .i64 i8)), .f (.lit (.int .i64 i9)), .undef] => Lp32_7 m (fun i11 i12 => k Ex.ret (W23 s0 r1 i2 i3 r4 i5 i11 r7 i8 i12)) (fun i13 => k (Ex.exit (1 : Nat)) (W23 s0 r1 i2 i3 r4 i5 i6 r7 i8 i13)) s0 r1 i2 i3 r4 i5 i6 r7 i8 m i9
 | _ => L R 32 7 vs k
set_option maxRecDepth 100000 in
theorem stLp32_7 (m n : Nat) (R : Type) (s0 : ByteArray) (r1 : Abs.Rows) (i2 i3 : Int) (r4 : Abs.Rows) (i5 i6 : Int) (r7 : Abs.Rows) (i8 i9 : Int) (k : Ex → List V → Option R) : codeK Tryd.prog H (T22 m) 32 (L16 m) 8 (loopBody Tryd.prog 32 7) (mkEnv [1, 2, 25, 26, 27, 28, 67] (W23 s0 r1 i2 i3 r4 i5 i6 r7 i8 i9) 0 (H.len 32)) (fun e env' => match e with | .normal => ELp32_7 m R n (vals [1, 2, 25, 26, 27, 28, 67] env') k | e => k e (vals [1, 2, 25, 26, 27, 28, 67] env')) = Lp32_7_step m (fun i11 i12 => k Ex.ret (W23 s0 r1 i2 i3 r4 i5 i11 r7 i8 i12)) (fun i13 => k (Ex.exit (1 : Nat)) (W23 s0 r1 i2 i3 r4 i5 i6 r7 i8 i13)) s0 r1 i2 i3 r4 i5 i6 r7 i8 (fun i9 => ELp32_7 m R n (W23 s0 r1 i2 i3 r4 i5 i6 r7 i8 i9) k) i9 := by kernel_rfl
theorem eqLp32_7 (m : Nat) (R : Type) (s0 : ByteArray) (r1 : Abs.Rows) (i2 i3 : Int) (r4 : Abs.Rows) (i5 i6 : Int) (r7 : Abs.Rows) (i8 : Int) (k : Ex → List V → Option R) : ∀ (n : Nat) (i9 : Int), ELp32_7 m R n (W23 s0 r1 i2 i3 r4 i5 i6 r7 i8 i9) k = Lp32_7 m (fun i11 i12 => k Ex.ret (W23 s0 r1 i2 i3 r4 i5 i11 r7 i8 i12)) (fun i13 => k (Ex.exit (1 : Nat)) (W23 s0 r1 i2 i3 r4 i5 i6 r7 i8 i13)) s0 r1 i2 i3 r4 i5 i6 r7 i8 n i9
 | 0, _ => rfl
 | n + 1, i9 => by
  simp only [ELp32_7, Lp32_7, W23]
  congr 1
  funext i9
  exact eqLp32_7 m R s0 r1 i2 i3 r4 i5 i6 r7 i8 k n i9
noncomputable def L17 (m : Nat) : LTbl := addB 32 7 (brLp32_7 m (L16 m)) (L16 m)
theorem okL17 (m : Nat) : LTOk Tryd.prog H (L17 m) := addB_ok (okT22 m) hM (okL16 m) (l := [1, 2, 25, 26, 27, 28, 67]) (by kernel_rfl) (by kernel_rfl) m (fun R n vs k => ELp32_7 m R n vs k) (fun R vs k => rfl) (fun R n vs k x h => by
   simp only [ELp32_7] at h
   split at h
   ·exact (stLp32_7 m n R _ _ _ _ _ _ _ _ _ _ k).trans h
   ·cases h) fun R vs k x h => by
  unfold brLp32_7 at h
  split at h
  ·exact .inl ((eqLp32_7 m R _ _ _ _ _ _ _ _ _ k m _).trans h)
  ·exact .inr h

/-- - -/
noncomputable def Jn32_5 {R : Type} (m : Nat) (kx0 : Int → Option R) (s0 : ByteArray) (r1 : Abs.Rows) (i2 i3 : Int) (r4 : Abs.Rows) (i5 i6 : Int) : Option R :=
 Lp32_7 m (fun i7 i8 => kx0 i7) (fun i9 => Fn31 m i5 ((0 : Int)) ((86400000 : Int)) (fun b10 => bif !b10 then (kx0 ((1 : Int))) else
 (kx0 ((0 : Int))))) s0 r1 i2 i3 r4 i5 i6 r4 ((↑(List.length r4) : Int)) m ((0 : Int))
noncomputable def brJn32_5 (m : Nat) (L : LTbl) (R : Type) (vs : List V) (k : Ex → List V → Option R) : Option R := match vs with
 | [.obj [.f (.lit (.string s0)), .f (.lst [.str, .int .i64] r1), .f (.lit (.int .i64 i2)), .f (.lit (.int .i64 i3)), .f (.lst [.int .i64, .int .i64] r4), .f (.lit (.int .i64 i5))], .f (.lit (.int .i64 i6)), .undef] => Jn32_5 m (fun i11 => k Ex.ret (W24 s0 r1 i2 i3 r4 i5 i11)) s0 r1 i2 i3 r4 i5 i6
 | _ => L R 32 5 vs k
set_option maxRecDepth 100000 in
theorem evJn32_5 (m : Nat) (R : Type) (s0 : ByteArray) (r1 : Abs.Rows) (i2 i3 : Int) (r4 : Abs.Rows) (i5 i6 : Int) (k : Ex → List V → Option R) : codeK Tryd.prog H (T22 m) 32 (L17 m) 6 (loopBody Tryd.prog 32 5) (mkEnv [1, 2, 67] (W24 s0 r1 i2 i3 r4 i5 i6) 0 (H.len 32)) (fun e env' => k e (vals [1, 2, 67] env')) = Jn32_5 m (fun i11 => k Ex.ret (W24 s0 r1 i2 i3 r4 i5 i11)) s0 r1 i2 i3 r4 i5 i6 := by kernel_rfl
noncomputable def L18 (m : Nat) : LTbl := addJ 32 5 (brJn32_5 m (L17 m)) (L17 m)
theorem okL18 (m : Nat) : LTOk Tryd.prog H (L18 m) := addJ_ok (okT22 m) hM (okL17 m) (l := [1, 2, 67]) (by kernel_rfl) (by kernel_rfl) fun R vs k x h => by
  unfold brJn32_5 at h
  split at h
  ·exact .inl ((evJn32_5 m R _ _ _ _ _ _ _ k).trans h)
  ·exact .inr h

/-- - -/
noncomputable def Fn32 {R : Type} (m : Nat) : ByteArray → Abs.Rows → Int → Int → Abs.Rows → Int → (Int → Option R) → Option R := match m with
 | 0 => fun _ _ _ _ _ _ _ => none
 | m + 1 => fun s0 r1 i2 i3 r4 i5 k =>
 Fn31 m i2 ((0 : Int)) i3 (fun b6 => bif !b6 then (Jn32_1 m (fun i7 b8 => k i7) (fun b9 => Jn32_5 m (fun i10 => k i10) s0 r1 i2 i3 r4 i5 ((0 : Int))) s0 r1 i2 i3 r4 i5 ((0 : Int)) true) else
 (Jn32_1 m (fun i11 b12 => k i11) (fun b13 => Jn32_5 m (fun i14 => k i14) s0 r1 i2 i3 r4 i5 ((0 : Int))) s0 r1 i2 i3 r4 i5 ((0 : Int)) (decide (i3 > (345686400000 : Int)))))
noncomputable def brFn32 (m : Nat) (T : Tbl) (R : Type) (vs : List V) (k : V → List V → Option R) : Option R := match vs with
 | [.agg [.f (.lit (.string s0)), .f (.lst [.str, .int .i64] r1), .f (.lit (.int .i64 i2)), .f (.lit (.int .i64 i3)), .f (.lst [.int .i64, .int .i64] r4), .f (.lit (.int .i64 i5))]] => Fn32 m s0 r1 i2 i3 r4 i5 (fun i15 => k (V.f (F.lit (Value.int IntKind.i64 i15))) W18)
 | _ => T R 32 vs k
set_option maxRecDepth 100000 in
theorem evFn32 (m : Nat) (R : Type) (s0 : ByteArray) (r1 : Abs.Rows) (i2 i3 : Int) (r4 : Abs.Rows) (i5 : Int) (k : V → List V → Option R) : runK Tryd.prog H (T22 m) (L18 m) 32 (W25 s0 r1 i2 i3 r4 i5) k = Fn32 (m + 1) s0 r1 i2 i3 r4 i5 (fun i15 => k (V.f (F.lit (Value.int IntKind.i64 i15))) W18) := by kernel_rfl
noncomputable def T23 (m : Nat) : Tbl := addT 32 (brFn32 m (T22 m)) (T22 m)
theorem okT23 (m : Nat) : TblOk Tryd.prog (T23 m) := addT_ok (okT22 m) fun R vs k x h => by
 unfold brFn32 at h
 split at h
 ·cases m with
  | zero => cases h
  | succ m => exact runK_some (okT22 m) hM (okL18 m) ((evFn32 m R _ _ _ _ _ _ k).trans h)
 ·exact okT22 m R 32 _ k x h

abbrev W34 (a0 : Abs.Rows) (a1 : Int) (a2 : ByteArray) (a3 : Abs.Rows) (a4 a5 : Int) : List V := [.bor [.str, .lst [.str, .int .i64], .int .i64, .int .i64, .lst [.int .i64, .int .i64], .int .i64] a0, .f (.lit (.int .i64 a1)), .f (.lit (.string a2)), .bor [.str, .lst [.str, .int .i64], .int .i64, .int .i64, .lst [.int .i64, .int .i64], .int .i64] a3, .f (.lit (.int .i64 a4)), .f (.lit (.int .i64 a5)), .undef]
/-- - -/
noncomputable def Lp9_6_step {R : Type} (m : Nat) (kx0 : Int → ByteArray → Int → Option R) (kx1 : ByteArray → Int → Option R) (r0 : Abs.Rows) (i1 : Int) (r2 : Abs.Rows) (i3 : Int) (REC : ByteArray → Int → Option R) (s4 : ByteArray) (i5 : Int) : Option R :=
 bif decide (i5 < i3) then (bif decide ((0 : Int) ≤ i5 ∧ i5 < (↑(List.length r2) : Int)) then (Fn30 m (fS r2 (Int.toNat i5) (0 : Nat)) (fun b6 => bif !b6 then (kx0 ((5 : Int)) s4 i5) else
 (bif Op.bytesLess (ByteArray.toList (fS r2 (Int.toNat i5) (0 : Nat))) (ByteArray.toList s4) || ByteArray.toList (fS r2 (Int.toNat i5) (0 : Nat)) == ByteArray.toList s4 then (kx0 ((7 : Int)) s4 i5) else
 (bif decide ((↑(List.length (fR r2 (Int.toNat i5) (1 : Nat))) : Int) > (10 : Int)) then (kx0 ((2 : Int)) s4 i5) else
 (Lp9_19 m (fun i7 i8 => kx0 i7 (fS r2 (Int.toNat i5) (0 : Nat)) i5) (fun i9 => Fn32 m (fS r2 (Int.toNat i5) (0 : Nat)) (fR r2 (Int.toNat i5) (1 : Nat)) (fI r2 (Int.toNat i5) (2 : Nat)) (fI r2 (Int.toNat i5) (3 : Nat)) (fR r2 (Int.toNat i5) (4 : Nat)) (fI r2 (Int.toNat i5) (5 : Nat)) (fun i10 => bif i10 != (0 : Int) then (kx0 i10 (fS r2 (Int.toNat i5) (0 : Nat)) i5) else
 (REC (fS r2 (Int.toNat i5) (0 : Nat)) (IntKind.wrap IntKind.i64 (i5 + (1 : Int)))))) r0 i1 (fS r2 (Int.toNat i5) (0 : Nat)) (fS r2 (Int.toNat i5) (0 : Nat)) (fR r2 (Int.toNat i5) (1 : Nat)) (fI r2 (Int.toNat i5) (2 : Nat)) (fI r2 (Int.toNat i5) (3 : Nat)) (fR r2 (Int.toNat i5) (4 : Nat)) (fI r2 (Int.toNat i5) (5 : Nat)) r2 i3 i5 (fR r2 (Int.toNat i5) (1 : Nat)) ((↑(List.length (fR r2 (Int.toNat i5) (1 : Nat))) : Int)) m ((0 : Int))))))) else
 (none)) else
 (kx1 s4 i5)
noncomputable def Lp9_6 {R : Type} (m : Nat) (kx0 : Int → ByteArray → Int → Option R) (kx1 : ByteArray → Int → Option R) (r0 : Abs.Rows) (i1 : Int) (r2 : Abs.Rows) (i3 : Int) : Nat → ByteArray → Int → Option R
 | 0, _, _ => none
 | n + 1, s4, i5 => Lp9_6_step m kx0 kx1 r0 i1 r2 i3 (Lp9_6 m kx0 kx1 r0 i1 r2 i3 n) s4 i5
noncomputable def ELp9_6 (m : Nat) (R : Type) : Nat → List V → (Ex → List V → Option R) → Option R
 | 0, _, _ => none
 | n + 1, vs, k => match vs with
  | [.bor [.str, .lst [.str, .int .i64], .int .i64, .int .i64, .lst [.int .i64, .int .i64], .int .i64] r0, .f (.lit (.int .i64 i1)), .f (.lit (.string s4)), .bor [.str, .lst [.str, .int .i64], .int .i64, .int .i64, .lst [.int .i64, .int .i64], .int .i64] r2, .f (.lit (.int .i64 i3)), .f (.lit (.int .i64 i5)), .undef] => Lp9_6_step m (fun i11 s12 i13 => k Ex.ret (W34 r0 i11 s12 r2 i3 i13)) (fun s14 i15 => k (Ex.exit (0 : Nat)) (W34 r0 i1 s14 r2 i3 i15)) r0 i1 r2 i3 (fun s4 i5 => ELp9_6 m R n (W34 r0 i1 s4 r2 i3 i5) k) s4 i5
  | _ => none
noncomputable def brLp9_6 (m : Nat) (L : LTbl) (R : Type) (vs : List V) (k : Ex → List V → Option R) : Option R := match vs with
 | [.bor [.str, .lst [.str, .int .i64], .int .i64, .int .i64, .lst [.int .i64, .int .i64], .int .i64] r0, .f (.lit (.int .i64 i1)), .f (.lit (.string s4)), .bor [.str, .lst [.str, .int .i64], .int .i64, .int .i64, .lst [.int .i64, .int .i64], .int .i64] r2, .f (.lit (.int .i64 i3)), .f (.lit (.int .i64 i5)), .undef] => Lp9_6 m (fun i11 s12 i13 => k Ex.ret (W34 r0 i11 s12 r2 i3 i13)) (fun s14 i15 => k (Ex.exit (0 : Nat)) (W34 r0 i1 s14 r2 i3 i15)) r0 i1 r2 i3 m s4 i5
 | _ => L R 9 6 vs k
set_option maxRecDepth 100000 in
theorem stLp9_6 (m n : Nat) (R : Type) (r0 : Abs.Rows) (i1 : Int) (s4 : ByteArray) (r2 : Abs.Rows) (i3 i5 : Int) (k : Ex → List V → Option R) : codeK Tryd.prog H (T23 m) 9 (L18 m) 7 (loopBody Tryd.prog 9 6) (mkEnv [0, 2, 3, 12, 13, 14, 75] (W34 r0 i1 s4 r2 i3 i5) 0 (H.len 9)) (fun e env' => match e with | .normal => ELp9_6 m R n (vals [0, 2, 3, 12, 13, 14, 75] env') k | e => k e (vals [0, 2, 3, 12, 13, 14, 75] env')) = Lp9_6_step m (fun i11 s12 i13 => k Ex.ret (W34 r0 i11 s12 r2 i3 i13)) (fun s14 i15 => k (Ex.exit (0 : Nat)) (W34 r0 i1 s14 r2 i3 i15)) r0 i1 r2 i3 (fun s4 i5 => ELp9_6 m R n (W34 r0 i1 s4 r2 i3 i5) k) s4 i5 := by kernel_rfl
theorem eqLp9_6 (m : Nat) (R : Type) (r0 : Abs.Rows) (i1 : Int) (r2 : Abs.Rows) (i3 : Int) (k : Ex → List V → Option R) : ∀ (n : Nat) (s4 : ByteArray) (i5 : Int), ELp9_6 m R n (W34 r0 i1 s4 r2 i3 i5) k = Lp9_6 m (fun i11 s12 i13 => k Ex.ret (W34 r0 i11 s12 r2 i3 i13)) (fun s14 i15 => k (Ex.exit (0 : Nat)) (W34 r0 i1 s14 r2 i3 i15)) r0 i1 r2 i3 n s4 i5
 | 0, _, _ => rfl
 | n + 1, s4, i5 => by
  simp only [ELp9_6, Lp9_6, W34]
  congr 1
  funext s4 i5
  exact eqLp9_6 m R r0 i1 r2 i3 k n s4 i5
noncomputable def L19 (m : Nat) : LTbl := addB 9 6 (brLp9_6 m (L18 m)) (L18 m)
theorem okL19 (m : Nat) : LTOk Tryd.prog H (L19 m) := addB_ok (okT23 m) hM (okL18 m) (l := [0, 2, 3, 12, 13, 14, 75]) (by kernel_rfl) (by kernel_rfl) m (fun R n vs k => ELp9_6 m R n vs k) (fun R vs k => rfl) (fun R n vs k x h => by
   simp only [ELp9_6] at h
   split at h
   ·exact (stLp9_6 m n R _ _ _ _ _ _ k).trans h
   ·cases h) fun R vs k x h => by
  unfold brLp9_6 at h
  split at h
  ·exact .inl ((eqLp9_6 m R _ _ _ _ k m _ _).trans h)
  ·exact .inr h

/-- - -/
noncomputable def Fn9 {R : Type} (m : Nat) : Abs.Rows → (Int → Option R) → Option R := match m with
 | 0 => fun _ _ => none
 | m + 1 => fun r0 k =>
 bif decide ((↑(List.length r0) : Int) > (100 : Int)) then (k ((2 : Int))) else
 (Lp9_6 m (fun i1 s2 i3 => k i1) (fun s4 i5 => k ((0 : Int))) r0 ((0 : Int)) r0 ((↑(List.length r0) : Int)) m ({ data := #[] }) ((0 : Int)))
noncomputable def brFn9 (m : Nat) (T : Tbl) (R : Type) (vs : List V) (k : V → List V → Option R) : Option R := match vs with
 | [.bor [.str, .lst [.str, .int .i64], .int .i64, .int .i64, .lst [.int .i64, .int .i64], .int .i64] r0] => Fn9 m r0 (fun i6 => k (V.f (F.lit (Value.int IntKind.i64 i6))) W18)
 | _ => T R 9 vs k
set_option maxRecDepth 100000 in
theorem evFn9 (m : Nat) (R : Type) (r0 : Abs.Rows) (k : V → List V → Option R) : runK Tryd.prog H (T23 m) (L19 m) 9 (W28 r0) k = Fn9 (m + 1) r0 (fun i6 => k (V.f (F.lit (Value.int IntKind.i64 i6))) W18) := by kernel_rfl
noncomputable def T24 (m : Nat) : Tbl := addT 9 (brFn9 m (T23 m)) (T23 m)
theorem okT24 (m : Nat) : TblOk Tryd.prog (T24 m) := addT_ok (okT23 m) fun R vs k x h => by
 unfold brFn9 at h
 split at h
 ·cases m with
  | zero => cases h
  | succ m => exact runK_some (okT23 m) hM (okL19 m) ((evFn9 m R _ k).trans h)
 ·exact okT23 m R 9 _ k x h

abbrev W35 (a0 : Int) : List V := [.f (.lit (.int .i64 a0))]
/-- - -/
noncomputable def Fn33 {R : Type} (m : Nat) : Int → (Bool → Option R) → Option R := match m with
 | 0 => fun _ _ => none
 | m + 1 => fun i0 k =>
 bif decide (i0 ≥ (0 : Int)) then (k (decide (i0 < (345686400000 : Int)))) else
 (k false)
noncomputable def brFn33 (m : Nat) (T : Tbl) (R : Type) (vs : List V) (k : V → List V → Option R) : Option R := match vs with
 | [.f (.lit (.int .i64 i0))] => Fn33 m i0 (fun b1 => k (V.f (F.lit (Value.bool b1))) W18)
 | _ => T R 33 vs k
set_option maxRecDepth 100000 in
theorem evFn33 (m : Nat) (R : Type) (i0 : Int) (k : V → List V → Option R) : runK Tryd.prog H (T24 m) (L19 m) 33 (W35 i0) k = Fn33 (m + 1) i0 (fun b1 => k (V.f (F.lit (Value.bool b1))) W18) := by kernel_rfl
noncomputable def T25 (m : Nat) : Tbl := addT 33 (brFn33 m (T24 m)) (T24 m)
theorem okT25 (m : Nat) : TblOk Tryd.prog (T25 m) := addT_ok (okT24 m) fun R vs k x h => by
 unfold brFn33 at h
 split at h
 ·cases m with
  | zero => cases h
  | succ m => exact runK_some (okT24 m) hM (okL19 m) ((evFn33 m R _ k).trans h)
 ·exact okT24 m R 33 _ k x h

abbrev W36 (a0 : Abs.Rows) (a1 : Int) (a2 : Abs.Rows) (a3 : Int) (a4 a5 : ByteArray) (a6 a7 a8 a9 a10 : Int) (a11 : Bool) (a12 : Abs.Rows) (a13 a14 : Int) (a15 : Bool) : List V := [.bor [.str, .str, .int .i64, .int .i64, .int .i64, .int .i64, .int .i64, .bool] a0, .f (.lit (.int .i64 a1)), .own [.mp false, .str, .bool] a2, .f (.lit (.int .i64 a3)), .obj [.f (.lit (.string a4)), .f (.lit (.string a5)), .f (.lit (.int .i64 a6)), .f (.lit (.int .i64 a7)), .f (.lit (.int .i64 a8)), .f (.lit (.int .i64 a9)), .f (.lit (.int .i64 a10)), .f (.lit (.bool a11))], .undef, .bor [.str, .str, .int .i64, .int .i64, .int .i64, .int .i64, .int .i64, .bool] a12, .f (.lit (.int .i64 a13)), .f (.lit (.int .i64 a14)), .f (.lit (.bool a15)), .undef]
/-- - -/
noncomputable def Jn10_14 {R : Type} (m : Nat) (kx0 : Int → Bool → Option R) (kx1 : Bool → Option R) (r0 : Abs.Rows) (i1 : Int) (r2 : Abs.Rows) (i3 : Int) (s4 s5 : ByteArray) (i6 i7 i8 i9 i10 : Int) (b11 : Bool) (r12 : Abs.Rows) (i13 i14 : Int) (b15 : Bool) : Option R :=
 bif b15 then (kx0 ((1 : Int)) true) else
 (bif decide (i3 > (0 : Int)) then (bif decide ((0 : Int) ≤ IntKind.wrap IntKind.i64 (i3 - (1 : Int)) ∧ IntKind.wrap IntKind.i64 (i3 - (1 : Int)) < (↑(List.length r0) : Int)) then (bif decide (i6 < fI r0 (Int.toNat (IntKind.wrap IntKind.i64 (i3 - (1 : Int)))) (2 : Nat)) then (kx0 ((7 : Int)) false) else
 (kx1 false)) else
 (none)) else
 (kx1 false))
noncomputable def brJn10_14 (m : Nat) (L : LTbl) (R : Type) (vs : List V) (k : Ex → List V → Option R) : Option R := match vs with
 | [.bor [.str, .str, .int .i64, .int .i64, .int .i64, .int .i64, .int .i64, .bool] r0, .f (.lit (.int .i64 i1)), .own [.mp false, .str, .bool] r2, .f (.lit (.int .i64 i3)), .obj [.f (.lit (.string s4)), .f (.lit (.string s5)), .f (.lit (.int .i64 i6)), .f (.lit (.int .i64 i7)), .f (.lit (.int .i64 i8)), .f (.lit (.int .i64 i9)), .f (.lit (.int .i64 i10)), .f (.lit (.bool b11))], .undef, .bor [.str, .str, .int .i64, .int .i64, .int .i64, .int .i64, .int .i64, .bool] r12, .f (.lit (.int .i64 i13)), .f (.lit (.int .i64 i14)), .f (.lit (.bool b15)), .undef] => Jn10_14 m (fun i16 b17 => k Ex.ret (W36 r0 i16 r2 i3 s4 s5 i6 i7 i8 i9 i10 b11 r12 i13 i14 b17)) (fun b18 => k Ex.normal (W36 r0 i1 r2 i3 s4 s5 i6 i7 i8 i9 i10 b11 r12 i13 i14 b18)) r0 i1 r2 i3 s4 s5 i6 i7 i8 i9 i10 b11 r12 i13 i14 b15
 | _ => L R 10 14 vs k
set_option maxRecDepth 100000 in
theorem evJn10_14 (m : Nat) (R : Type) (r0 : Abs.Rows) (i1 : Int) (r2 : Abs.Rows) (i3 : Int) (s4 s5 : ByteArray) (i6 i7 i8 i9 i10 : Int) (b11 : Bool) (r12 : Abs.Rows) (i13 i14 : Int) (b15 : Bool) (k : Ex → List V → Option R) : codeK Tryd.prog H (T25 m) 10 (L19 m) 15 (loopBody Tryd.prog 10 14) (mkEnv [0, 2, 3, 4, 5, 9, 10, 11, 12, 33, 80] (W36 r0 i1 r2 i3 s4 s5 i6 i7 i8 i9 i10 b11 r12 i13 i14 b15) 0 (H.len 10)) (fun e env' => k e (vals [0, 2, 3, 4, 5, 9, 10, 11, 12, 33, 80] env')) = Jn10_14 m (fun i16 b17 => k Ex.ret (W36 r0 i16 r2 i3 s4 s5 i6 i7 i8 i9 i10 b11 r12 i13 i14 b17)) (fun b18 => k Ex.normal (W36 r0 i1 r2 i3 s4 s5 i6 i7 i8 i9 i10 b11 r12 i13 i14 b18)) r0 i1 r2 i3 s4 s5 i6 i7 i8 i9 i10 b11 r12 i13 i14 b15 := by kernel_rfl
noncomputable def L20 (m : Nat) : LTbl := addJ 10 14 (brJn10_14 m (L19 m)) (L19 m)
theorem okL20 (m : Nat) : LTOk Tryd.prog H (L20 m) := addJ_ok (okT25 m) hM (okL19 m) (l := [0, 2, 3, 4, 5, 9, 10, 11, 12, 33, 80]) (by kernel_rfl) (by kernel_rfl) fun R vs k x h => by
  unfold brJn10_14 at h
  split at h
  ·exact .inl ((evJn10_14 m R _ _ _ _ _ _ _ _ _ _ _ _ _ _ _ _ k).trans h)
  ·exact .inr h

abbrev W37 (a0 : Abs.Rows) (a1 : Int) (a2 : Abs.Rows) (a3 : Int) (a4 a5 : ByteArray) (a6 a7 a8 a9 a10 : Int) (a11 : Bool) (a12 : Abs.Rows) (a13 a14 : Int) : List V := [.bor [.str, .str, .int .i64, .int .i64, .int .i64, .int .i64, .int .i64, .bool] a0, .f (.lit (.int .i64 a1)), .own [.mp false, .str, .bool] a2, .f (.lit (.int .i64 a3)), .obj [.f (.lit (.string a4)), .f (.lit (.string a5)), .f (.lit (.int .i64 a6)), .f (.lit (.int .i64 a7)), .f (.lit (.int .i64 a8)), .f (.lit (.int .i64 a9)), .f (.lit (.int .i64 a10)), .f (.lit (.bool a11))], .undef, .bor [.str, .str, .int .i64, .int .i64, .int .i64, .int .i64, .int .i64, .bool] a12, .f (.lit (.int .i64 a13)), .f (.lit (.int .i64 a14)), .undef, .undef]
/-- - -/
noncomputable def Jn10_10 {R : Type} (m : Nat) (kx0 : Int → Bool → Option R) (kx1 : Int → Option R) (kx2 : Option R) (r0 : Abs.Rows) (i1 : Int) (r2 : Abs.Rows) (i3 : Int) (s4 s5 : ByteArray) (i6 i7 i8 i9 i10 : Int) (b11 : Bool) (r12 : Abs.Rows) (i13 i14 : Int) (b15 : Bool) : Option R :=
 bif b15 then (kx0 ((5 : Int)) true) else
 (bif F.toBool (List.headD (mRow (F.lit (Value.string s4)) [F.lit (Value.bool false)] r2) default) then (kx0 ((6 : Int)) false) else
 (Fn33 m i6 (fun b16 => bif !b16 then (Jn10_14 m (fun i17 b18 => kx1 i17) (fun b19 => kx2 ) r0 i1 r2 i3 s4 s5 i6 i7 i8 i9 i10 b11 r12 i13 i14 true) else
 (Fn34 m i7 ((1 : Int)) ((9 : Int)) (fun b20 => bif !b20 then (Jn10_14 m (fun i21 b22 => kx1 i21) (fun b23 => kx2 ) r0 i1 r2 i3 s4 s5 i6 i7 i8 i9 i10 b11 r12 i13 i14 true) else
 (Fn34 m i8 ((0 : Int)) ((9 : Int)) (fun b24 => bif !b24 then (Jn10_14 m (fun i25 b26 => kx1 i25) (fun b27 => kx2 ) r0 i1 r2 i3 s4 s5 i6 i7 i8 i9 i10 b11 r12 i13 i14 true) else
 (Fn34 m i9 ((0 : Int)) ((86400000 : Int)) (fun b28 => bif !b28 then (Jn10_14 m (fun i29 b30 => kx1 i29) (fun b31 => kx2 ) r0 i1 r2 i3 s4 s5 i6 i7 i8 i9 i10 b11 r12 i13 i14 true) else
 (Fn34 m i10 ((1 : Int)) ((86400000 : Int)) (fun b32 => Jn10_14 m (fun i33 b34 => kx1 i33) (fun b35 => kx2 ) r0 i1 r2 i3 s4 s5 i6 i7 i8 i9 i10 b11 r12 i13 i14 (!b32))))))))))))
noncomputable def brJn10_10 (m : Nat) (L : LTbl) (R : Type) (vs : List V) (k : Ex → List V → Option R) : Option R := match vs with
 | [.bor [.str, .str, .int .i64, .int .i64, .int .i64, .int .i64, .int .i64, .bool] r0, .f (.lit (.int .i64 i1)), .own [.mp false, .str, .bool] r2, .f (.lit (.int .i64 i3)), .obj [.f (.lit (.string s4)), .f (.lit (.string s5)), .f (.lit (.int .i64 i6)), .f (.lit (.int .i64 i7)), .f (.lit (.int .i64 i8)), .f (.lit (.int .i64 i9)), .f (.lit (.int .i64 i10)), .f (.lit (.bool b11))], .undef, .bor [.str, .str, .int .i64, .int .i64, .int .i64, .int .i64, .int .i64, .bool] r12, .f (.lit (.int .i64 i13)), .f (.lit (.int .i64 i14)), .f (.lit (.bool b15)), .undef] => Jn10_10 m (fun i36 b37 => k Ex.ret (W36 r0 i36 r2 i3 s4 s5 i6 i7 i8 i9 i10 b11 r12 i13 i14 b37)) (fun i38 => k Ex.ret (W37 r0 i38 r2 i3 s4 s5 i6 i7 i8 i9 i10 b11 r12 i13 i14)) (k Ex.normal (W37 r0 i1 r2 i3 s4 s5 i6 i7 i8 i9 i10 b11 r12 i13 i14)) r0 i1 r2 i3 s4 s5 i6 i7 i8 i9 i10 b11 r12 i13 i14 b15
 | _ => L R 10 10 vs k
set_option maxRecDepth 100000 in
theorem evJn10_10 (m : Nat) (R : Type) (r0 : Abs.Rows) (i1 : Int) (r2 : Abs.Rows) (i3 : Int) (s4 s5 : ByteArray) (i6 i7 i8 i9 i10 : Int) (b11 : Bool) (r12 : Abs.Rows) (i13 i14 : Int) (b15 : Bool) (k : Ex → List V → Option R) : codeK Tryd.prog H (T25 m) 10 (L20 m) 11 (loopBody Tryd.prog 10 10) (mkEnv [0, 2, 3, 4, 5, 9, 10, 11, 12, 17, 80] (W36 r0 i1 r2 i3 s4 s5 i6 i7 i8 i9 i10 b11 r12 i13 i14 b15) 0 (H.len 10)) (fun e env' => k e (vals [0, 2, 3, 4, 5, 9, 10, 11, 12, 17, 80] env')) = Jn10_10 m (fun i36 b37 => k Ex.ret (W36 r0 i36 r2 i3 s4 s5 i6 i7 i8 i9 i10 b11 r12 i13 i14 b37)) (fun i38 => k Ex.ret (W37 r0 i38 r2 i3 s4 s5 i6 i7 i8 i9 i10 b11 r12 i13 i14)) (k Ex.normal (W37 r0 i1 r2 i3 s4 s5 i6 i7 i8 i9 i10 b11 r12 i13 i14)) r0 i1 r2 i3 s4 s5 i6 i7 i8 i9 i10 b11 r12 i13 i14 b15 := by kernel_rfl
noncomputable def L21 (m : Nat) : LTbl := addJ 10 10 (brJn10_10 m (L20 m)) (L20 m)
theorem okL21 (m : Nat) : LTOk Tryd.prog H (L21 m) := addJ_ok (okT25 m) hM (okL20 m) (l := [0, 2, 3, 4, 5, 9, 10, 11, 12, 17, 80]) (by kernel_rfl) (by kernel_rfl) fun R vs k x h => by
  unfold brJn10_10 at h
  split at h
  ·exact .inl ((evJn10_10 m R _ _ _ _ _ _ _ _ _ _ _ _ _ _ _ _ k).trans h)
  ·exact .inr h

abbrev W38 (a0 : Abs.Rows) (a1 : Int) (a2 a3 : Abs.Rows) (a4 a5 : Int) : List V := [.bor [.str, .str, .int .i64, .int .i64, .int .i64, .int .i64, .int .i64, .bool] a0, .f (.lit (.int .i64 a1)), .own [.mp false, .str, .bool] a2, .undef, .bor [.str, .str, .int .i64, .int .i64, .int .i64, .int .i64, .int .i64, .bool] a3, .f (.lit (.int .i64 a4)), .f (.lit (.int .i64 a5)), .undef]
/-- - -/
noncomputable def Lp10_6_step {R : Type} (m : Nat) (kx0 : Int → Abs.Rows → Int → Option R) (kx1 : Abs.Rows → Int → Option R) (r0 : Abs.Rows) (i1 : Int) (r2 : Abs.Rows) (i3 : Int) (REC : Abs.Rows → Int → Option R) (r4 : Abs.Rows) (i5 : Int) : Option R :=
 bif decide (i5 < i3) then (bif decide ((0 : Int) ≤ i5 ∧ i5 < (↑(List.length r2) : Int)) then (Fn28 m (fS r2 (Int.toNat i5) (0 : Nat)) (fun b6 => bif !b6 then (Jn10_10 m (fun i7 b8 => kx0 i7 r4 i5) (fun i9 => kx0 i9 r4 i5) (bif decide (List.length r4 < rowMax) then (REC (mPut (F.lit (Value.string (fS r2 (Int.toNat i5) (0 : Nat)))) [F.lit (Value.bool true)] r4) (IntKind.wrap IntKind.i64 (i5 + (1 : Int)))) else
 (none)) r0 i1 r4 i5 (fS r2 (Int.toNat i5) (0 : Nat)) (fS r2 (Int.toNat i5) (1 : Nat)) (fI r2 (Int.toNat i5) (2 : Nat)) (fI r2 (Int.toNat i5) (3 : Nat)) (fI r2 (Int.toNat i5) (4 : Nat)) (fI r2 (Int.toNat i5) (5 : Nat)) (fI r2 (Int.toNat i5) (6 : Nat)) (fB r2 (Int.toNat i5) (7 : Nat)) r2 i3 i5 true) else
 (Fn28 m (fS r2 (Int.toNat i5) (1 : Nat)) (fun b10 => Jn10_10 m (fun i11 b12 => kx0 i11 r4 i5) (fun i13 => kx0 i13 r4 i5) (bif decide (List.length r4 < rowMax) then (REC (mPut (F.lit (Value.string (fS r2 (Int.toNat i5) (0 : Nat)))) [F.lit (Value.bool true)] r4) (IntKind.wrap IntKind.i64 (i5 + (1 : Int)))) else
 (none)) r0 i1 r4 i5 (fS r2 (Int.toNat i5) (0 : Nat)) (fS r2 (Int.toNat i5) (1 : Nat)) (fI r2 (Int.toNat i5) (2 : Nat)) (fI r2 (Int.toNat i5) (3 : Nat)) (fI r2 (Int.toNat i5) (4 : Nat)) (fI r2 (Int.toNat i5) (5 : Nat)) (fI r2 (Int.toNat i5) (6 : Nat)) (fB r2 (Int.toNat i5) (7 : Nat)) r2 i3 i5 (!b10))))) else
 (none)) else
 (kx1 r4 i5)
noncomputable def Lp10_6 {R : Type} (m : Nat) (kx0 : Int → Abs.Rows → Int → Option R) (kx1 : Abs.Rows → Int → Option R) (r0 : Abs.Rows) (i1 : Int) (r2 : Abs.Rows) (i3 : Int) : Nat → Abs.Rows → Int → Option R
 | 0, _, _ => none
 | n + 1, r4, i5 => Lp10_6_step m kx0 kx1 r0 i1 r2 i3 (Lp10_6 m kx0 kx1 r0 i1 r2 i3 n) r4 i5
noncomputable def ELp10_6 (m : Nat) (R : Type) : Nat → List V → (Ex → List V → Option R) → Option R
 | 0, _, _ => none
 | n + 1, vs, k => match vs with
  | [.bor [.str, .str, .int .i64, .int .i64, .int .i64, .int .i64, .int .i64, .bool] r0, .f (.lit (.int .i64 i1)), .own [.mp false, .str, .bool] r4, .undef, .bor [.str, .str, .int .i64, .int .i64, .int .i64, .int .i64, .int .i64, .bool] r2, .f (.lit (.int .i64 i3)), .f (.lit (.int .i64 i5)), .undef] => Lp10_6_step m (fun i14 r15 i16 => k Ex.ret (W38 r0 i14 r15 r2 i3 i16)) (fun r17 i18 => k (Ex.exit (0 : Nat)) (W38 r0 i1 r17 r2 i3 i18)) r0 i1 r2 i3 (fun r4 i5 => ELp10_6 m R n (W38 r0 i1 r4 r2 i3 i5) k) r4 i5
  | _ => none
noncomputable def brLp10_6 (m : Nat) (L : LTbl) (R : Type) (vs : List V) (k : Ex → List V → Option R) : Option R := match vs with
 | [.bor [.str, .str, .int .i64, .int .i64, .int .i64, .int .i64, .int .i64, .bool] r0, .f (.lit (.int .i64 i1)), .own [.mp false, .str, .bool] r4, .undef, .bor [.str, .str, .int .i64, .int .i64, .int .i64, .int .i64, .int .i64, .bool] r2, .f (.lit (.int .i64 i3)), .f (.lit (.int .i64 i5)), .undef] => Lp10_6 m (fun i14 r15 i16 => k Ex.ret (W38 r0 i14 r15 r2 i3 i16)) (fun r17 i18 => k (Ex.exit (0 : Nat)) (W38 r0 i1 r17 r2 i3 i18)) r0 i1 r2 i3 m r4 i5
 | _ => L R 10 6 vs k
set_option maxRecDepth 100000 in
theorem stLp10_6 (m n : Nat) (R : Type) (r0 : Abs.Rows) (i1 : Int) (r4 r2 : Abs.Rows) (i3 i5 : Int) (k : Ex → List V → Option R) : codeK Tryd.prog H (T25 m) 10 (L21 m) 7 (loopBody Tryd.prog 10 6) (mkEnv [0, 2, 3, 9, 10, 11, 12, 80] (W38 r0 i1 r4 r2 i3 i5) 0 (H.len 10)) (fun e env' => match e with | .normal => ELp10_6 m R n (vals [0, 2, 3, 9, 10, 11, 12, 80] env') k | e => k e (vals [0, 2, 3, 9, 10, 11, 12, 80] env')) = Lp10_6_step m (fun i14 r15 i16 => k Ex.ret (W38 r0 i14 r15 r2 i3 i16)) (fun r17 i18 => k (Ex.exit (0 : Nat)) (W38 r0 i1 r17 r2 i3 i18)) r0 i1 r2 i3 (fun r4 i5 => ELp10_6 m R n (W38 r0 i1 r4 r2 i3 i5) k) r4 i5 := by kernel_rfl
theorem eqLp10_6 (m : Nat) (R : Type) (r0 : Abs.Rows) (i1 : Int) (r2 : Abs.Rows) (i3 : Int) (k : Ex → List V → Option R) : ∀ (n : Nat) (r4 : Abs.Rows) (i5 : Int), ELp10_6 m R n (W38 r0 i1 r4 r2 i3 i5) k = Lp10_6 m (fun i14 r15 i16 => k Ex.ret (W38 r0 i14 r15 r2 i3 i16)) (fun r17 i18 => k (Ex.exit (0 : Nat)) (W38 r0 i1 r17 r2 i3 i18)) r0 i1 r2 i3 n r4 i5
 | 0, _, _ => rfl
 | n + 1, r4, i5 => by
  simp only [ELp10_6, Lp10_6, W38]
  congr 1
  funext r4 i5
  exact eqLp10_6 m R r0 i1 r2 i3 k n r4 i5
noncomputable def L22 (m : Nat) : LTbl := addB 10 6 (brLp10_6 m (L21 m)) (L21 m)
theorem okL22 (m : Nat) : LTOk Tryd.prog H (L22 m) := addB_ok (okT25 m) hM (okL21 m) (l := [0, 2, 3, 9, 10, 11, 12, 80]) (by kernel_rfl) (by kernel_rfl) m (fun R n vs k => ELp10_6 m R n vs k) (fun R vs k => rfl) (fun R n vs k x h => by
   simp only [ELp10_6] at h
   split at h
   ·exact (stLp10_6 m n R _ _ _ _ _ _ k).trans h
   ·cases h) fun R vs k x h => by
  unfold brLp10_6 at h
  split at h
  ·exact .inl ((eqLp10_6 m R _ _ _ _ k m _ _).trans h)
  ·exact .inr h

abbrev W39 (a0 : Abs.Rows) : List V := [.bor [.str, .str, .int .i64, .int .i64, .int .i64, .int .i64, .int .i64, .bool] a0]
/-- - -/
noncomputable def Fn10 {R : Type} (m : Nat) : Abs.Rows → (Int → Option R) → Option R := match m with
 | 0 => fun _ _ => none
 | m + 1 => fun r0 k =>
 bif decide ((↑(List.length r0) : Int) > (500 : Int)) then (k ((2 : Int))) else
 (Lp10_6 m (fun i1 r2 i3 => k i1) (fun r4 i5 => k ((0 : Int))) r0 ((0 : Int)) r0 ((↑(List.length r0) : Int)) m rows0 ((0 : Int)))
noncomputable def brFn10 (m : Nat) (T : Tbl) (R : Type) (vs : List V) (k : V → List V → Option R) : Option R := match vs with
 | [.bor [.str, .str, .int .i64, .int .i64, .int .i64, .int .i64, .int .i64, .bool] r0] => Fn10 m r0 (fun i6 => k (V.f (F.lit (Value.int IntKind.i64 i6))) W18)
 | _ => T R 10 vs k
set_option maxRecDepth 100000 in
theorem evFn10 (m : Nat) (R : Type) (r0 : Abs.Rows) (k : V → List V → Option R) : runK Tryd.prog H (T25 m) (L22 m) 10 (W39 r0) k = Fn10 (m + 1) r0 (fun i6 => k (V.f (F.lit (Value.int IntKind.i64 i6))) W18) := by kernel_rfl
noncomputable def T26 (m : Nat) : Tbl := addT 10 (brFn10 m (T25 m)) (T25 m)
theorem okT26 (m : Nat) : TblOk Tryd.prog (T26 m) := addT_ok (okT25 m) fun R vs k x h => by
 unfold brFn10 at h
 split at h
 ·cases m with
  | zero => cases h
  | succ m => exact runK_some (okT25 m) hM (okL22 m) ((evFn10 m R _ k).trans h)
 ·exact okT25 m R 10 _ k x h

abbrev W40 (a0 a1 : ByteArray) (a2 a3 a4 a5 a6 : Int) (a7 : Bool) (a8 : Abs.Rows) : List V := [.agg [.f (.lit (.string a0)), .f (.lit (.string a1)), .f (.lit (.int .i64 a2)), .f (.lit (.int .i64 a3)), .f (.lit (.int .i64 a4)), .f (.lit (.int .i64 a5)), .f (.lit (.int .i64 a6)), .f (.lit (.bool a7))], .iref [.str, .str, .int .i64, .int .i64, .int .i64, .int .i64, .int .i64, .bool] a8 0 0]
/-- - -/
noncomputable def Fn36 {R : Type} (m : Nat) : ByteArray → ByteArray → Int → Int → Int → Int → Int → Bool → ByteArray → ByteArray → Int → Int → Int → Int → Int → Bool → (Bool → Option R) → Option R := match m with
 | 0 => fun _ _ _ _ _ _ _ _ _ _ _ _ _ _ _ _ _ => none
 | m + 1 => fun s0 s1 i2 i3 i4 i5 i6 b7 s8 s9 i10 i11 i12 i13 i14 b15 k =>
 k (ByteArray.toList s0 == ByteArray.toList s8)
noncomputable def brFn36 (m : Nat) (T : Tbl) (R : Type) (vs : List V) (k : V → List V → Option R) : Option R := match vs with
 | [.agg [.f (.lit (.string s0)), .f (.lit (.string s1)), .f (.lit (.int .i64 i2)), .f (.lit (.int .i64 i3)), .f (.lit (.int .i64 i4)), .f (.lit (.int .i64 i5)), .f (.lit (.int .i64 i6)), .f (.lit (.bool b7))], .iref [.str, .str, .int .i64, .int .i64, .int .i64, .int .i64, .int .i64, .bool] [[F.lit (Value.string s8), F.lit (Value.string s9), F.lit (Value.int IntKind.i64 i10), F.lit (Value.int IntKind.i64 i11), F.lit (Value.int IntKind.i64 i12), F.lit (Value.int IntKind.i64 i13), F.lit (Value.int IntKind.i64 i14), F.lit (Value.bool b15)]] 0 0] => Fn36 m s0 s1 i2 i3 i4 i5 i6 b7 s8 s9 i10 i11 i12 i13 i14 b15 (fun b16 => k (V.f (F.lit (Value.bool b16))) W1)
 | _ => T R 36 vs k
set_option maxRecDepth 100000 in
theorem evFn36 (m : Nat) (R : Type) (s0 s1 : ByteArray) (i2 i3 i4 i5 i6 : Int) (b7 : Bool) (s8 s9 : ByteArray) (i10 i11 i12 i13 i14 : Int) (b15 : Bool) (k : V → List V → Option R) : runK Tryd.prog H (T26 m) (L22 m) 36 (W40 s0 s1 i2 i3 i4 i5 i6 b7 [[F.lit (Value.string s8), F.lit (Value.string s9), F.lit (Value.int IntKind.i64 i10), F.lit (Value.int IntKind.i64 i11), F.lit (Value.int IntKind.i64 i12), F.lit (Value.int IntKind.i64 i13), F.lit (Value.int IntKind.i64 i14), F.lit (Value.bool b15)]]) k = Fn36 (m + 1) s0 s1 i2 i3 i4 i5 i6 b7 s8 s9 i10 i11 i12 i13 i14 b15 (fun b16 => k (V.f (F.lit (Value.bool b16))) W1) := by kernel_rfl
noncomputable def T27 (m : Nat) : Tbl := addT 36 (brFn36 m (T26 m)) (T26 m)
theorem okT27 (m : Nat) : TblOk Tryd.prog (T27 m) := addT_ok (okT26 m) fun R vs k x h => by
 unfold brFn36 at h
 split at h
 ·cases m with
  | zero => cases h
  | succ m => exact runK_some (okT26 m) hM (okL22 m) ((evFn36 m R _ _ _ _ _ _ _ _ _ _ _ _ _ _ _ _ k).trans h)
 ·exact okT26 m R 36 _ k x h

abbrev W41 (a0 a1 : Abs.Rows) (a2 a3 a4 : Int) : List V := [.bor [.str, .str, .int .i64, .int .i64, .int .i64, .int .i64, .int .i64, .bool] a0, .clos 36 [.iref [.str, .str, .int .i64, .int .i64, .int .i64, .int .i64, .int .i64, .bool] a1 0 0], .f (.lit (.int .i64 a2)), .f (.lit (.int .i64 a3)), .f (.lit (.int .i64 a4)), .undef, .undef]
/-- - -/
noncomputable def Lp49_2_step {R : Type} (m : Nat) (kx0 : Int → Int → Option R) (kx1 : Int → Option R) (r0 : Abs.Rows) (s1 s2 : ByteArray) (i3 i4 i5 i6 i7 : Int) (b8 : Bool) (i9 i10 : Int) (REC : Int → Option R) (i11 : Int) : Option R :=
 bif decide (i11 < i10) then (bif decide ((0 : Int) ≤ i11 ∧ i11 < (↑(List.length r0) : Int)) then (Fn36 m (fS r0 (Int.toNat i11) (0 : Nat)) (fS r0 (Int.toNat i11) (1 : Nat)) (fI r0 (Int.toNat i11) (2 : Nat)) (fI r0 (Int.toNat i11) (3 : Nat)) (fI r0 (Int.toNat i11) (4 : Nat)) (fI r0 (Int.toNat i11) (5 : Nat)) (fI r0 (Int.toNat i11) (6 : Nat)) (fB r0 (Int.toNat i11) (7 : Nat)) s1 s2 i3 i4 i5 i6 i7 b8 (fun b12 => bif b12 then (kx0 i11 i11) else
 (REC (IntKind.wrap IntKind.i64 (i11 + (1 : Int)))))) else
 (none)) else
 (kx1 i11)
noncomputable def Lp49_2 {R : Type} (m : Nat) (kx0 : Int → Int → Option R) (kx1 : Int → Option R) (r0 : Abs.Rows) (s1 s2 : ByteArray) (i3 i4 i5 i6 i7 : Int) (b8 : Bool) (i9 i10 : Int) : Nat → Int → Option R
 | 0, _ => none
 | n + 1, i11 => Lp49_2_step m kx0 kx1 r0 s1 s2 i3 i4 i5 i6 i7 b8 i9 i10 (Lp49_2 m kx0 kx1 r0 s1 s2 i3 i4 i5 i6 i7 b8 i9 i10 n) i11
noncomputable def ELp49_2 (m : Nat) (R : Type) : Nat → List V → (Ex → List V → Option R) → Option R
 | 0, _, _ => none
 | n + 1, vs, k => match vs with
  | [.bor [.str, .str, .int .i64, .int .i64, .int .i64, .int .i64, .int .i64, .bool] r0, .clos 36 [.iref [.str, .str, .int .i64, .int .i64, .int .i64, .int .i64, .int .i64, .bool] [[F.lit (Value.string s1), F.lit (Value.string s2), F.lit (Value.int IntKind.i64 i3), F.lit (Value.int IntKind.i64 i4), F.lit (Value.int IntKind.i64 i5), F.lit (Value.int IntKind.i64 i6), F.lit (Value.int IntKind.i64 i7), F.lit (Value.bool b8)]] 0 0], .f (.lit (.int .i64 i9)), .f (.lit (.int .i64 i10)), .f (.lit (.int .i64 i11)), .undef, .undef] => Lp49_2_step m (fun i13 i14 => k Ex.ret (W41 r0 [[F.lit (Value.string s1), F.lit (Value.string s2), F.lit (Value.int IntKind.i64 i3), F.lit (Value.int IntKind.i64 i4), F.lit (Value.int IntKind.i64 i5), F.lit (Value.int IntKind.i64 i6), F.lit (Value.int IntKind.i64 i7), F.lit (Value.bool b8)]] i13 i10 i14)) (fun i15 => k (Ex.exit (0 : Nat)) (W41 r0 [[F.lit (Value.string s1), F.lit (Value.string s2), F.lit (Value.int IntKind.i64 i3), F.lit (Value.int IntKind.i64 i4), F.lit (Value.int IntKind.i64 i5), F.lit (Value.int IntKind.i64 i6), F.lit (Value.int IntKind.i64 i7), F.lit (Value.bool b8)]] i9 i10 i15)) r0 s1 s2 i3 i4 i5 i6 i7 b8 i9 i10 (fun i11 => ELp49_2 m R n (W41 r0 [[F.lit (Value.string s1), F.lit (Value.string s2), F.lit (Value.int IntKind.i64 i3), F.lit (Value.int IntKind.i64 i4), F.lit (Value.int IntKind.i64 i5), F.lit (Value.int IntKind.i64 i6), F.lit (Value.int IntKind.i64 i7), F.lit (Value.bool b8)]] i9 i10 i11) k) i11
  | _ => none
noncomputable def brLp49_2 (m : Nat) (L : LTbl) (R : Type) (vs : List V) (k : Ex → List V → Option R) : Option R := match vs with
 | [.bor [.str, .str, .int .i64, .int .i64, .int .i64, .int .i64, .int .i64, .bool] r0, .clos 36 [.iref [.str, .str, .int .i64, .int .i64, .int .i64, .int .i64, .int .i64, .bool] [[F.lit (Value.string s1), F.lit (Value.string s2), F.lit (Value.int IntKind.i64 i3), F.lit (Value.int IntKind.i64 i4), F.lit (Value.int IntKind.i64 i5), F.lit (Value.int IntKind.i64 i6), F.lit (Value.int IntKind.i64 i7), F.lit (Value.bool b8)]] 0 0], .f (.lit (.int .i64 i9)), .f (.lit (.int .i64 i10)), .f (.lit (.int .i64 i11)), .undef, .undef] => Lp49_2 m (fun i13 i14 => k Ex.ret (W41 r0 [[F.lit (Value.string s1), F.lit (Value.string s2), F.lit (Value.int IntKind.i64 i3), F.lit (Value.int IntKind.i64 i4), F.lit (Value.int IntKind.i64 i5), F.lit (Value.int IntKind.i64 i6), F.lit (Value.int IntKind.i64 i7), F.lit (Value.bool b8)]] i13 i10 i14)) (fun i15 => k (Ex.exit (0 : Nat)) (W41 r0 [[F.lit (Value.string s1), F.lit (Value.string s2), F.lit (Value.int IntKind.i64 i3), F.lit (Value.int IntKind.i64 i4), F.lit (Value.int IntKind.i64 i5), F.lit (Value.int IntKind.i64 i6), F.lit (Value.int IntKind.i64 i7), F.lit (Value.bool b8)]] i9 i10 i15)) r0 s1 s2 i3 i4 i5 i6 i7 b8 i9 i10 m i11
 | _ => L R 49 2 vs k
set_option maxRecDepth 100000 in
theorem stLp49_2 (m n : Nat) (R : Type) (r0 : Abs.Rows) (s1 s2 : ByteArray) (i3 i4 i5 i6 i7 : Int) (b8 : Bool) (i9 i10 i11 : Int) (k : Ex → List V → Option R) : codeK Tryd.prog H (T27 m) 49 (L22 m) 3 (loopBody Tryd.prog 49 2) (mkEnv [0, 1, 4, 7, 8, 19, 20] (W41 r0 [[F.lit (Value.string s1), F.lit (Value.string s2), F.lit (Value.int IntKind.i64 i3), F.lit (Value.int IntKind.i64 i4), F.lit (Value.int IntKind.i64 i5), F.lit (Value.int IntKind.i64 i6), F.lit (Value.int IntKind.i64 i7), F.lit (Value.bool b8)]] i9 i10 i11) 0 (H.len 49)) (fun e env' => match e with | .normal => ELp49_2 m R n (vals [0, 1, 4, 7, 8, 19, 20] env') k | e => k e (vals [0, 1, 4, 7, 8, 19, 20] env')) = Lp49_2_step m (fun i13 i14 => k Ex.ret (W41 r0 [[F.lit (Value.string s1), F.lit (Value.string s2), F.lit (Value.int IntKind.i64 i3), F.lit (Value.int IntKind.i64 i4), F.lit (Value.int IntKind.i64 i5), F.lit (Value.int IntKind.i64 i6), F.lit (Value.int IntKind.i64 i7), F.lit (Value.bool b8)]] i13 i10 i14)) (fun i15 => k (Ex.exit (0 : Nat)) (W41 r0 [[F.lit (Value.string s1), F.lit (Value.string s2), F.lit (Value.int IntKind.i64 i3), F.lit (Value.int IntKind.i64 i4), F.lit (Value.int IntKind.i64 i5), F.lit (Value.int IntKind.i64 i6), F.lit (Value.int IntKind.i64 i7), F.lit (Value.bool b8)]] i9 i10 i15)) r0 s1 s2 i3 i4 i5 i6 i7 b8 i9 i10 (fun i11 => ELp49_2 m R n (W41 r0 [[F.lit (Value.string s1), F.lit (Value.string s2), F.lit (Value.int IntKind.i64 i3), F.lit (Value.int IntKind.i64 i4), F.lit (Value.int IntKind.i64 i5), F.lit (Value.int IntKind.i64 i6), F.lit (Value.int IntKind.i64 i7), F.lit (Value.bool b8)]] i9 i10 i11) k) i11 := by kernel_rfl
theorem eqLp49_2 (m : Nat) (R : Type) (r0 : Abs.Rows) (s1 s2 : ByteArray) (i3 i4 i5 i6 i7 : Int) (b8 : Bool) (i9 i10 : Int) (k : Ex → List V → Option R) : ∀ (n : Nat) (i11 : Int), ELp49_2 m R n (W41 r0 [[F.lit (Value.string s1), F.lit (Value.string s2), F.lit (Value.int IntKind.i64 i3), F.lit (Value.int IntKind.i64 i4), F.lit (Value.int IntKind.i64 i5), F.lit (Value.int IntKind.i64 i6), F.lit (Value.int IntKind.i64 i7), F.lit (Value.bool b8)]] i9 i10 i11) k = Lp49_2 m (fun i13 i14 => k Ex.ret (W41 r0 [[F.lit (Value.string s1), F.lit (Value.string s2), F.lit (Value.int IntKind.i64 i3), F.lit (Value.int IntKind.i64 i4), F.lit (Value.int IntKind.i64 i5), F.lit (Value.int IntKind.i64 i6), F.lit (Value.int IntKind.i64 i7), F.lit (Value.bool b8)]] i13 i10 i14)) (fun i15 => k (Ex.exit (0 : Nat)) (W41 r0 [[F.lit (Value.string s1), F.lit (Value.string s2), F.lit (Value.int IntKind.i64 i3), F.lit (Value.int IntKind.i64 i4), F.lit (Value.int IntKind.i64 i5), F.lit (Value.int IntKind.i64 i6), F.lit (Value.int IntKind.i64 i7), F.lit (Value.bool b8)]] i9 i10 i15)) r0 s1 s2 i3 i4 i5 i6 i7 b8 i9 i10 n i11
 | 0, _ => rfl
 | n + 1, i11 => by
  simp only [ELp49_2, Lp49_2, W41]
  congr 1
  funext i11
  exact eqLp49_2 m R r0 s1 s2 i3 i4 i5 i6 i7 b8 i9 i10 k n i11
noncomputable def L23 (m : Nat) : LTbl := addB 49 2 (brLp49_2 m (L22 m)) (L22 m)
theorem okL23 (m : Nat) : LTOk Tryd.prog H (L23 m) := addB_ok (okT27 m) hM (okL22 m) (l := [0, 1, 4, 7, 8, 19, 20]) (by kernel_rfl) (by kernel_rfl) m (fun R n vs k => ELp49_2 m R n vs k) (fun R vs k => rfl) (fun R n vs k x h => by
   simp only [ELp49_2] at h
   split at h
   ·exact (stLp49_2 m n R _ _ _ _ _ _ _ _ _ _ _ _ k).trans h
   ·cases h) fun R vs k x h => by
  unfold brLp49_2 at h
  split at h
  ·exact .inl ((eqLp49_2 m R _ _ _ _ _ _ _ _ _ _ _ k m _).trans h)
  ·exact .inr h

abbrev W42 (a0 a1 : Abs.Rows) : List V := [.bor [.str, .str, .int .i64, .int .i64, .int .i64, .int .i64, .int .i64, .bool] a0, .clos 36 [.iref [.str, .str, .int .i64, .int .i64, .int .i64, .int .i64, .int .i64, .bool] a1 0 0]]
/-- - -/
noncomputable def Fn49 {R : Type} (m : Nat) : Abs.Rows → ByteArray → ByteArray → Int → Int → Int → Int → Int → Bool → (Int → Option R) → Option R := match m with
 | 0 => fun _ _ _ _ _ _ _ _ _ _ => none
 | m + 1 => fun r0 s1 s2 i3 i4 i5 i6 i7 b8 k =>
 Lp49_2 m (fun i9 i10 => k i9) (fun i11 => k ((-1 : Int))) r0 s1 s2 i3 i4 i5 i6 i7 b8 ((0 : Int)) ((↑(List.length r0) : Int)) m ((0 : Int))
noncomputable def brFn49 (m : Nat) (T : Tbl) (R : Type) (vs : List V) (k : V → List V → Option R) : Option R := match vs with
 | [.bor [.str, .str, .int .i64, .int .i64, .int .i64, .int .i64, .int .i64, .bool] r0, .clos 36 [.iref [.str, .str, .int .i64, .int .i64, .int .i64, .int .i64, .int .i64, .bool] [[F.lit (Value.string s1), F.lit (Value.string s2), F.lit (Value.int IntKind.i64 i3), F.lit (Value.int IntKind.i64 i4), F.lit (Value.int IntKind.i64 i5), F.lit (Value.int IntKind.i64 i6), F.lit (Value.int IntKind.i64 i7), F.lit (Value.bool b8)]] 0 0]] => Fn49 m r0 s1 s2 i3 i4 i5 i6 i7 b8 (fun i12 => k (V.f (F.lit (Value.int IntKind.i64 i12))) W1)
 | _ => T R 49 vs k
set_option maxRecDepth 100000 in
theorem evFn49 (m : Nat) (R : Type) (r0 : Abs.Rows) (s1 s2 : ByteArray) (i3 i4 i5 i6 i7 : Int) (b8 : Bool) (k : V → List V → Option R) : runK Tryd.prog H (T27 m) (L23 m) 49 (W42 r0 [[F.lit (Value.string s1), F.lit (Value.string s2), F.lit (Value.int IntKind.i64 i3), F.lit (Value.int IntKind.i64 i4), F.lit (Value.int IntKind.i64 i5), F.lit (Value.int IntKind.i64 i6), F.lit (Value.int IntKind.i64 i7), F.lit (Value.bool b8)]]) k = Fn49 (m + 1) r0 s1 s2 i3 i4 i5 i6 i7 b8 (fun i12 => k (V.f (F.lit (Value.int IntKind.i64 i12))) W1) := by kernel_rfl
noncomputable def T28 (m : Nat) : Tbl := addT 49 (brFn49 m (T27 m)) (T27 m)
theorem okT28 (m : Nat) : TblOk Tryd.prog (T28 m) := addT_ok (okT27 m) fun R vs k x h => by
 unfold brFn49 at h
 split at h
 ·cases m with
  | zero => cases h
  | succ m => exact runK_some (okT27 m) hM (okL23 m) ((evFn49 m R _ _ _ _ _ _ _ _ _ k).trans h)
 ·exact okT27 m R 49 _ k x h

/-- - -/
noncomputable def Fn35 {R : Type} (m : Nat) : Abs.Rows → ByteArray → ByteArray → Int → Int → Int → Int → Int → Bool → (Bool → Option R) → Option R := match m with
 | 0 => fun _ _ _ _ _ _ _ _ _ _ => none
 | m + 1 => fun r0 s1 s2 i3 i4 i5 i6 i7 b8 k =>
 Fn49 m r0 s1 s2 i3 i4 i5 i6 i7 b8 (fun i9 => k (decide (i9 ≥ (0 : Int))))
noncomputable def brFn35 (m : Nat) (T : Tbl) (R : Type) (vs : List V) (k : V → List V → Option R) : Option R := match vs with
 | [.bor [.str, .str, .int .i64, .int .i64, .int .i64, .int .i64, .int .i64, .bool] r0, .clos 36 [.iref [.str, .str, .int .i64, .int .i64, .int .i64, .int .i64, .int .i64, .bool] [[F.lit (Value.string s1), F.lit (Value.string s2), F.lit (Value.int IntKind.i64 i3), F.lit (Value.int IntKind.i64 i4), F.lit (Value.int IntKind.i64 i5), F.lit (Value.int IntKind.i64 i6), F.lit (Value.int IntKind.i64 i7), F.lit (Value.bool b8)]] 0 0]] => Fn35 m r0 s1 s2 i3 i4 i5 i6 i7 b8 (fun b10 => k (V.f (F.lit (Value.bool b10))) W1)
 | _ => T R 35 vs k
set_option maxRecDepth 100000 in
theorem evFn35 (m : Nat) (R : Type) (r0 : Abs.Rows) (s1 s2 : ByteArray) (i3 i4 i5 i6 i7 : Int) (b8 : Bool) (k : V → List V → Option R) : runK Tryd.prog H (T28 m) (L23 m) 35 (W42 r0 [[F.lit (Value.string s1), F.lit (Value.string s2), F.lit (Value.int IntKind.i64 i3), F.lit (Value.int IntKind.i64 i4), F.lit (Value.int IntKind.i64 i5), F.lit (Value.int IntKind.i64 i6), F.lit (Value.int IntKind.i64 i7), F.lit (Value.bool b8)]]) k = Fn35 (m + 1) r0 s1 s2 i3 i4 i5 i6 i7 b8 (fun b10 => k (V.f (F.lit (Value.bool b10))) W1) := by kernel_rfl
noncomputable def T29 (m : Nat) : Tbl := addT 35 (brFn35 m (T28 m)) (T28 m)
theorem okT29 (m : Nat) : TblOk Tryd.prog (T29 m) := addT_ok (okT28 m) fun R vs k x h => by
 unfold brFn35 at h
 split at h
 ·cases m with
  | zero => cases h
  | succ m => exact runK_some (okT28 m) hM (okL23 m) ((evFn35 m R _ _ _ _ _ _ _ _ _ k).trans h)
 ·exact okT28 m R 35 _ k x h

/-- - -/
noncomputable def Fn37 {R : Type} (m : Nat) : Int → (Bool → Option R) → Option R := match m with
 | 0 => fun _ _ => none
 | m + 1 => fun i0 k =>
 Fn31 m i0 ((0 : Int)) ((345686399999 : Int)) (fun b1 => k b1)
noncomputable def brFn37 (m : Nat) (T : Tbl) (R : Type) (vs : List V) (k : V → List V → Option R) : Option R := match vs with
 | [.f (.lit (.int .i64 i0))] => Fn37 m i0 (fun b2 => k (V.f (F.lit (Value.bool b2))) W18)
 | _ => T R 37 vs k
set_option maxRecDepth 100000 in
theorem evFn37 (m : Nat) (R : Type) (i0 : Int) (k : V → List V → Option R) : runK Tryd.prog H (T29 m) (L23 m) 37 (W35 i0) k = Fn37 (m + 1) i0 (fun b2 => k (V.f (F.lit (Value.bool b2))) W18) := by kernel_rfl
noncomputable def T30 (m : Nat) : Tbl := addT 37 (brFn37 m (T29 m)) (T29 m)
theorem okT30 (m : Nat) : TblOk Tryd.prog (T30 m) := addT_ok (okT29 m) fun R vs k x h => by
 unfold brFn37 at h
 split at h
 ·cases m with
  | zero => cases h
  | succ m => exact runK_some (okT29 m) hM (okL23 m) ((evFn37 m R _ k).trans h)
 ·exact okT29 m R 37 _ k x h

abbrev W43 (a0 : Abs.Rows) (a1 a2 : Int) (a3 a4 : ByteArray) (a5 a6 a7 a8 a9 : Int) (a10 : Bool) (a11 : Abs.Rows) (a12 a13 : Int) (a14 : Bool) : List V := [.bor [.str, .str, .int .i64, .int .i64, .int .i64, .int .i64, .int .i64, .bool] a0, .f (.lit (.int .i64 a1)), .f (.lit (.int .i64 a2)), .obj [.f (.lit (.string a3)), .f (.lit (.string a4)), .f (.lit (.int .i64 a5)), .f (.lit (.int .i64 a6)), .f (.lit (.int .i64 a7)), .f (.lit (.int .i64 a8)), .f (.lit (.int .i64 a9)), .f (.lit (.bool a10))], .bor [.str, .str, .int .i64, .int .i64, .int .i64, .int .i64, .int .i64, .bool] a11, .f (.lit (.int .i64 a12)), .f (.lit (.int .i64 a13)), .f (.lit (.bool a14)), .undef]
/-- - -/
noncomputable def Jn11_13 {R : Type} (m : Nat) (kx0 : Int → Bool → Option R) (kx1 : Bool → Option R) (r0 : Abs.Rows) (i1 i2 : Int) (s3 s4 : ByteArray) (i5 i6 i7 i8 i9 : Int) (b10 : Bool) (r11 : Abs.Rows) (i12 i13 : Int) (b14 : Bool) : Option R :=
 bif b14 then (kx0 ((1 : Int)) true) else
 (bif decide (i2 > (0 : Int)) then (bif decide ((0 : Int) ≤ IntKind.wrap IntKind.i64 (i2 - (1 : Int)) ∧ IntKind.wrap IntKind.i64 (i2 - (1 : Int)) < (↑(List.length r0) : Int)) then (bif decide (i5 < fI r0 (Int.toNat (IntKind.wrap IntKind.i64 (i2 - (1 : Int)))) (2 : Nat)) then (kx0 ((7 : Int)) false) else
 (kx1 false)) else
 (none)) else
 (kx1 false))
noncomputable def brJn11_13 (m : Nat) (L : LTbl) (R : Type) (vs : List V) (k : Ex → List V → Option R) : Option R := match vs with
 | [.bor [.str, .str, .int .i64, .int .i64, .int .i64, .int .i64, .int .i64, .bool] r0, .f (.lit (.int .i64 i1)), .f (.lit (.int .i64 i2)), .obj [.f (.lit (.string s3)), .f (.lit (.string s4)), .f (.lit (.int .i64 i5)), .f (.lit (.int .i64 i6)), .f (.lit (.int .i64 i7)), .f (.lit (.int .i64 i8)), .f (.lit (.int .i64 i9)), .f (.lit (.bool b10))], .bor [.str, .str, .int .i64, .int .i64, .int .i64, .int .i64, .int .i64, .bool] r11, .f (.lit (.int .i64 i12)), .f (.lit (.int .i64 i13)), .f (.lit (.bool b14)), .undef] => Jn11_13 m (fun i15 b16 => k Ex.ret (W43 r0 i15 i2 s3 s4 i5 i6 i7 i8 i9 b10 r11 i12 i13 b16)) (fun b17 => k Ex.normal (W43 r0 i1 i2 s3 s4 i5 i6 i7 i8 i9 b10 r11 i12 i13 b17)) r0 i1 i2 s3 s4 i5 i6 i7 i8 i9 b10 r11 i12 i13 b14
 | _ => L R 11 13 vs k
set_option maxRecDepth 100000 in
theorem evJn11_13 (m : Nat) (R : Type) (r0 : Abs.Rows) (i1 i2 : Int) (s3 s4 : ByteArray) (i5 i6 i7 i8 i9 : Int) (b10 : Bool) (r11 : Abs.Rows) (i12 i13 : Int) (b14 : Bool) (k : Ex → List V → Option R) : codeK Tryd.prog H (T30 m) 11 (L23 m) 14 (loopBody Tryd.prog 11 13) (mkEnv [0, 2, 3, 4, 8, 9, 10, 32, 76] (W43 r0 i1 i2 s3 s4 i5 i6 i7 i8 i9 b10 r11 i12 i13 b14) 0 (H.len 11)) (fun e env' => k e (vals [0, 2, 3, 4, 8, 9, 10, 32, 76] env')) = Jn11_13 m (fun i15 b16 => k Ex.ret (W43 r0 i15 i2 s3 s4 i5 i6 i7 i8 i9 b10 r11 i12 i13 b16)) (fun b17 => k Ex.normal (W43 r0 i1 i2 s3 s4 i5 i6 i7 i8 i9 b10 r11 i12 i13 b17)) r0 i1 i2 s3 s4 i5 i6 i7 i8 i9 b10 r11 i12 i13 b14 := by kernel_rfl
noncomputable def L24 (m : Nat) : LTbl := addJ 11 13 (brJn11_13 m (L23 m)) (L23 m)
theorem okL24 (m : Nat) : LTOk Tryd.prog H (L24 m) := addJ_ok (okT30 m) hM (okL23 m) (l := [0, 2, 3, 4, 8, 9, 10, 32, 76]) (by kernel_rfl) (by kernel_rfl) fun R vs k x h => by
  unfold brJn11_13 at h
  split at h
  ·exact .inl ((evJn11_13 m R _ _ _ _ _ _ _ _ _ _ _ _ _ _ _ k).trans h)
  ·exact .inr h

abbrev W44 (a0 : Abs.Rows) (a1 a2 : Int) (a3 a4 : ByteArray) (a5 a6 a7 a8 a9 : Int) (a10 : Bool) (a11 : Abs.Rows) (a12 a13 : Int) : List V := [.bor [.str, .str, .int .i64, .int .i64, .int .i64, .int .i64, .int .i64, .bool] a0, .f (.lit (.int .i64 a1)), .f (.lit (.int .i64 a2)), .obj [.f (.lit (.string a3)), .f (.lit (.string a4)), .f (.lit (.int .i64 a5)), .f (.lit (.int .i64 a6)), .f (.lit (.int .i64 a7)), .f (.lit (.int .i64 a8)), .f (.lit (.int .i64 a9)), .f (.lit (.bool a10))], .bor [.str, .str, .int .i64, .int .i64, .int .i64, .int .i64, .int .i64, .bool] a11, .f (.lit (.int .i64 a12)), .f (.lit (.int .i64 a13)), .undef, .undef]
/-- - -/
noncomputable def Jn11_9 {R : Type} (m : Nat) (kx0 : Int → Bool → Option R) (kx1 : Int → Option R) (kx2 : Option R) (r0 : Abs.Rows) (i1 i2 : Int) (s3 s4 : ByteArray) (i5 i6 i7 i8 i9 : Int) (b10 : Bool) (r11 : Abs.Rows) (i12 i13 : Int) (b14 : Bool) : Option R :=
 bif b14 then (kx0 ((5 : Int)) true) else
 (bif decide ((0 : Int) ≤ i2 ∧ i2 ≤ (↑(List.length r0) : Int)) then (Fn35 m (List.take (Int.toNat i2 - (0 : Nat)) (List.drop (0 : Nat) r0)) s3 s4 i5 i6 i7 i8 i9 b10 (fun b15 => bif b15 then (kx0 ((6 : Int)) false) else
 (Fn37 m i5 (fun b16 => bif !b16 then (Jn11_13 m (fun i17 b18 => kx1 i17) (fun b19 => kx2 ) r0 i1 i2 s3 s4 i5 i6 i7 i8 i9 b10 r11 i12 i13 true) else
 (Fn31 m i6 ((1 : Int)) ((9 : Int)) (fun b20 => bif !b20 then (Jn11_13 m (fun i21 b22 => kx1 i21) (fun b23 => kx2 ) r0 i1 i2 s3 s4 i5 i6 i7 i8 i9 b10 r11 i12 i13 true) else
 (Fn31 m i7 ((0 : Int)) ((9 : Int)) (fun b24 => bif !b24 then (Jn11_13 m (fun i25 b26 => kx1 i25) (fun b27 => kx2 ) r0 i1 i2 s3 s4 i5 i6 i7 i8 i9 b10 r11 i12 i13 true) else
 (Fn31 m i8 ((0 : Int)) ((86400000 : Int)) (fun b28 => bif !b28 then (Jn11_13 m (fun i29 b30 => kx1 i29) (fun b31 => kx2 ) r0 i1 i2 s3 s4 i5 i6 i7 i8 i9 b10 r11 i12 i13 true) else
 (Fn31 m i9 ((1 : Int)) ((86400000 : Int)) (fun b32 => Jn11_13 m (fun i33 b34 => kx1 i33) (fun b35 => kx2 ) r0 i1 i2 s3 s4 i5 i6 i7 i8 i9 b10 r11 i12 i13 (!b32))))))))))))) else
 (none))
noncomputable def brJn11_9 (m : Nat) (L : LTbl) (R : Type) (vs : List V) (k : Ex → List V → Option R) : Option R := match vs with
 | [.bor [.str, .str, .int .i64, .int .i64, .int .i64, .int .i64, .int .i64, .bool] r0, .f (.lit (.int .i64 i1)), .f (.lit (.int .i64 i2)), .obj [.f (.lit (.string s3)), .f (.lit (.string s4)), .f (.lit (.int .i64 i5)), .f (.lit (.int .i64 i6)), .f (.lit (.int .i64 i7)), .f (.lit (.int .i64 i8)), .f (.lit (.int .i64 i9)), .f (.lit (.bool b10))], .bor [.str, .str, .int .i64, .int .i64, .int .i64, .int .i64, .int .i64, .bool] r11, .f (.lit (.int .i64 i12)), .f (.lit (.int .i64 i13)), .f (.lit (.bool b14)), .undef] => Jn11_9 m (fun i36 b37 => k Ex.ret (W43 r0 i36 i2 s3 s4 i5 i6 i7 i8 i9 b10 r11 i12 i13 b37)) (fun i38 => k Ex.ret (W44 r0 i38 i2 s3 s4 i5 i6 i7 i8 i9 b10 r11 i12 i13)) (k Ex.normal (W44 r0 i1 i2 s3 s4 i5 i6 i7 i8 i9 b10 r11 i12 i13)) r0 i1 i2 s3 s4 i5 i6 i7 i8 i9 b10 r11 i12 i13 b14
 | _ => L R 11 9 vs k
set_option maxRecDepth 100000 in
theorem evJn11_9 (m : Nat) (R : Type) (r0 : Abs.Rows) (i1 i2 : Int) (s3 s4 : ByteArray) (i5 i6 i7 i8 i9 : Int) (b10 : Bool) (r11 : Abs.Rows) (i12 i13 : Int) (b14 : Bool) (k : Ex → List V → Option R) : codeK Tryd.prog H (T30 m) 11 (L24 m) 10 (loopBody Tryd.prog 11 9) (mkEnv [0, 2, 3, 4, 8, 9, 10, 15, 76] (W43 r0 i1 i2 s3 s4 i5 i6 i7 i8 i9 b10 r11 i12 i13 b14) 0 (H.len 11)) (fun e env' => k e (vals [0, 2, 3, 4, 8, 9, 10, 15, 76] env')) = Jn11_9 m (fun i36 b37 => k Ex.ret (W43 r0 i36 i2 s3 s4 i5 i6 i7 i8 i9 b10 r11 i12 i13 b37)) (fun i38 => k Ex.ret (W44 r0 i38 i2 s3 s4 i5 i6 i7 i8 i9 b10 r11 i12 i13)) (k Ex.normal (W44 r0 i1 i2 s3 s4 i5 i6 i7 i8 i9 b10 r11 i12 i13)) r0 i1 i2 s3 s4 i5 i6 i7 i8 i9 b10 r11 i12 i13 b14 := by kernel_rfl
noncomputable def L25 (m : Nat) : LTbl := addJ 11 9 (brJn11_9 m (L24 m)) (L24 m)
theorem okL25 (m : Nat) : LTOk Tryd.prog H (L25 m) := addJ_ok (okT30 m) hM (okL24 m) (l := [0, 2, 3, 4, 8, 9, 10, 15, 76]) (by kernel_rfl) (by kernel_rfl) fun R vs k x h => by
  unfold brJn11_9 at h
  split at h
  ·exact .inl ((evJn11_9 m R _ _ _ _ _ _ _ _ _ _ _ _ _ _ _ k).trans h)
  ·exact .inr h

abbrev W45 (a0 : Abs.Rows) (a1 : Int) (a2 : Abs.Rows) (a3 a4 : Int) : List V := [.bor [.str, .str, .int .i64, .int .i64, .int .i64, .int .i64, .int .i64, .bool] a0, .f (.lit (.int .i64 a1)), .bor [.str, .str, .int .i64, .int .i64, .int .i64, .int .i64, .int .i64, .bool] a2, .f (.lit (.int .i64 a3)), .f (.lit (.int .i64 a4)), .undef]
/-- - -/
noncomputable def Lp11_5_step {R : Type} (m : Nat) (kx0 : Int → Int → Option R) (kx1 : Int → Option R) (r0 : Abs.Rows) (i1 : Int) (r2 : Abs.Rows) (i3 : Int) (REC : Int → Option R) (i4 : Int) : Option R :=
 bif decide (i4 < i3) then (bif decide ((0 : Int) ≤ i4 ∧ i4 < (↑(List.length r2) : Int)) then (Fn30 m (fS r2 (Int.toNat i4) (0 : Nat)) (fun b5 => bif !b5 then (Jn11_9 m (fun i6 b7 => kx0 i6 i4) (fun i8 => kx0 i8 i4) (REC (IntKind.wrap IntKind.i64 (i4 + (1 : Int)))) r0 i1 i4 (fS r2 (Int.toNat i4) (0 : Nat)) (fS r2 (Int.toNat i4) (1 : Nat)) (fI r2 (Int.toNat i4) (2 : Nat)) (fI r2 (Int.toNat i4) (3 : Nat)) (fI r2 (Int.toNat i4) (4 : Nat)) (fI r2 (Int.toNat i4) (5 : Nat)) (fI r2 (Int.toNat i4) (6 : Nat)) (fB r2 (Int.toNat i4) (7 : Nat)) r2 i3 i4 true) else
 (Fn30 m (fS r2 (Int.toNat i4) (1 : Nat)) (fun b9 => Jn11_9 m (fun i10 b11 => kx0 i10 i4) (fun i12 => kx0 i12 i4) (REC (IntKind.wrap IntKind.i64 (i4 + (1 : Int)))) r0 i1 i4 (fS r2 (Int.toNat i4) (0 : Nat)) (fS r2 (Int.toNat i4) (1 : Nat)) (fI r2 (Int.toNat i4) (2 : Nat)) (fI r2 (Int.toNat i4) (3 : Nat)) (fI r2 (Int.toNat i4) (4 : Nat)) (fI r2 (Int.toNat i4) (5 : Nat)) (fI r2 (Int.toNat i4) (6 : Nat)) (fB r2 (Int.toNat i4) (7 : Nat)) r2 i3 i4 (!b9))))) else
 (none)) else
 (kx1 i4)
noncomputable def Lp11_5 {R : Type} (m : Nat) (kx0 : Int → Int → Option R) (kx1 : Int → Option R) (r0 : Abs.Rows) (i1 : Int) (r2 : Abs.Rows) (i3 : Int) : Nat → Int → Option R
 | 0, _ => none
 | n + 1, i4 => Lp11_5_step m kx0 kx1 r0 i1 r2 i3 (Lp11_5 m kx0 kx1 r0 i1 r2 i3 n) i4
noncomputable def ELp11_5 (m : Nat) (R : Type) : Nat → List V → (Ex → List V → Option R) → Option R
 | 0, _, _ => none
 | n + 1, vs, k => match vs with
  | [.bor [.str, .str, .int .i64, .int .i64, .int .i64, .int .i64, .int .i64, .bool] r0, .f (.lit (.int .i64 i1)), .bor [.str, .str, .int .i64, .int .i64, .int .i64, .int .i64, .int .i64, .bool] r2, .f (.lit (.int .i64 i3)), .f (.lit (.int .i64 i4)), .undef] => Lp11_5_step m (fun i13 i14 => k Ex.ret (W45 r0 i13 r2 i3 i14)) (fun i15 => k (Ex.exit (0 : Nat)) (W45 r0 i1 r2 i3 i15)) r0 i1 r2 i3 (fun i4 => ELp11_5 m R n (W45 r0 i1 r2 i3 i4) k) i4
  | _ => none
noncomputable def brLp11_5 (m : Nat) (L : LTbl) (R : Type) (vs : List V) (k : Ex → List V → Option R) : Option R := match vs with
 | [.bor [.str, .str, .int .i64, .int .i64, .int .i64, .int .i64, .int .i64, .bool] r0, .f (.lit (.int .i64 i1)), .bor [.str, .str, .int .i64, .int .i64, .int .i64, .int .i64, .int .i64, .bool] r2, .f (.lit (.int .i64 i3)), .f (.lit (.int .i64 i4)), .undef] => Lp11_5 m (fun i13 i14 => k Ex.ret (W45 r0 i13 r2 i3 i14)) (fun i15 => k (Ex.exit (0 : Nat)) (W45 r0 i1 r2 i3 i15)) r0 i1 r2 i3 m i4
 | _ => L R 11 5 vs k
set_option maxRecDepth 100000 in
theorem stLp11_5 (m n : Nat) (R : Type) (r0 : Abs.Rows) (i1 : Int) (r2 : Abs.Rows) (i3 i4 : Int) (k : Ex → List V → Option R) : codeK Tryd.prog H (T30 m) 11 (L25 m) 6 (loopBody Tryd.prog 11 5) (mkEnv [0, 2, 8, 9, 10, 76] (W45 r0 i1 r2 i3 i4) 0 (H.len 11)) (fun e env' => match e with | .normal => ELp11_5 m R n (vals [0, 2, 8, 9, 10, 76] env') k | e => k e (vals [0, 2, 8, 9, 10, 76] env')) = Lp11_5_step m (fun i13 i14 => k Ex.ret (W45 r0 i13 r2 i3 i14)) (fun i15 => k (Ex.exit (0 : Nat)) (W45 r0 i1 r2 i3 i15)) r0 i1 r2 i3 (fun i4 => ELp11_5 m R n (W45 r0 i1 r2 i3 i4) k) i4 := by kernel_rfl
theorem eqLp11_5 (m : Nat) (R : Type) (r0 : Abs.Rows) (i1 : Int) (r2 : Abs.Rows) (i3 : Int) (k : Ex → List V → Option R) : ∀ (n : Nat) (i4 : Int), ELp11_5 m R n (W45 r0 i1 r2 i3 i4) k = Lp11_5 m (fun i13 i14 => k Ex.ret (W45 r0 i13 r2 i3 i14)) (fun i15 => k (Ex.exit (0 : Nat)) (W45 r0 i1 r2 i3 i15)) r0 i1 r2 i3 n i4
 | 0, _ => rfl
 | n + 1, i4 => by
  simp only [ELp11_5, Lp11_5, W45]
  congr 1
  funext i4
  exact eqLp11_5 m R r0 i1 r2 i3 k n i4
noncomputable def L26 (m : Nat) : LTbl := addB 11 5 (brLp11_5 m (L25 m)) (L25 m)
theorem okL26 (m : Nat) : LTOk Tryd.prog H (L26 m) := addB_ok (okT30 m) hM (okL25 m) (l := [0, 2, 8, 9, 10, 76]) (by kernel_rfl) (by kernel_rfl) m (fun R n vs k => ELp11_5 m R n vs k) (fun R vs k => rfl) (fun R n vs k x h => by
   simp only [ELp11_5] at h
   split at h
   ·exact (stLp11_5 m n R _ _ _ _ _ k).trans h
   ·cases h) fun R vs k x h => by
  unfold brLp11_5 at h
  split at h
  ·exact .inl ((eqLp11_5 m R _ _ _ _ k m _).trans h)
  ·exact .inr h

/-- - -/
noncomputable def Fn11 {R : Type} (m : Nat) : Abs.Rows → (Int → Option R) → Option R := match m with
 | 0 => fun _ _ => none
 | m + 1 => fun r0 k =>
 bif decide ((↑(List.length r0) : Int) > (500 : Int)) then (k ((2 : Int))) else
 (Lp11_5 m (fun i1 i2 => k i1) (fun i3 => k ((0 : Int))) r0 ((0 : Int)) r0 ((↑(List.length r0) : Int)) m ((0 : Int)))
noncomputable def brFn11 (m : Nat) (T : Tbl) (R : Type) (vs : List V) (k : V → List V → Option R) : Option R := match vs with
 | [.bor [.str, .str, .int .i64, .int .i64, .int .i64, .int .i64, .int .i64, .bool] r0] => Fn11 m r0 (fun i4 => k (V.f (F.lit (Value.int IntKind.i64 i4))) W18)
 | _ => T R 11 vs k
set_option maxRecDepth 100000 in
theorem evFn11 (m : Nat) (R : Type) (r0 : Abs.Rows) (k : V → List V → Option R) : runK Tryd.prog H (T30 m) (L26 m) 11 (W39 r0) k = Fn11 (m + 1) r0 (fun i4 => k (V.f (F.lit (Value.int IntKind.i64 i4))) W18) := by kernel_rfl
noncomputable def T31 (m : Nat) : Tbl := addT 11 (brFn11 m (T30 m)) (T30 m)
theorem okT31 (m : Nat) : TblOk Tryd.prog (T31 m) := addT_ok (okT30 m) fun R vs k x h => by
 unfold brFn11 at h
 split at h
 ·cases m with
  | zero => cases h
  | succ m => exact runK_some (okT30 m) hM (okL26 m) ((evFn11 m R _ k).trans h)
 ·exact okT30 m R 11 _ k x h

abbrev W46 (a0 a1 a2 : Int) : List V := [.agg [.f (.lit (.int .i64 a0)), .f (.lit (.int .i64 a1)), .f (.lit (.int .i64 a2))]]
/-- - -/
noncomputable def Fn12 {R : Type} (m : Nat) : Int → Int → Int → (Int → Option R) → Option R := match m with
 | 0 => fun _ _ _ _ => none
 | m + 1 => fun i0 i1 i2 k =>
 Fn34 m i0 ((1 : Int)) ((4 : Int)) (fun b3 => bif !b3 then (k ((4 : Int))) else
 (Fn34 m i1 ((0 : Int)) ((86400000 : Int)) (fun b4 => bif !b4 then (k ((1 : Int))) else
 (Fn34 m i2 ((0 : Int)) ((86400000 : Int)) (fun b5 => bif !b5 then (k ((1 : Int))) else
 (k ((0 : Int))))))))
noncomputable def brFn12 (m : Nat) (T : Tbl) (R : Type) (vs : List V) (k : V → List V → Option R) : Option R := match vs with
 | [.agg [.f (.lit (.int .i64 i0)), .f (.lit (.int .i64 i1)), .f (.lit (.int .i64 i2))]] => Fn12 m i0 i1 i2 (fun i6 => k (V.f (F.lit (Value.int IntKind.i64 i6))) W18)
 | _ => T R 12 vs k
set_option maxRecDepth 100000 in
theorem evFn12 (m : Nat) (R : Type) (i0 i1 i2 : Int) (k : V → List V → Option R) : runK Tryd.prog H (T31 m) (L26 m) 12 (W46 i0 i1 i2) k = Fn12 (m + 1) i0 i1 i2 (fun i6 => k (V.f (F.lit (Value.int IntKind.i64 i6))) W18) := by kernel_rfl
noncomputable def T32 (m : Nat) : Tbl := addT 12 (brFn12 m (T31 m)) (T31 m)
theorem okT32 (m : Nat) : TblOk Tryd.prog (T32 m) := addT_ok (okT31 m) fun R vs k x h => by
 unfold brFn12 at h
 split at h
 ·cases m with
  | zero => cases h
  | succ m => exact runK_some (okT31 m) hM (okL26 m) ((evFn12 m R _ _ _ k).trans h)
 ·exact okT31 m R 12 _ k x h

/-- - -/
noncomputable def Fn13 {R : Type} (m : Nat) : Int → Int → Int → (Int → Option R) → Option R := match m with
 | 0 => fun _ _ _ _ => none
 | m + 1 => fun i0 i1 i2 k =>
 Fn31 m i0 ((1 : Int)) ((4 : Int)) (fun b3 => bif !b3 then (k ((4 : Int))) else
 (Fn31 m i1 ((0 : Int)) ((86400000 : Int)) (fun b4 => bif !b4 then (k ((1 : Int))) else
 (Fn31 m i2 ((0 : Int)) ((86400000 : Int)) (fun b5 => bif !b5 then (k ((1 : Int))) else
 (k ((0 : Int))))))))
noncomputable def brFn13 (m : Nat) (T : Tbl) (R : Type) (vs : List V) (k : V → List V → Option R) : Option R := match vs with
 | [.agg [.f (.lit (.int .i64 i0)), .f (.lit (.int .i64 i1)), .f (.lit (.int .i64 i2))]] => Fn13 m i0 i1 i2 (fun i6 => k (V.f (F.lit (Value.int IntKind.i64 i6))) W18)
 | _ => T R 13 vs k
set_option maxRecDepth 100000 in
theorem evFn13 (m : Nat) (R : Type) (i0 i1 i2 : Int) (k : V → List V → Option R) : runK Tryd.prog H (T32 m) (L26 m) 13 (W46 i0 i1 i2) k = Fn13 (m + 1) i0 i1 i2 (fun i6 => k (V.f (F.lit (Value.int IntKind.i64 i6))) W18) := by kernel_rfl
noncomputable def T33 (m : Nat) : Tbl := addT 13 (brFn13 m (T32 m)) (T32 m)
theorem okT33 (m : Nat) : TblOk Tryd.prog (T33 m) := addT_ok (okT32 m) fun R vs k x h => by
 unfold brFn13 at h
 split at h
 ·cases m with
  | zero => cases h
  | succ m => exact runK_some (okT32 m) hM (okL26 m) ((evFn13 m R _ _ _ k).trans h)
 ·exact okT32 m R 13 _ k x h

abbrev W47 (a0 a1 : Int) (a2 : Abs.Rows) : List V := [.agg [.f (.lit (.int .i64 a0)), .f (.lit (.int .i64 a1))], .iref [.int .i64] a2 0 0]
/-- - -/
noncomputable def Fn50 {R : Type} (m : Nat) : Int → Int → Int → (Bool → Option R) → Option R := match m with
 | 0 => fun _ _ _ _ => none
 | m + 1 => fun i0 i1 i2 k =>
 bif decide (i2 ≥ i0) then (k (decide (i2 < i1))) else
 (k false)
noncomputable def brFn50 (m : Nat) (T : Tbl) (R : Type) (vs : List V) (k : V → List V → Option R) : Option R := match vs with
 | [.agg [.f (.lit (.int .i64 i0)), .f (.lit (.int .i64 i1))], .iref [.int .i64] [[F.lit (Value.int IntKind.i64 i2)]] 0 0] => Fn50 m i0 i1 i2 (fun b3 => k (V.f (F.lit (Value.bool b3))) W1)
 | _ => T R 50 vs k
set_option maxRecDepth 100000 in
theorem evFn50 (m : Nat) (R : Type) (i0 i1 i2 : Int) (k : V → List V → Option R) : runK Tryd.prog H (T33 m) (L26 m) 50 (W47 i0 i1 [[F.lit (Value.int IntKind.i64 i2)]]) k = Fn50 (m + 1) i0 i1 i2 (fun b3 => k (V.f (F.lit (Value.bool b3))) W1) := by kernel_rfl
noncomputable def T34 (m : Nat) : Tbl := addT 50 (brFn50 m (T33 m)) (T33 m)
theorem okT34 (m : Nat) : TblOk Tryd.prog (T34 m) := addT_ok (okT33 m) fun R vs k x h => by
 unfold brFn50 at h
 split at h
 ·cases m with
  | zero => cases h
  | succ m => exact runK_some (okT33 m) hM (okL26 m) ((evFn50 m R _ _ _ k).trans h)
 ·exact okT33 m R 50 _ k x h

abbrev W48 (a0 a1 : Abs.Rows) (a2 a3 a4 : Int) : List V := [.f (.lst [.int .i64, .int .i64] a0), .clos 50 [.iref [.int .i64] a1 0 0], .f (.lit (.int .i64 a2)), .f (.lit (.int .i64 a3)), .f (.lit (.int .i64 a4)), .undef, .undef]
/-- - -/
noncomputable def Lp51_2_step {R : Type} (m : Nat) (kx0 : Int → Int → Option R) (kx1 : Int → Option R) (r0 : Abs.Rows) (i1 i2 i3 : Int) (REC : Int → Option R) (i4 : Int) : Option R :=
 bif decide (i4 < i3) then (bif decide ((0 : Int) ≤ i4 ∧ i4 < (↑(List.length r0) : Int)) then (Fn50 m (fI r0 (Int.toNat i4) (0 : Nat)) (fI r0 (Int.toNat i4) (1 : Nat)) i1 (fun b5 => bif b5 then (kx0 i4 i4) else
 (REC (IntKind.wrap IntKind.i64 (i4 + (1 : Int)))))) else
 (none)) else
 (kx1 i4)
noncomputable def Lp51_2 {R : Type} (m : Nat) (kx0 : Int → Int → Option R) (kx1 : Int → Option R) (r0 : Abs.Rows) (i1 i2 i3 : Int) : Nat → Int → Option R
 | 0, _ => none
 | n + 1, i4 => Lp51_2_step m kx0 kx1 r0 i1 i2 i3 (Lp51_2 m kx0 kx1 r0 i1 i2 i3 n) i4
noncomputable def ELp51_2 (m : Nat) (R : Type) : Nat → List V → (Ex → List V → Option R) → Option R
 | 0, _, _ => none
 | n + 1, vs, k => match vs with
  | [.f (.lst [.int .i64, .int .i64] r0), .clos 50 [.iref [.int .i64] [[F.lit (Value.int IntKind.i64 i1)]] 0 0], .f (.lit (.int .i64 i2)), .f (.lit (.int .i64 i3)), .f (.lit (.int .i64 i4)), .undef, .undef] => Lp51_2_step m (fun i6 i7 => k Ex.ret (W48 r0 [[F.lit (Value.int IntKind.i64 i1)]] i6 i3 i7)) (fun i8 => k (Ex.exit (0 : Nat)) (W48 r0 [[F.lit (Value.int IntKind.i64 i1)]] i2 i3 i8)) r0 i1 i2 i3 (fun i4 => ELp51_2 m R n (W48 r0 [[F.lit (Value.int IntKind.i64 i1)]] i2 i3 i4) k) i4
  | _ => none
noncomputable def brLp51_2 (m : Nat) (L : LTbl) (R : Type) (vs : List V) (k : Ex → List V → Option R) : Option R := match vs with
 | [.f (.lst [.int .i64, .int .i64] r0), .clos 50 [.iref [.int .i64] [[F.lit (Value.int IntKind.i64 i1)]] 0 0], .f (.lit (.int .i64 i2)), .f (.lit (.int .i64 i3)), .f (.lit (.int .i64 i4)), .undef, .undef] => Lp51_2 m (fun i6 i7 => k Ex.ret (W48 r0 [[F.lit (Value.int IntKind.i64 i1)]] i6 i3 i7)) (fun i8 => k (Ex.exit (0 : Nat)) (W48 r0 [[F.lit (Value.int IntKind.i64 i1)]] i2 i3 i8)) r0 i1 i2 i3 m i4
 | _ => L R 51 2 vs k
set_option maxRecDepth 100000 in
theorem stLp51_2 (m n : Nat) (R : Type) (r0 : Abs.Rows) (i1 i2 i3 i4 : Int) (k : Ex → List V → Option R) : codeK Tryd.prog H (T34 m) 51 (L26 m) 3 (loopBody Tryd.prog 51 2) (mkEnv [0, 1, 4, 7, 8, 19, 20] (W48 r0 [[F.lit (Value.int IntKind.i64 i1)]] i2 i3 i4) 0 (H.len 51)) (fun e env' => match e with | .normal => ELp51_2 m R n (vals [0, 1, 4, 7, 8, 19, 20] env') k | e => k e (vals [0, 1, 4, 7, 8, 19, 20] env')) = Lp51_2_step m (fun i6 i7 => k Ex.ret (W48 r0 [[F.lit (Value.int IntKind.i64 i1)]] i6 i3 i7)) (fun i8 => k (Ex.exit (0 : Nat)) (W48 r0 [[F.lit (Value.int IntKind.i64 i1)]] i2 i3 i8)) r0 i1 i2 i3 (fun i4 => ELp51_2 m R n (W48 r0 [[F.lit (Value.int IntKind.i64 i1)]] i2 i3 i4) k) i4 := by kernel_rfl
theorem eqLp51_2 (m : Nat) (R : Type) (r0 : Abs.Rows) (i1 i2 i3 : Int) (k : Ex → List V → Option R) : ∀ (n : Nat) (i4 : Int), ELp51_2 m R n (W48 r0 [[F.lit (Value.int IntKind.i64 i1)]] i2 i3 i4) k = Lp51_2 m (fun i6 i7 => k Ex.ret (W48 r0 [[F.lit (Value.int IntKind.i64 i1)]] i6 i3 i7)) (fun i8 => k (Ex.exit (0 : Nat)) (W48 r0 [[F.lit (Value.int IntKind.i64 i1)]] i2 i3 i8)) r0 i1 i2 i3 n i4
 | 0, _ => rfl
 | n + 1, i4 => by
  simp only [ELp51_2, Lp51_2, W48]
  congr 1
  funext i4
  exact eqLp51_2 m R r0 i1 i2 i3 k n i4
noncomputable def L27 (m : Nat) : LTbl := addB 51 2 (brLp51_2 m (L26 m)) (L26 m)
theorem okL27 (m : Nat) : LTOk Tryd.prog H (L27 m) := addB_ok (okT34 m) hM (okL26 m) (l := [0, 1, 4, 7, 8, 19, 20]) (by kernel_rfl) (by kernel_rfl) m (fun R n vs k => ELp51_2 m R n vs k) (fun R vs k => rfl) (fun R n vs k x h => by
   simp only [ELp51_2] at h
   split at h
   ·exact (stLp51_2 m n R _ _ _ _ _ k).trans h
   ·cases h) fun R vs k x h => by
  unfold brLp51_2 at h
  split at h
  ·exact .inl ((eqLp51_2 m R _ _ _ _ k m _).trans h)
  ·exact .inr h

abbrev W49 (a0 a1 : Abs.Rows) : List V := [.f (.lst [.int .i64, .int .i64] a0), .clos 50 [.iref [.int .i64] a1 0 0]]
/-- - -/
noncomputable def Fn51 {R : Type} (m : Nat) : Abs.Rows → Int → (Int → Option R) → Option R := match m with
 | 0 => fun _ _ _ => none
 | m + 1 => fun r0 i1 k =>
 Lp51_2 m (fun i2 i3 => k i2) (fun i4 => k ((-1 : Int))) r0 i1 ((0 : Int)) ((↑(List.length r0) : Int)) m ((0 : Int))
noncomputable def brFn51 (m : Nat) (T : Tbl) (R : Type) (vs : List V) (k : V → List V → Option R) : Option R := match vs with
 | [.f (.lst [.int .i64, .int .i64] r0), .clos 50 [.iref [.int .i64] [[F.lit (Value.int IntKind.i64 i1)]] 0 0]] => Fn51 m r0 i1 (fun i5 => k (V.f (F.lit (Value.int IntKind.i64 i5))) W1)
 | _ => T R 51 vs k
set_option maxRecDepth 100000 in
theorem evFn51 (m : Nat) (R : Type) (r0 : Abs.Rows) (i1 : Int) (k : V → List V → Option R) : runK Tryd.prog H (T34 m) (L27 m) 51 (W49 r0 [[F.lit (Value.int IntKind.i64 i1)]]) k = Fn51 (m + 1) r0 i1 (fun i5 => k (V.f (F.lit (Value.int IntKind.i64 i5))) W1) := by kernel_rfl
noncomputable def T35 (m : Nat) : Tbl := addT 51 (brFn51 m (T34 m)) (T34 m)
theorem okT35 (m : Nat) : TblOk Tryd.prog (T35 m) := addT_ok (okT34 m) fun R vs k x h => by
 unfold brFn51 at h
 split at h
 ·cases m with
  | zero => cases h
  | succ m => exact runK_some (okT34 m) hM (okL27 m) ((evFn51 m R _ _ k).trans h)
 ·exact okT34 m R 51 _ k x h

/-- - -/
noncomputable def Fn41 {R : Type} (m : Nat) : Abs.Rows → Int → (Bool → Option R) → Option R := match m with
 | 0 => fun _ _ _ => none
 | m + 1 => fun r0 i1 k =>
 Fn51 m r0 i1 (fun i2 => k (decide (i2 ≥ (0 : Int))))
noncomputable def brFn41 (m : Nat) (T : Tbl) (R : Type) (vs : List V) (k : V → List V → Option R) : Option R := match vs with
 | [.f (.lst [.int .i64, .int .i64] r0), .clos 50 [.iref [.int .i64] [[F.lit (Value.int IntKind.i64 i1)]] 0 0]] => Fn41 m r0 i1 (fun b3 => k (V.f (F.lit (Value.bool b3))) W1)
 | _ => T R 41 vs k
set_option maxRecDepth 100000 in
theorem evFn41 (m : Nat) (R : Type) (r0 : Abs.Rows) (i1 : Int) (k : V → List V → Option R) : runK Tryd.prog H (T35 m) (L27 m) 41 (W49 r0 [[F.lit (Value.int IntKind.i64 i1)]]) k = Fn41 (m + 1) r0 i1 (fun b3 => k (V.f (F.lit (Value.bool b3))) W1) := by kernel_rfl
noncomputable def T36 (m : Nat) : Tbl := addT 41 (brFn41 m (T35 m)) (T35 m)
theorem okT36 (m : Nat) : TblOk Tryd.prog (T36 m) := addT_ok (okT35 m) fun R vs k x h => by
 unfold brFn41 at h
 split at h
 ·cases m with
  | zero => cases h
  | succ m => exact runK_some (okT35 m) hM (okL27 m) ((evFn41 m R _ _ k).trans h)
 ·exact okT35 m R 41 _ k x h

abbrev W50 (a0 : ByteArray) (a1 : Abs.Rows) (a2 a3 : Int) (a4 : Abs.Rows) (a5 a6 : Int) : List V := [.agg [.f (.lit (.string a0)), .f (.lst [.str, .int .i64] a1), .f (.lit (.int .i64 a2)), .f (.lit (.int .i64 a3)), .f (.lst [.int .i64, .int .i64] a4), .f (.lit (.int .i64 a5))], .f (.lit (.int .i64 a6))]
/-- - -/
noncomputable def Fn38 {R : Type} (m : Nat) : ByteArray → Abs.Rows → Int → Int → Abs.Rows → Int → Int → (Bool → Option R) → Option R := match m with
 | 0 => fun _ _ _ _ _ _ _ _ => none
 | m + 1 => fun s0 r1 i2 i3 r4 i5 i6 k =>
 Fn50 m i2 i3 i6 (fun b7 => bif b7 then (Fn41 m r4 i6 (fun b8 => k (!b8))) else
 (k false))
noncomputable def brFn38 (m : Nat) (T : Tbl) (R : Type) (vs : List V) (k : V → List V → Option R) : Option R := match vs with
 | [.agg [.f (.lit (.string s0)), .f (.lst [.str, .int .i64] r1), .f (.lit (.int .i64 i2)), .f (.lit (.int .i64 i3)), .f (.lst [.int .i64, .int .i64] r4), .f (.lit (.int .i64 i5))], .f (.lit (.int .i64 i6))] => Fn38 m s0 r1 i2 i3 r4 i5 i6 (fun b9 => k (V.f (F.lit (Value.bool b9))) W1)
 | _ => T R 38 vs k
set_option maxRecDepth 100000 in
theorem evFn38 (m : Nat) (R : Type) (s0 : ByteArray) (r1 : Abs.Rows) (i2 i3 : Int) (r4 : Abs.Rows) (i5 i6 : Int) (k : V → List V → Option R) : runK Tryd.prog H (T36 m) (L27 m) 38 (W50 s0 r1 i2 i3 r4 i5 i6) k = Fn38 (m + 1) s0 r1 i2 i3 r4 i5 i6 (fun b9 => k (V.f (F.lit (Value.bool b9))) W1) := by kernel_rfl
noncomputable def T37 (m : Nat) : Tbl := addT 38 (brFn38 m (T36 m)) (T36 m)
theorem okT37 (m : Nat) : TblOk Tryd.prog (T37 m) := addT_ok (okT36 m) fun R vs k x h => by
 unfold brFn38 at h
 split at h
 ·cases m with
  | zero => cases h
  | succ m => exact runK_some (okT36 m) hM (okL27 m) ((evFn38 m R _ _ _ _ _ _ _ k).trans h)
 ·exact okT36 m R 38 _ k x h

abbrev W51 (a0 : Bool) (a1 : Int) : List V := [.f (.lit (.bool a0)), .f (.lit (.int .i64 a1))]
/-- - -/
noncomputable def Fn14 {R : Type} (m : Nat) : ByteArray → Abs.Rows → Int → Int → Abs.Rows → Int → Int → (Bool → Int → Option R) → Option R := match m with
 | 0 => fun _ _ _ _ _ _ _ _ => none
 | m + 1 => fun s0 r1 i2 i3 r4 i5 i6 k =>
 Fn8 m ([[F.lit (Value.string s0), F.lst [LT.str, LT.int IntKind.i64] r1, F.lit (Value.int IntKind.i64 i2), F.lit (Value.int IntKind.i64 i3), F.lst [LT.int IntKind.i64, LT.int IntKind.i64] r4, F.lit (Value.int IntKind.i64 i5)]]) (fun i7 => bif i7 != (0 : Int) then (k false i7) else
 (Fn33 m i6 (fun b8 => bif !b8 then (k false ((1 : Int))) else
 (Fn38 m s0 r1 i2 i3 r4 i5 i6 (fun b9 => k b9 ((0 : Int)))))))
noncomputable def brFn14 (m : Nat) (T : Tbl) (R : Type) (vs : List V) (k : V → List V → Option R) : Option R := match vs with
 | [.agg [.f (.lit (.string s0)), .f (.lst [.str, .int .i64] r1), .f (.lit (.int .i64 i2)), .f (.lit (.int .i64 i3)), .f (.lst [.int .i64, .int .i64] r4), .f (.lit (.int .i64 i5))], .f (.lit (.int .i64 i6))] => Fn14 m s0 r1 i2 i3 r4 i5 i6 (fun b10 i11 => k (V.tup (W51 b10 i11)) W1)
 | _ => T R 14 vs k
set_option maxRecDepth 100000 in
theorem evFn14 (m : Nat) (R : Type) (s0 : ByteArray) (r1 : Abs.Rows) (i2 i3 : Int) (r4 : Abs.Rows) (i5 i6 : Int) (k : V → List V → Option R) : runK Tryd.prog H (T37 m) (L27 m) 14 (W50 s0 r1 i2 i3 r4 i5 i6) k = Fn14 (m + 1) s0 r1 i2 i3 r4 i5 i6 (fun b10 i11 => k (V.tup (W51 b10 i11)) W1) := by kernel_rfl
noncomputable def T38 (m : Nat) : Tbl := addT 14 (brFn14 m (T37 m)) (T37 m)
theorem okT38 (m : Nat) : TblOk Tryd.prog (T38 m) := addT_ok (okT37 m) fun R vs k x h => by
 unfold brFn14 at h
 split at h
 ·cases m with
  | zero => cases h
  | succ m => exact runK_some (okT37 m) hM (okL27 m) ((evFn14 m R _ _ _ _ _ _ _ k).trans h)
 ·exact okT37 m R 14 _ k x h

/-- - -/
noncomputable def Fn39 {R : Type} (m : Nat) : Bool → Int → (Int → Option R) → Option R := match m with
 | 0 => fun _ _ _ => none
 | m + 1 => fun b0 i1 k =>
 bif b0 then (k i1) else
 (k ((0 : Int)))
noncomputable def brFn39 (m : Nat) (T : Tbl) (R : Type) (vs : List V) (k : V → List V → Option R) : Option R := match vs with
 | [.f (.lit (.bool b0)), .f (.lit (.int .i64 i1))] => Fn39 m b0 i1 (fun i2 => k (V.f (F.lit (Value.int IntKind.i64 i2))) W1)
 | _ => T R 39 vs k
set_option maxRecDepth 100000 in
theorem evFn39 (m : Nat) (R : Type) (b0 : Bool) (i1 : Int) (k : V → List V → Option R) : runK Tryd.prog H (T38 m) (L27 m) 39 (W51 b0 i1) k = Fn39 (m + 1) b0 i1 (fun i2 => k (V.f (F.lit (Value.int IntKind.i64 i2))) W1) := by kernel_rfl
noncomputable def T39 (m : Nat) : Tbl := addT 39 (brFn39 m (T38 m)) (T38 m)
theorem okT39 (m : Nat) : TblOk Tryd.prog (T39 m) := addT_ok (okT38 m) fun R vs k x h => by
 unfold brFn39 at h
 split at h
 ·cases m with
  | zero => cases h
  | succ m => exact runK_some (okT38 m) hM (okL27 m) ((evFn39 m R _ _ k).trans h)
 ·exact okT38 m R 39 _ k x h

/-- - -/
noncomputable def Fn16 {R : Type} (m : Nat) : Int → (Int → Option R) → Option R := match m with
 | 0 => fun _ _ => none
 | m + 1 => fun i0 k =>
 Fn37 m i0 (fun b1 => Fn39 m (!b1) ((1 : Int)) (fun i2 => k i2))
noncomputable def brFn16 (m : Nat) (T : Tbl) (R : Type) (vs : List V) (k : V → List V → Option R) : Option R := match vs with
 | [.f (.lit (.int .i64 i0))] => Fn16 m i0 (fun i3 => k (V.f (F.lit (Value.int IntKind.i64 i3))) W18)
 | _ => T R 16 vs k
set_option maxRecDepth 100000 in
theorem evFn16 (m : Nat) (R : Type) (i0 : Int) (k : V → List V → Option R) : runK Tryd.prog H (T39 m) (L27 m) 16 (W35 i0) k = Fn16 (m + 1) i0 (fun i3 => k (V.f (F.lit (Value.int IntKind.i64 i3))) W18) := by kernel_rfl
noncomputable def T40 (m : Nat) : Tbl := addT 16 (brFn16 m (T39 m)) (T39 m)
theorem okT40 (m : Nat) : TblOk Tryd.prog (T40 m) := addT_ok (okT39 m) fun R vs k x h => by
 unfold brFn16 at h
 split at h
 ·cases m with
  | zero => cases h
  | succ m => exact runK_some (okT39 m) hM (okL27 m) ((evFn16 m R _ k).trans h)
 ·exact okT39 m R 16 _ k x h

abbrev W52 (a0 : Abs.Rows) (a1 : Int) (a2 : Abs.Rows) (a3 a4 : Int) : List V := [.bor [.int .i64] a0, .f (.lit (.int .i64 a1)), .bor [.int .i64] a2, .f (.lit (.int .i64 a3)), .f (.lit (.int .i64 a4)), .undef]
/-- - -/
noncomputable def Lp15_2_step {R : Type} (m : Nat) (kx0 : Int → Int → Option R) (kx1 : Int → Option R) (r0 : Abs.Rows) (i1 : Int) (r2 : Abs.Rows) (i3 : Int) (REC : Int → Option R) (i4 : Int) : Option R :=
 bif decide (i4 < i3) then (bif decide ((0 : Int) ≤ i4 ∧ i4 < (↑(List.length r2) : Int)) then (bif fI r2 (Int.toNat i4) (0 : Nat) != (0 : Int) then (kx0 (fI r2 (Int.toNat i4) (0 : Nat)) i4) else
 (REC (IntKind.wrap IntKind.i64 (i4 + (1 : Int))))) else
 (none)) else
 (kx1 i4)
noncomputable def Lp15_2 {R : Type} (m : Nat) (kx0 : Int → Int → Option R) (kx1 : Int → Option R) (r0 : Abs.Rows) (i1 : Int) (r2 : Abs.Rows) (i3 : Int) : Nat → Int → Option R
 | 0, _ => none
 | n + 1, i4 => Lp15_2_step m kx0 kx1 r0 i1 r2 i3 (Lp15_2 m kx0 kx1 r0 i1 r2 i3 n) i4
noncomputable def ELp15_2 (m : Nat) (R : Type) : Nat → List V → (Ex → List V → Option R) → Option R
 | 0, _, _ => none
 | n + 1, vs, k => match vs with
  | [.bor [.int .i64] r0, .f (.lit (.int .i64 i1)), .bor [.int .i64] r2, .f (.lit (.int .i64 i3)), .f (.lit (.int .i64 i4)), .undef] => Lp15_2_step m (fun i5 i6 => k Ex.ret (W52 r0 i5 r2 i3 i6)) (fun i7 => k (Ex.exit (0 : Nat)) (W52 r0 i1 r2 i3 i7)) r0 i1 r2 i3 (fun i4 => ELp15_2 m R n (W52 r0 i1 r2 i3 i4) k) i4
  | _ => none
noncomputable def brLp15_2 (m : Nat) (L : LTbl) (R : Type) (vs : List V) (k : Ex → List V → Option R) : Option R := match vs with
 | [.bor [.int .i64] r0, .f (.lit (.int .i64 i1)), .bor [.int .i64] r2, .f (.lit (.int .i64 i3)), .f (.lit (.int .i64 i4)), .undef] => Lp15_2 m (fun i5 i6 => k Ex.ret (W52 r0 i5 r2 i3 i6)) (fun i7 => k (Ex.exit (0 : Nat)) (W52 r0 i1 r2 i3 i7)) r0 i1 r2 i3 m i4
 | _ => L R 15 2 vs k
set_option maxRecDepth 100000 in
theorem stLp15_2 (m n : Nat) (R : Type) (r0 : Abs.Rows) (i1 : Int) (r2 : Abs.Rows) (i3 i4 : Int) (k : Ex → List V → Option R) : codeK Tryd.prog H (T40 m) 15 (L27 m) 3 (loopBody Tryd.prog 15 2) (mkEnv [0, 2, 5, 6, 7, 15] (W52 r0 i1 r2 i3 i4) 0 (H.len 15)) (fun e env' => match e with | .normal => ELp15_2 m R n (vals [0, 2, 5, 6, 7, 15] env') k | e => k e (vals [0, 2, 5, 6, 7, 15] env')) = Lp15_2_step m (fun i5 i6 => k Ex.ret (W52 r0 i5 r2 i3 i6)) (fun i7 => k (Ex.exit (0 : Nat)) (W52 r0 i1 r2 i3 i7)) r0 i1 r2 i3 (fun i4 => ELp15_2 m R n (W52 r0 i1 r2 i3 i4) k) i4 := by kernel_rfl
theorem eqLp15_2 (m : Nat) (R : Type) (r0 : Abs.Rows) (i1 : Int) (r2 : Abs.Rows) (i3 : Int) (k : Ex → List V → Option R) : ∀ (n : Nat) (i4 : Int), ELp15_2 m R n (W52 r0 i1 r2 i3 i4) k = Lp15_2 m (fun i5 i6 => k Ex.ret (W52 r0 i5 r2 i3 i6)) (fun i7 => k (Ex.exit (0 : Nat)) (W52 r0 i1 r2 i3 i7)) r0 i1 r2 i3 n i4
 | 0, _ => rfl
 | n + 1, i4 => by
  simp only [ELp15_2, Lp15_2, W52]
  congr 1
  funext i4
  exact eqLp15_2 m R r0 i1 r2 i3 k n i4
noncomputable def L28 (m : Nat) : LTbl := addB 15 2 (brLp15_2 m (L27 m)) (L27 m)
theorem okL28 (m : Nat) : LTOk Tryd.prog H (L28 m) := addB_ok (okT40 m) hM (okL27 m) (l := [0, 2, 5, 6, 7, 15]) (by kernel_rfl) (by kernel_rfl) m (fun R n vs k => ELp15_2 m R n vs k) (fun R vs k => rfl) (fun R n vs k x h => by
   simp only [ELp15_2] at h
   split at h
   ·exact (stLp15_2 m n R _ _ _ _ _ k).trans h
   ·cases h) fun R vs k x h => by
  unfold brLp15_2 at h
  split at h
  ·exact .inl ((eqLp15_2 m R _ _ _ _ k m _).trans h)
  ·exact .inr h

abbrev W53 (a0 : Abs.Rows) : List V := [.bor [.int .i64] a0]
/-- - -/
noncomputable def Fn15 {R : Type} (m : Nat) : Abs.Rows → (Int → Option R) → Option R := match m with
 | 0 => fun _ _ => none
 | m + 1 => fun r0 k =>
 Lp15_2 m (fun i1 i2 => k i1) (fun i3 => k ((0 : Int))) r0 ((0 : Int)) r0 ((↑(List.length r0) : Int)) m ((0 : Int))
noncomputable def brFn15 (m : Nat) (T : Tbl) (R : Type) (vs : List V) (k : V → List V → Option R) : Option R := match vs with
 | [.bor [.int .i64] r0] => Fn15 m r0 (fun i4 => k (V.f (F.lit (Value.int IntKind.i64 i4))) W18)
 | _ => T R 15 vs k
set_option maxRecDepth 100000 in
theorem evFn15 (m : Nat) (R : Type) (r0 : Abs.Rows) (k : V → List V → Option R) : runK Tryd.prog H (T40 m) (L28 m) 15 (W53 r0) k = Fn15 (m + 1) r0 (fun i4 => k (V.f (F.lit (Value.int IntKind.i64 i4))) W18) := by kernel_rfl
noncomputable def T41 (m : Nat) : Tbl := addT 15 (brFn15 m (T40 m)) (T40 m)
theorem okT41 (m : Nat) : TblOk Tryd.prog (T41 m) := addT_ok (okT40 m) fun R vs k x h => by
 unfold brFn15 at h
 split at h
 ·cases m with
  | zero => cases h
  | succ m => exact runK_some (okT40 m) hM (okL28 m) ((evFn15 m R _ k).trans h)
 ·exact okT40 m R 15 _ k x h

abbrev W54 (a0 a1 a2 : Int) : List V := [.f (.lit (.int .i64 a0)), .agg [.f (.lit (.int .i64 a1)), .f (.lit (.int .i64 a2))]]
/-- - -/
noncomputable def Fn40 {R : Type} (m : Nat) : Int → Int → Int → (Bool → Option R) → Option R := match m with
 | 0 => fun _ _ _ _ => none
 | m + 1 => fun i0 i1 i2 k =>
 bif decide (i1 ≤ i0) then (k (decide (i0 < i2))) else
 (k false)
noncomputable def brFn40 (m : Nat) (T : Tbl) (R : Type) (vs : List V) (k : V → List V → Option R) : Option R := match vs with
 | [.f (.lit (.int .i64 i0)), .agg [.f (.lit (.int .i64 i1)), .f (.lit (.int .i64 i2))]] => Fn40 m i0 i1 i2 (fun b3 => k (V.f (F.lit (Value.bool b3))) W1)
 | _ => T R 40 vs k
set_option maxRecDepth 100000 in
theorem evFn40 (m : Nat) (R : Type) (i0 i1 i2 : Int) (k : V → List V → Option R) : runK Tryd.prog H (T41 m) (L28 m) 40 (W54 i0 i1 i2) k = Fn40 (m + 1) i0 i1 i2 (fun b3 => k (V.f (F.lit (Value.bool b3))) W1) := by kernel_rfl
noncomputable def T42 (m : Nat) : Tbl := addT 40 (brFn40 m (T41 m)) (T41 m)
theorem okT42 (m : Nat) : TblOk Tryd.prog (T42 m) := addT_ok (okT41 m) fun R vs k x h => by
 unfold brFn40 at h
 split at h
 ·cases m with
  | zero => cases h
  | succ m => exact runK_some (okT41 m) hM (okL28 m) ((evFn40 m R _ _ _ k).trans h)
 ·exact okT41 m R 40 _ k x h

/-- - -/
noncomputable def Fn42 {R : Type} (m : Nat) : Int → Int → Int → (Bool → Option R) → Option R := match m with
 | 0 => fun _ _ _ _ => none
 | m + 1 => fun i0 i1 i2 k =>
 Fn40 m i2 i0 i1 (fun b3 => k b3)
noncomputable def brFn42 (m : Nat) (T : Tbl) (R : Type) (vs : List V) (k : V → List V → Option R) : Option R := match vs with
 | [.agg [.f (.lit (.int .i64 i0)), .f (.lit (.int .i64 i1))], .iref [.int .i64] [[F.lit (Value.int IntKind.i64 i2)]] 0 0] => Fn42 m i0 i1 i2 (fun b4 => k (V.f (F.lit (Value.bool b4))) W1)
 | _ => T R 42 vs k
set_option maxRecDepth 100000 in
theorem evFn42 (m : Nat) (R : Type) (i0 i1 i2 : Int) (k : V → List V → Option R) : runK Tryd.prog H (T42 m) (L28 m) 42 (W47 i0 i1 [[F.lit (Value.int IntKind.i64 i2)]]) k = Fn42 (m + 1) i0 i1 i2 (fun b4 => k (V.f (F.lit (Value.bool b4))) W1) := by kernel_rfl
noncomputable def T43 (m : Nat) : Tbl := addT 42 (brFn42 m (T42 m)) (T42 m)
theorem okT43 (m : Nat) : TblOk Tryd.prog (T43 m) := addT_ok (okT42 m) fun R vs k x h => by
 unfold brFn42 at h
 split at h
 ·cases m with
  | zero => cases h
  | succ m => exact runK_some (okT42 m) hM (okL28 m) ((evFn42 m R _ _ _ k).trans h)
 ·exact okT42 m R 42 _ k x h

abbrev W55 (a0 a1 : Abs.Rows) (a2 a3 a4 : Int) : List V := [.f (.lst [.int .i64, .int .i64] a0), .clos 42 [.iref [.int .i64] a1 0 0], .f (.lit (.int .i64 a2)), .f (.lit (.int .i64 a3)), .f (.lit (.int .i64 a4)), .undef, .undef]
/-- - -/
noncomputable def Lp51_2v1_step {R : Type} (m : Nat) (kx0 : Int → Int → Option R) (kx1 : Int → Option R) (r0 : Abs.Rows) (i1 i2 i3 : Int) (REC : Int → Option R) (i4 : Int) : Option R :=
 bif decide (i4 < i3) then (bif decide ((0 : Int) ≤ i4 ∧ i4 < (↑(List.length r0) : Int)) then (Fn42 m (fI r0 (Int.toNat i4) (0 : Nat)) (fI r0 (Int.toNat i4) (1 : Nat)) i1 (fun b5 => bif b5 then (kx0 i4 i4) else
 (REC (IntKind.wrap IntKind.i64 (i4 + (1 : Int)))))) else
 (none)) else
 (kx1 i4)
noncomputable def Lp51_2v1 {R : Type} (m : Nat) (kx0 : Int → Int → Option R) (kx1 : Int → Option R) (r0 : Abs.Rows) (i1 i2 i3 : Int) : Nat → Int → Option R
 | 0, _ => none
 | n + 1, i4 => Lp51_2v1_step m kx0 kx1 r0 i1 i2 i3 (Lp51_2v1 m kx0 kx1 r0 i1 i2 i3 n) i4
noncomputable def ELp51_2v1 (m : Nat) (R : Type) : Nat → List V → (Ex → List V → Option R) → Option R
 | 0, _, _ => none
 | n + 1, vs, k => match vs with
  | [.f (.lst [.int .i64, .int .i64] r0), .clos 42 [.iref [.int .i64] [[F.lit (Value.int IntKind.i64 i1)]] 0 0], .f (.lit (.int .i64 i2)), .f (.lit (.int .i64 i3)), .f (.lit (.int .i64 i4)), .undef, .undef] => Lp51_2v1_step m (fun i6 i7 => k Ex.ret (W55 r0 [[F.lit (Value.int IntKind.i64 i1)]] i6 i3 i7)) (fun i8 => k (Ex.exit (0 : Nat)) (W55 r0 [[F.lit (Value.int IntKind.i64 i1)]] i2 i3 i8)) r0 i1 i2 i3 (fun i4 => ELp51_2v1 m R n (W55 r0 [[F.lit (Value.int IntKind.i64 i1)]] i2 i3 i4) k) i4
  | _ => none
noncomputable def brLp51_2v1 (m : Nat) (L : LTbl) (R : Type) (vs : List V) (k : Ex → List V → Option R) : Option R := match vs with
 | [.f (.lst [.int .i64, .int .i64] r0), .clos 42 [.iref [.int .i64] [[F.lit (Value.int IntKind.i64 i1)]] 0 0], .f (.lit (.int .i64 i2)), .f (.lit (.int .i64 i3)), .f (.lit (.int .i64 i4)), .undef, .undef] => Lp51_2v1 m (fun i6 i7 => k Ex.ret (W55 r0 [[F.lit (Value.int IntKind.i64 i1)]] i6 i3 i7)) (fun i8 => k (Ex.exit (0 : Nat)) (W55 r0 [[F.lit (Value.int IntKind.i64 i1)]] i2 i3 i8)) r0 i1 i2 i3 m i4
 | _ => L R 51 2 vs k
set_option maxRecDepth 100000 in
theorem stLp51_2v1 (m n : Nat) (R : Type) (r0 : Abs.Rows) (i1 i2 i3 i4 : Int) (k : Ex → List V → Option R) : codeK Tryd.prog H (T43 m) 51 (L28 m) 3 (loopBody Tryd.prog 51 2) (mkEnv [0, 1, 4, 7, 8, 19, 20] (W55 r0 [[F.lit (Value.int IntKind.i64 i1)]] i2 i3 i4) 0 (H.len 51)) (fun e env' => match e with | .normal => ELp51_2v1 m R n (vals [0, 1, 4, 7, 8, 19, 20] env') k | e => k e (vals [0, 1, 4, 7, 8, 19, 20] env')) = Lp51_2v1_step m (fun i6 i7 => k Ex.ret (W55 r0 [[F.lit (Value.int IntKind.i64 i1)]] i6 i3 i7)) (fun i8 => k (Ex.exit (0 : Nat)) (W55 r0 [[F.lit (Value.int IntKind.i64 i1)]] i2 i3 i8)) r0 i1 i2 i3 (fun i4 => ELp51_2v1 m R n (W55 r0 [[F.lit (Value.int IntKind.i64 i1)]] i2 i3 i4) k) i4 := by kernel_rfl
theorem eqLp51_2v1 (m : Nat) (R : Type) (r0 : Abs.Rows) (i1 i2 i3 : Int) (k : Ex → List V → Option R) : ∀ (n : Nat) (i4 : Int), ELp51_2v1 m R n (W55 r0 [[F.lit (Value.int IntKind.i64 i1)]] i2 i3 i4) k = Lp51_2v1 m (fun i6 i7 => k Ex.ret (W55 r0 [[F.lit (Value.int IntKind.i64 i1)]] i6 i3 i7)) (fun i8 => k (Ex.exit (0 : Nat)) (W55 r0 [[F.lit (Value.int IntKind.i64 i1)]] i2 i3 i8)) r0 i1 i2 i3 n i4
 | 0, _ => rfl
 | n + 1, i4 => by
  simp only [ELp51_2v1, Lp51_2v1, W55]
  congr 1
  funext i4
  exact eqLp51_2v1 m R r0 i1 i2 i3 k n i4
noncomputable def L29 (m : Nat) : LTbl := addB 51 2 (brLp51_2v1 m (L28 m)) (L28 m)
theorem okL29 (m : Nat) : LTOk Tryd.prog H (L29 m) := addB_ok (okT43 m) hM (okL28 m) (l := [0, 1, 4, 7, 8, 19, 20]) (by kernel_rfl) (by kernel_rfl) m (fun R n vs k => ELp51_2v1 m R n vs k) (fun R vs k => rfl) (fun R n vs k x h => by
   simp only [ELp51_2v1] at h
   split at h
   ·exact (stLp51_2v1 m n R _ _ _ _ _ k).trans h
   ·cases h) fun R vs k x h => by
  unfold brLp51_2v1 at h
  split at h
  ·exact .inl ((eqLp51_2v1 m R _ _ _ _ k m _).trans h)
  ·exact .inr h

abbrev W56 (a0 a1 : Abs.Rows) : List V := [.f (.lst [.int .i64, .int .i64] a0), .clos 42 [.iref [.int .i64] a1 0 0]]
/-- - -/
noncomputable def Fn51v1 {R : Type} (m : Nat) : Abs.Rows → Int → (Int → Option R) → Option R := match m with
 | 0 => fun _ _ _ => none
 | m + 1 => fun r0 i1 k =>
 Lp51_2v1 m (fun i2 i3 => k i2) (fun i4 => k ((-1 : Int))) r0 i1 ((0 : Int)) ((↑(List.length r0) : Int)) m ((0 : Int))
noncomputable def brFn51v1 (m : Nat) (T : Tbl) (R : Type) (vs : List V) (k : V → List V → Option R) : Option R := match vs with
 | [.f (.lst [.int .i64, .int .i64] r0), .clos 42 [.iref [.int .i64] [[F.lit (Value.int IntKind.i64 i1)]] 0 0]] => Fn51v1 m r0 i1 (fun i5 => k (V.f (F.lit (Value.int IntKind.i64 i5))) W1)
 | _ => T R 51 vs k
set_option maxRecDepth 100000 in
theorem evFn51v1 (m : Nat) (R : Type) (r0 : Abs.Rows) (i1 : Int) (k : V → List V → Option R) : runK Tryd.prog H (T43 m) (L29 m) 51 (W56 r0 [[F.lit (Value.int IntKind.i64 i1)]]) k = Fn51v1 (m + 1) r0 i1 (fun i5 => k (V.f (F.lit (Value.int IntKind.i64 i5))) W1) := by kernel_rfl
noncomputable def T44 (m : Nat) : Tbl := addT 51 (brFn51v1 m (T43 m)) (T43 m)
theorem okT44 (m : Nat) : TblOk Tryd.prog (T44 m) := addT_ok (okT43 m) fun R vs k x h => by
 unfold brFn51v1 at h
 split at h
 ·cases m with
  | zero => cases h
  | succ m => exact runK_some (okT43 m) hM (okL29 m) ((evFn51v1 m R _ _ k).trans h)
 ·exact okT43 m R 51 _ k x h

/-- - -/
noncomputable def Fn41v1 {R : Type} (m : Nat) : Abs.Rows → Int → (Bool → Option R) → Option R := match m with
 | 0 => fun _ _ _ => none
 | m + 1 => fun r0 i1 k =>
 Fn51v1 m r0 i1 (fun i2 => k (decide (i2 ≥ (0 : Int))))
noncomputable def brFn41v1 (m : Nat) (T : Tbl) (R : Type) (vs : List V) (k : V → List V → Option R) : Option R := match vs with
 | [.f (.lst [.int .i64, .int .i64] r0), .clos 42 [.iref [.int .i64] [[F.lit (Value.int IntKind.i64 i1)]] 0 0]] => Fn41v1 m r0 i1 (fun b3 => k (V.f (F.lit (Value.bool b3))) W1)
 | _ => T R 41 vs k
set_option maxRecDepth 100000 in
theorem evFn41v1 (m : Nat) (R : Type) (r0 : Abs.Rows) (i1 : Int) (k : V → List V → Option R) : runK Tryd.prog H (T44 m) (L29 m) 41 (W56 r0 [[F.lit (Value.int IntKind.i64 i1)]]) k = Fn41v1 (m + 1) r0 i1 (fun b3 => k (V.f (F.lit (Value.bool b3))) W1) := by kernel_rfl
noncomputable def T45 (m : Nat) : Tbl := addT 41 (brFn41v1 m (T44 m)) (T44 m)
theorem okT45 (m : Nat) : TblOk Tryd.prog (T45 m) := addT_ok (okT44 m) fun R vs k x h => by
 unfold brFn41v1 at h
 split at h
 ·cases m with
  | zero => cases h
  | succ m => exact runK_some (okT44 m) hM (okL29 m) ((evFn41v1 m R _ _ k).trans h)
 ·exact okT44 m R 41 _ k x h

/-- - -/
noncomputable def Fn17 {R : Type} (m : Nat) : ByteArray → Abs.Rows → Int → Int → Abs.Rows → Int → Int → (Bool → Option R) → Option R := match m with
 | 0 => fun _ _ _ _ _ _ _ _ => none
 | m + 1 => fun s0 r1 i2 i3 r4 i5 i6 k =>
 Fn40 m i6 i2 i3 (fun b7 => bif b7 then (Fn41v1 m r4 i6 (fun b8 => k (!b8))) else
 (k false))
noncomputable def brFn17 (m : Nat) (T : Tbl) (R : Type) (vs : List V) (k : V → List V → Option R) : Option R := match vs with
 | [.agg [.f (.lit (.string s0)), .f (.lst [.str, .int .i64] r1), .f (.lit (.int .i64 i2)), .f (.lit (.int .i64 i3)), .f (.lst [.int .i64, .int .i64] r4), .f (.lit (.int .i64 i5))], .f (.lit (.int .i64 i6))] => Fn17 m s0 r1 i2 i3 r4 i5 i6 (fun b9 => k (V.f (F.lit (Value.bool b9))) W1)
 | _ => T R 17 vs k
set_option maxRecDepth 100000 in
theorem evFn17 (m : Nat) (R : Type) (s0 : ByteArray) (r1 : Abs.Rows) (i2 i3 : Int) (r4 : Abs.Rows) (i5 i6 : Int) (k : V → List V → Option R) : runK Tryd.prog H (T45 m) (L29 m) 17 (W50 s0 r1 i2 i3 r4 i5 i6) k = Fn17 (m + 1) s0 r1 i2 i3 r4 i5 i6 (fun b9 => k (V.f (F.lit (Value.bool b9))) W1) := by kernel_rfl
noncomputable def T46 (m : Nat) : Tbl := addT 17 (brFn17 m (T45 m)) (T45 m)
theorem okT46 (m : Nat) : TblOk Tryd.prog (T46 m) := addT_ok (okT45 m) fun R vs k x h => by
 unfold brFn17 at h
 split at h
 ·cases m with
  | zero => cases h
  | succ m => exact runK_some (okT45 m) hM (okL29 m) ((evFn17 m R _ _ _ _ _ _ _ k).trans h)
 ·exact okT45 m R 17 _ k x h

abbrev W57 (a0 a1 : ByteArray) (a2 : Abs.Rows) (a3 a4 : Int) (a5 : Abs.Rows) (a6 a7 : Int) (a8 : Abs.Rows) (a9 a10 : Int) : List V := [.f (.lit (.string a0)), .obj [.f (.lit (.string a1)), .f (.lst [.str, .int .i64] a2), .f (.lit (.int .i64 a3)), .f (.lit (.int .i64 a4)), .f (.lst [.int .i64, .int .i64] a5), .f (.lit (.int .i64 a6))], .f (.lit (.int .i64 a7)), .ref 2 1, .f (.lst [.str, .int .i64] a8), .f (.lit (.int .i64 a9)), .f (.lit (.int .i64 a10)), .undef, .undef]
/-- - -/
noncomputable def Lp43_2_step {R : Type} (m : Nat) (kx0 : Int → Int → Option R) (kx1 : Int → Option R) (s0 s1 : ByteArray) (r2 : Abs.Rows) (i3 i4 : Int) (r5 : Abs.Rows) (i6 i7 : Int) (r8 : Abs.Rows) (i9 : Int) (REC : Int → Option R) (i10 : Int) : Option R :=
 bif decide (i10 < i9) then (bif decide ((0 : Int) ≤ i10 ∧ i10 < (↑(List.length r8) : Int)) then (bif ByteArray.toList (fS r8 (Int.toNat i10) (0 : Nat)) == ByteArray.toList s0 then (kx0 (fI r8 (Int.toNat i10) (1 : Nat)) i10) else
 (REC (IntKind.wrap IntKind.i64 (i10 + (1 : Int))))) else
 (none)) else
 (kx1 i10)
noncomputable def Lp43_2 {R : Type} (m : Nat) (kx0 : Int → Int → Option R) (kx1 : Int → Option R) (s0 s1 : ByteArray) (r2 : Abs.Rows) (i3 i4 : Int) (r5 : Abs.Rows) (i6 i7 : Int) (r8 : Abs.Rows) (i9 : Int) : Nat → Int → Option R
 | 0, _ => none
 | n + 1, i10 => Lp43_2_step m kx0 kx1 s0 s1 r2 i3 i4 r5 i6 i7 r8 i9 (Lp43_2 m kx0 kx1 s0 s1 r2 i3 i4 r5 i6 i7 r8 i9 n) i10
noncomputable def ELp43_2 (m : Nat) (R : Type) : Nat → List V → (Ex → List V → Option R) → Option R
 | 0, _, _ => none
 | n + 1, vs, k => match vs with
  | [.f (.lit (.string s0)), .obj [.f (.lit (.string s1)), .f (.lst [.str, .int .i64] r2), .f (.lit (.int .i64 i3)), .f (.lit (.int .i64 i4)), .f (.lst [.int .i64, .int .i64] r5), .f (.lit (.int .i64 i6))], .f (.lit (.int .i64 i7)), .ref 2 1, .f (.lst [.str, .int .i64] r8), .f (.lit (.int .i64 i9)), .f (.lit (.int .i64 i10)), .undef, .undef] => Lp43_2_step m (fun i11 i12 => k Ex.ret (W57 s0 s1 r2 i3 i4 r5 i6 i11 r8 i9 i12)) (fun i13 => k (Ex.exit (0 : Nat)) (W57 s0 s1 r2 i3 i4 r5 i6 i7 r8 i9 i13)) s0 s1 r2 i3 i4 r5 i6 i7 r8 i9 (fun i10 => ELp43_2 m R n (W57 s0 s1 r2 i3 i4 r5 i6 i7 r8 i9 i10) k) i10
  | _ => none
noncomputable def brLp43_2 (m : Nat) (L : LTbl) (R : Type) (vs : List V) (k : Ex → List V → Option R) : Option R := match vs with
 | [.f (.lit (.string s0)), .obj [.f (.lit (.string s1)), .f (.lst [.str, .int .i64] r2), .f (.lit (.int .i64 i3)), .f (.lit (.int .i64 i4)), .f (.lst [.int .i64, .int .i64] r5), .f (.lit (.int .i64 i6))], .f (.lit (.int .i64 i7)), .ref 2 1, .f (.lst [.str, .int .i64] r8), .f (.lit (.int .i64 i9)), .f (.lit (.int .i64 i10)), .undef, .undef] => Lp43_2 m (fun i11 i12 => k Ex.ret (W57 s0 s1 r2 i3 i4 r5 i6 i11 r8 i9 i12)) (fun i13 => k (Ex.exit (0 : Nat)) (W57 s0 s1 r2 i3 i4 r5 i6 i7 r8 i9 i13)) s0 s1 r2 i3 i4 r5 i6 i7 r8 i9 m i10
 | _ => L R 43 2 vs k
set_option maxRecDepth 100000 in
theorem stLp43_2 (m n : Nat) (R : Type) (s0 s1 : ByteArray) (r2 : Abs.Rows) (i3 i4 : Int) (r5 : Abs.Rows) (i6 i7 : Int) (r8 : Abs.Rows) (i9 i10 : Int) (k : Ex → List V → Option R) : codeK Tryd.prog H (T46 m) 43 (L29 m) 3 (loopBody Tryd.prog 43 2) (mkEnv [1, 2, 4, 7, 8, 9, 10, 21, 22] (W57 s0 s1 r2 i3 i4 r5 i6 i7 r8 i9 i10) 0 (H.len 43)) (fun e env' => match e with | .normal => ELp43_2 m R n (vals [1, 2, 4, 7, 8, 9, 10, 21, 22] env') k | e => k e (vals [1, 2, 4, 7, 8, 9, 10, 21, 22] env')) = Lp43_2_step m (fun i11 i12 => k Ex.ret (W57 s0 s1 r2 i3 i4 r5 i6 i11 r8 i9 i12)) (fun i13 => k (Ex.exit (0 : Nat)) (W57 s0 s1 r2 i3 i4 r5 i6 i7 r8 i9 i13)) s0 s1 r2 i3 i4 r5 i6 i7 r8 i9 (fun i10 => ELp43_2 m R n (W57 s0 s1 r2 i3 i4 r5 i6 i7 r8 i9 i10) k) i10 := by kernel_rfl
theorem eqLp43_2 (m : Nat) (R : Type) (s0 s1 : ByteArray) (r2 : Abs.Rows) (i3 i4 : Int) (r5 : Abs.Rows) (i6 i7 : Int) (r8 : Abs.Rows) (i9 : Int) (k : Ex → List V → Option R) : ∀ (n : Nat) (i10 : Int), ELp43_2 m R n (W57 s0 s1 r2 i3 i4 r5 i6 i7 r8 i9 i10) k = Lp43_2 m (fun i11 i12 => k Ex.ret (W57 s0 s1 r2 i3 i4 r5 i6 i11 r8 i9 i12)) (fun i13 => k (Ex.exit (0 : Nat)) (W57 s0 s1 r2 i3 i4 r5 i6 i7 r8 i9 i13)) s0 s1 r2 i3 i4 r5 i6 i7 r8 i9 n i10
 | 0, _ => rfl
 | n + 1, i10 => by
  simp only [ELp43_2, Lp43_2, W57]
  congr 1
  funext i10
  exact eqLp43_2 m R s0 s1 r2 i3 i4 r5 i6 i7 r8 i9 k n i10
noncomputable def L30 (m : Nat) : LTbl := addB 43 2 (brLp43_2 m (L29 m)) (L29 m)
theorem okL30 (m : Nat) : LTOk Tryd.prog H (L30 m) := addB_ok (okT46 m) hM (okL29 m) (l := [1, 2, 4, 7, 8, 9, 10, 21, 22]) (by kernel_rfl) (by kernel_rfl) m (fun R n vs k => ELp43_2 m R n vs k) (fun R vs k => rfl) (fun R n vs k x h => by
   simp only [ELp43_2] at h
   split at h
   ·exact (stLp43_2 m n R _ _ _ _ _ _ _ _ _ _ _ k).trans h
   ·cases h) fun R vs k x h => by
  unfold brLp43_2 at h
  split at h
  ·exact .inl ((eqLp43_2 m R _ _ _ _ _ _ _ _ _ _ k m _).trans h)
  ·exact .inr h

abbrev W58 (a0 : ByteArray) (a1 : Abs.Rows) (a2 a3 : Int) (a4 : Abs.Rows) (a5 : Int) (a6 : ByteArray) : List V := [.agg [.f (.lit (.string a0)), .f (.lst [.str, .int .i64] a1), .f (.lit (.int .i64 a2)), .f (.lit (.int .i64 a3)), .f (.lst [.int .i64, .int .i64] a4), .f (.lit (.int .i64 a5))], .f (.lit (.string a6))]
/-- - -/
noncomputable def Fn43 {R : Type} (m : Nat) : ByteArray → Abs.Rows → Int → Int → Abs.Rows → Int → ByteArray → (Int → Option R) → Option R := match m with
 | 0 => fun _ _ _ _ _ _ _ _ => none
 | m + 1 => fun s0 r1 i2 i3 r4 i5 s6 k =>
 Lp43_2 m (fun i7 i8 => k i7) (fun i9 => k ((0 : Int))) s6 s0 r1 i2 i3 r4 i5 ((0 : Int)) r1 ((↑(List.length r1) : Int)) m ((0 : Int))
noncomputable def brFn43 (m : Nat) (T : Tbl) (R : Type) (vs : List V) (k : V → List V → Option R) : Option R := match vs with
 | [.agg [.f (.lit (.string s0)), .f (.lst [.str, .int .i64] r1), .f (.lit (.int .i64 i2)), .f (.lit (.int .i64 i3)), .f (.lst [.int .i64, .int .i64] r4), .f (.lit (.int .i64 i5))], .f (.lit (.string s6))] => Fn43 m s0 r1 i2 i3 r4 i5 s6 (fun i10 => k (V.f (F.lit (Value.int IntKind.i64 i10))) W1)
 | _ => T R 43 vs k
set_option maxRecDepth 100000 in
theorem evFn43 (m : Nat) (R : Type) (s0 : ByteArray) (r1 : Abs.Rows) (i2 i3 : Int) (r4 : Abs.Rows) (i5 : Int) (s6 : ByteArray) (k : V → List V → Option R) : runK Tryd.prog H (T46 m) (L30 m) 43 (W58 s0 r1 i2 i3 r4 i5 s6) k = Fn43 (m + 1) s0 r1 i2 i3 r4 i5 s6 (fun i10 => k (V.f (F.lit (Value.int IntKind.i64 i10))) W1) := by kernel_rfl
noncomputable def T47 (m : Nat) : Tbl := addT 43 (brFn43 m (T46 m)) (T46 m)
theorem okT47 (m : Nat) : TblOk Tryd.prog (T47 m) := addT_ok (okT46 m) fun R vs k x h => by
 unfold brFn43 at h
 split at h
 ·cases m with
  | zero => cases h
  | succ m => exact runK_some (okT46 m) hM (okL30 m) ((evFn43 m R _ _ _ _ _ _ _ k).trans h)
 ·exact okT46 m R 43 _ k x h

abbrev W59 (a0 : ByteArray) (a1 : Abs.Rows) (a2 a3 : Int) (a4 : Abs.Rows) (a5 : Int) (a6 a7 : ByteArray) (a8 a9 a10 a11 a12 : Int) (a13 : Bool) : List V := [.agg [.f (.lit (.string a0)), .f (.lst [.str, .int .i64] a1), .f (.lit (.int .i64 a2)), .f (.lit (.int .i64 a3)), .f (.lst [.int .i64, .int .i64] a4), .f (.lit (.int .i64 a5))], .agg [.f (.lit (.string a6)), .f (.lit (.string a7)), .f (.lit (.int .i64 a8)), .f (.lit (.int .i64 a9)), .f (.lit (.int .i64 a10)), .f (.lit (.int .i64 a11)), .f (.lit (.int .i64 a12)), .f (.lit (.bool a13))]]
/-- - -/
noncomputable def Fn18 {R : Type} (m : Nat) : ByteArray → Abs.Rows → Int → Int → Abs.Rows → Int → ByteArray → ByteArray → Int → Int → Int → Int → Int → Bool → (Bool → Int → Option R) → Option R := match m with
 | 0 => fun _ _ _ _ _ _ _ _ _ _ _ _ _ _ _ => none
 | m + 1 => fun s0 r1 i2 i3 r4 i5 s6 s7 i8 i9 i10 i11 i12 b13 k =>
 Fn8 m ([[F.lit (Value.string s0), F.lst [LT.str, LT.int IntKind.i64] r1, F.lit (Value.int IntKind.i64 i2), F.lit (Value.int IntKind.i64 i3), F.lst [LT.int IntKind.i64, LT.int IntKind.i64] r4, F.lit (Value.int IntKind.i64 i5)]]) (fun i14 => bif i14 != (0 : Int) then (k false i14) else
 (Fn10 m ([[F.lit (Value.string s6), F.lit (Value.string s7), F.lit (Value.int IntKind.i64 i8), F.lit (Value.int IntKind.i64 i9), F.lit (Value.int IntKind.i64 i10), F.lit (Value.int IntKind.i64 i11), F.lit (Value.int IntKind.i64 i12), F.lit (Value.bool b13)]]) (fun i15 => bif i15 != (0 : Int) then (k false i15) else
 (Fn43 m s0 r1 i2 i3 r4 i5 s7 (fun i16 => k (decide (i16 ≥ i9)) ((0 : Int)))))))
noncomputable def brFn18 (m : Nat) (T : Tbl) (R : Type) (vs : List V) (k : V → List V → Option R) : Option R := match vs with
 | [.agg [.f (.lit (.string s0)), .f (.lst [.str, .int .i64] r1), .f (.lit (.int .i64 i2)), .f (.lit (.int .i64 i3)), .f (.lst [.int .i64, .int .i64] r4), .f (.lit (.int .i64 i5))], .agg [.f (.lit (.string s6)), .f (.lit (.string s7)), .f (.lit (.int .i64 i8)), .f (.lit (.int .i64 i9)), .f (.lit (.int .i64 i10)), .f (.lit (.int .i64 i11)), .f (.lit (.int .i64 i12)), .f (.lit (.bool b13))]] => Fn18 m s0 r1 i2 i3 r4 i5 s6 s7 i8 i9 i10 i11 i12 b13 (fun b17 i18 => k (V.tup (W51 b17 i18)) W1)
 | _ => T R 18 vs k
set_option maxRecDepth 100000 in
theorem evFn18 (m : Nat) (R : Type) (s0 : ByteArray) (r1 : Abs.Rows) (i2 i3 : Int) (r4 : Abs.Rows) (i5 : Int) (s6 s7 : ByteArray) (i8 i9 i10 i11 i12 : Int) (b13 : Bool) (k : V → List V → Option R) : runK Tryd.prog H (T47 m) (L30 m) 18 (W59 s0 r1 i2 i3 r4 i5 s6 s7 i8 i9 i10 i11 i12 b13) k = Fn18 (m + 1) s0 r1 i2 i3 r4 i5 s6 s7 i8 i9 i10 i11 i12 b13 (fun b17 i18 => k (V.tup (W51 b17 i18)) W1) := by kernel_rfl
noncomputable def T48 (m : Nat) : Tbl := addT 18 (brFn18 m (T47 m)) (T47 m)
theorem okT48 (m : Nat) : TblOk Tryd.prog (T48 m) := addT_ok (okT47 m) fun R vs k x h => by
 unfold brFn18 at h
 split at h
 ·cases m with
  | zero => cases h
  | succ m => exact runK_some (okT47 m) hM (okL30 m) ((evFn18 m R _ _ _ _ _ _ _ _ _ _ _ _ _ _ k).trans h)
 ·exact okT47 m R 18 _ k x h

/-- - -/
noncomputable def Lp44_2_step {R : Type} (m : Nat) (kx0 : Int → Int → Option R) (kx1 : Int → Option R) (s0 s1 : ByteArray) (r2 : Abs.Rows) (i3 i4 : Int) (r5 : Abs.Rows) (i6 i7 : Int) (r8 : Abs.Rows) (i9 : Int) (REC : Int → Option R) (i10 : Int) : Option R :=
 bif decide (i10 < i9) then (bif decide ((0 : Int) ≤ i10 ∧ i10 < (↑(List.length r8) : Int)) then (bif ByteArray.toList (fS r8 (Int.toNat i10) (0 : Nat)) == ByteArray.toList s0 then (kx0 (fI r8 (Int.toNat i10) (1 : Nat)) i10) else
 (REC (IntKind.wrap IntKind.i64 (i10 + (1 : Int))))) else
 (none)) else
 (kx1 i10)
noncomputable def Lp44_2 {R : Type} (m : Nat) (kx0 : Int → Int → Option R) (kx1 : Int → Option R) (s0 s1 : ByteArray) (r2 : Abs.Rows) (i3 i4 : Int) (r5 : Abs.Rows) (i6 i7 : Int) (r8 : Abs.Rows) (i9 : Int) : Nat → Int → Option R
 | 0, _ => none
 | n + 1, i10 => Lp44_2_step m kx0 kx1 s0 s1 r2 i3 i4 r5 i6 i7 r8 i9 (Lp44_2 m kx0 kx1 s0 s1 r2 i3 i4 r5 i6 i7 r8 i9 n) i10
noncomputable def ELp44_2 (m : Nat) (R : Type) : Nat → List V → (Ex → List V → Option R) → Option R
 | 0, _, _ => none
 | n + 1, vs, k => match vs with
  | [.f (.lit (.string s0)), .obj [.f (.lit (.string s1)), .f (.lst [.str, .int .i64] r2), .f (.lit (.int .i64 i3)), .f (.lit (.int .i64 i4)), .f (.lst [.int .i64, .int .i64] r5), .f (.lit (.int .i64 i6))], .f (.lit (.int .i64 i7)), .ref 2 1, .f (.lst [.str, .int .i64] r8), .f (.lit (.int .i64 i9)), .f (.lit (.int .i64 i10)), .undef, .undef] => Lp44_2_step m (fun i11 i12 => k Ex.ret (W57 s0 s1 r2 i3 i4 r5 i6 i11 r8 i9 i12)) (fun i13 => k (Ex.exit (0 : Nat)) (W57 s0 s1 r2 i3 i4 r5 i6 i7 r8 i9 i13)) s0 s1 r2 i3 i4 r5 i6 i7 r8 i9 (fun i10 => ELp44_2 m R n (W57 s0 s1 r2 i3 i4 r5 i6 i7 r8 i9 i10) k) i10
  | _ => none
noncomputable def brLp44_2 (m : Nat) (L : LTbl) (R : Type) (vs : List V) (k : Ex → List V → Option R) : Option R := match vs with
 | [.f (.lit (.string s0)), .obj [.f (.lit (.string s1)), .f (.lst [.str, .int .i64] r2), .f (.lit (.int .i64 i3)), .f (.lit (.int .i64 i4)), .f (.lst [.int .i64, .int .i64] r5), .f (.lit (.int .i64 i6))], .f (.lit (.int .i64 i7)), .ref 2 1, .f (.lst [.str, .int .i64] r8), .f (.lit (.int .i64 i9)), .f (.lit (.int .i64 i10)), .undef, .undef] => Lp44_2 m (fun i11 i12 => k Ex.ret (W57 s0 s1 r2 i3 i4 r5 i6 i11 r8 i9 i12)) (fun i13 => k (Ex.exit (0 : Nat)) (W57 s0 s1 r2 i3 i4 r5 i6 i7 r8 i9 i13)) s0 s1 r2 i3 i4 r5 i6 i7 r8 i9 m i10
 | _ => L R 44 2 vs k
set_option maxRecDepth 100000 in
theorem stLp44_2 (m n : Nat) (R : Type) (s0 s1 : ByteArray) (r2 : Abs.Rows) (i3 i4 : Int) (r5 : Abs.Rows) (i6 i7 : Int) (r8 : Abs.Rows) (i9 i10 : Int) (k : Ex → List V → Option R) : codeK Tryd.prog H (T48 m) 44 (L30 m) 3 (loopBody Tryd.prog 44 2) (mkEnv [1, 2, 4, 7, 8, 9, 10, 21, 22] (W57 s0 s1 r2 i3 i4 r5 i6 i7 r8 i9 i10) 0 (H.len 44)) (fun e env' => match e with | .normal => ELp44_2 m R n (vals [1, 2, 4, 7, 8, 9, 10, 21, 22] env') k | e => k e (vals [1, 2, 4, 7, 8, 9, 10, 21, 22] env')) = Lp44_2_step m (fun i11 i12 => k Ex.ret (W57 s0 s1 r2 i3 i4 r5 i6 i11 r8 i9 i12)) (fun i13 => k (Ex.exit (0 : Nat)) (W57 s0 s1 r2 i3 i4 r5 i6 i7 r8 i9 i13)) s0 s1 r2 i3 i4 r5 i6 i7 r8 i9 (fun i10 => ELp44_2 m R n (W57 s0 s1 r2 i3 i4 r5 i6 i7 r8 i9 i10) k) i10 := by kernel_rfl
theorem eqLp44_2 (m : Nat) (R : Type) (s0 s1 : ByteArray) (r2 : Abs.Rows) (i3 i4 : Int) (r5 : Abs.Rows) (i6 i7 : Int) (r8 : Abs.Rows) (i9 : Int) (k : Ex → List V → Option R) : ∀ (n : Nat) (i10 : Int), ELp44_2 m R n (W57 s0 s1 r2 i3 i4 r5 i6 i7 r8 i9 i10) k = Lp44_2 m (fun i11 i12 => k Ex.ret (W57 s0 s1 r2 i3 i4 r5 i6 i11 r8 i9 i12)) (fun i13 => k (Ex.exit (0 : Nat)) (W57 s0 s1 r2 i3 i4 r5 i6 i7 r8 i9 i13)) s0 s1 r2 i3 i4 r5 i6 i7 r8 i9 n i10
 | 0, _ => rfl
 | n + 1, i10 => by
  simp only [ELp44_2, Lp44_2, W57]
  congr 1
  funext i10
  exact eqLp44_2 m R s0 s1 r2 i3 i4 r5 i6 i7 r8 i9 k n i10
noncomputable def L31 (m : Nat) : LTbl := addB 44 2 (brLp44_2 m (L30 m)) (L30 m)
theorem okL31 (m : Nat) : LTOk Tryd.prog H (L31 m) := addB_ok (okT48 m) hM (okL30 m) (l := [1, 2, 4, 7, 8, 9, 10, 21, 22]) (by kernel_rfl) (by kernel_rfl) m (fun R n vs k => ELp44_2 m R n vs k) (fun R vs k => rfl) (fun R n vs k x h => by
   simp only [ELp44_2] at h
   split at h
   ·exact (stLp44_2 m n R _ _ _ _ _ _ _ _ _ _ _ k).trans h
   ·cases h) fun R vs k x h => by
  unfold brLp44_2 at h
  split at h
  ·exact .inl ((eqLp44_2 m R _ _ _ _ _ _ _ _ _ _ k m _).trans h)
  ·exact .inr h

/-- - -/
noncomputable def Fn44 {R : Type} (m : Nat) : ByteArray → Abs.Rows → Int → Int → Abs.Rows → Int → ByteArray → (Int → Option R) → Option R := match m with
 | 0 => fun _ _ _ _ _ _ _ _ => none
 | m + 1 => fun s0 r1 i2 i3 r4 i5 s6 k =>
 Lp44_2 m (fun i7 i8 => k i7) (fun i9 => k ((0 : Int))) s6 s0 r1 i2 i3 r4 i5 ((0 : Int)) r1 ((↑(List.length r1) : Int)) m ((0 : Int))
noncomputable def brFn44 (m : Nat) (T : Tbl) (R : Type) (vs : List V) (k : V → List V → Option R) : Option R := match vs with
 | [.agg [.f (.lit (.string s0)), .f (.lst [.str, .int .i64] r1), .f (.lit (.int .i64 i2)), .f (.lit (.int .i64 i3)), .f (.lst [.int .i64, .int .i64] r4), .f (.lit (.int .i64 i5))], .f (.lit (.string s6))] => Fn44 m s0 r1 i2 i3 r4 i5 s6 (fun i10 => k (V.f (F.lit (Value.int IntKind.i64 i10))) W1)
 | _ => T R 44 vs k
set_option maxRecDepth 100000 in
theorem evFn44 (m : Nat) (R : Type) (s0 : ByteArray) (r1 : Abs.Rows) (i2 i3 : Int) (r4 : Abs.Rows) (i5 : Int) (s6 : ByteArray) (k : V → List V → Option R) : runK Tryd.prog H (T48 m) (L31 m) 44 (W58 s0 r1 i2 i3 r4 i5 s6) k = Fn44 (m + 1) s0 r1 i2 i3 r4 i5 s6 (fun i10 => k (V.f (F.lit (Value.int IntKind.i64 i10))) W1) := by kernel_rfl
noncomputable def T49 (m : Nat) : Tbl := addT 44 (brFn44 m (T48 m)) (T48 m)
theorem okT49 (m : Nat) : TblOk Tryd.prog (T49 m) := addT_ok (okT48 m) fun R vs k x h => by
 unfold brFn44 at h
 split at h
 ·cases m with
  | zero => cases h
  | succ m => exact runK_some (okT48 m) hM (okL31 m) ((evFn44 m R _ _ _ _ _ _ _ k).trans h)
 ·exact okT48 m R 44 _ k x h

/-- - -/
noncomputable def Fn19 {R : Type} (m : Nat) : ByteArray → Abs.Rows → Int → Int → Abs.Rows → Int → ByteArray → ByteArray → Int → Int → Int → Int → Int → Bool → (Bool → Option R) → Option R := match m with
 | 0 => fun _ _ _ _ _ _ _ _ _ _ _ _ _ _ _ => none
 | m + 1 => fun s0 r1 i2 i3 r4 i5 s6 s7 i8 i9 i10 i11 i12 b13 k =>
 Fn44 m s0 r1 i2 i3 r4 i5 s7 (fun i14 => k (decide (i14 ≥ i9)))
noncomputable def brFn19 (m : Nat) (T : Tbl) (R : Type) (vs : List V) (k : V → List V → Option R) : Option R := match vs with
 | [.agg [.f (.lit (.string s0)), .f (.lst [.str, .int .i64] r1), .f (.lit (.int .i64 i2)), .f (.lit (.int .i64 i3)), .f (.lst [.int .i64, .int .i64] r4), .f (.lit (.int .i64 i5))], .agg [.f (.lit (.string s6)), .f (.lit (.string s7)), .f (.lit (.int .i64 i8)), .f (.lit (.int .i64 i9)), .f (.lit (.int .i64 i10)), .f (.lit (.int .i64 i11)), .f (.lit (.int .i64 i12)), .f (.lit (.bool b13))]] => Fn19 m s0 r1 i2 i3 r4 i5 s6 s7 i8 i9 i10 i11 i12 b13 (fun b15 => k (V.f (F.lit (Value.bool b15))) W1)
 | _ => T R 19 vs k
set_option maxRecDepth 100000 in
theorem evFn19 (m : Nat) (R : Type) (s0 : ByteArray) (r1 : Abs.Rows) (i2 i3 : Int) (r4 : Abs.Rows) (i5 : Int) (s6 s7 : ByteArray) (i8 i9 i10 i11 i12 : Int) (b13 : Bool) (k : V → List V → Option R) : runK Tryd.prog H (T49 m) (L31 m) 19 (W59 s0 r1 i2 i3 r4 i5 s6 s7 i8 i9 i10 i11 i12 b13) k = Fn19 (m + 1) s0 r1 i2 i3 r4 i5 s6 s7 i8 i9 i10 i11 i12 b13 (fun b15 => k (V.f (F.lit (Value.bool b15))) W1) := by kernel_rfl
noncomputable def T50 (m : Nat) : Tbl := addT 19 (brFn19 m (T49 m)) (T49 m)
theorem okT50 (m : Nat) : TblOk Tryd.prog (T50 m) := addT_ok (okT49 m) fun R vs k x h => by
 unfold brFn19 at h
 split at h
 ·cases m with
  | zero => cases h
  | succ m => exact runK_some (okT49 m) hM (okL31 m) ((evFn19 m R _ _ _ _ _ _ _ _ _ _ _ _ _ _ k).trans h)
 ·exact okT49 m R 19 _ k x h

abbrev W60 (a0 : Bool) (a1 a2 : Abs.Rows) (a3 : Int) (a4 : ByteArray) (a5 : Abs.Rows) (a6 a7 : Int) (a8 : Abs.Rows) (a9 a10 : Int) (a11 : Nat) (a12 a13 : Int) (a14 : Nat) (a15 a16 : Int) : List V := [.f (.lit (.bool a0)), .own [.str, .lst [.str, .int .i64], .int .i64, .int .i64, .lst [.int .i64, .int .i64], .int .i64] a1, .own [.str, .str, .int .i64, .int .i64, .int .i64, .int .i64, .int .i64, .bool] a2, .f (.lit (.int .i64 a3)), .obj [.f (.lit (.string a4)), .f (.lst [.str, .int .i64] a5), .f (.lit (.int .i64 a6)), .f (.lit (.int .i64 a7)), .f (.lst [.int .i64, .int .i64] a8), .f (.lit (.int .i64 a9))], .f (.lit (.int .i64 a10)), .undef, .undef, .lent { slot := (4 : Nat), leaf := none } 6 a11, .f (.lit (.int .i64 a12)), .f (.lit (.int .i64 a13)), .lent { slot := (5 : Nat), leaf := none } 8 a14, .f (.lit (.int .i64 a15)), .f (.lit (.int .i64 a16)), .undef]
/-- - -/
noncomputable def Lp3_18_step {R : Type} (m : Nat) (kx0 : Bool → Int → Option R) (kx1 : Int → Option R) (b0 : Bool) (r1 r2 : Abs.Rows) (i3 : Int) (s4 : ByteArray) (r5 : Abs.Rows) (i6 i7 : Int) (r8 : Abs.Rows) (i9 i10 : Int) (n11 : Nat) (i12 i13 : Int) (n14 : Nat) (i15 : Int) (REC : Int → Option R) (i16 : Int) : Option R :=
 bif decide (i16 < i15) then (bif decide ((0 : Int) ≤ i16 ∧ i16 < (↑n14 : Int)) then (Fn18 m s4 r5 i6 i7 r8 i9 (fS r2 (Int.toNat i16) (0 : Nat)) (fS r2 (Int.toNat i16) (1 : Nat)) (fI r2 (Int.toNat i16) (2 : Nat)) (fI r2 (Int.toNat i16) (3 : Nat)) (fI r2 (Int.toNat i16) (4 : Nat)) (fI r2 (Int.toNat i16) (5 : Nat)) (fI r2 (Int.toNat i16) (6 : Nat)) (fB r2 (Int.toNat i16) (7 : Nat)) (fun b17 i18 => Fn11 m ([[F.lit (Value.string (fS r2 (Int.toNat i16) (0 : Nat))), F.lit (Value.string (fS r2 (Int.toNat i16) (1 : Nat))), F.lit (Value.int IntKind.i64 (fI r2 (Int.toNat i16) (2 : Nat))), F.lit (Value.int IntKind.i64 (fI r2 (Int.toNat i16) (3 : Nat))), F.lit (Value.int IntKind.i64 (fI r2 (Int.toNat i16) (4 : Nat))), F.lit (Value.int IntKind.i64 (fI r2 (Int.toNat i16) (5 : Nat))), F.lit (Value.int IntKind.i64 (fI r2 (Int.toNat i16) (6 : Nat))), F.lit (Value.bool (fB r2 (Int.toNat i16) (7 : Nat)))]]) (fun i19 => Fn15 m ([[F.lit (Value.int IntKind.i64 i10)], [F.lit (Value.int IntKind.i64 i19)]]) (fun i20 => bif i18 != i20 then (kx0 false i16) else
 (bif i20 == (0 : Int) then (Fn19 m s4 r5 i6 i7 r8 i9 (fS r2 (Int.toNat i16) (0 : Nat)) (fS r2 (Int.toNat i16) (1 : Nat)) (fI r2 (Int.toNat i16) (2 : Nat)) (fI r2 (Int.toNat i16) (3 : Nat)) (fI r2 (Int.toNat i16) (4 : Nat)) (fI r2 (Int.toNat i16) (5 : Nat)) (fI r2 (Int.toNat i16) (6 : Nat)) (fB r2 (Int.toNat i16) (7 : Nat)) (fun b21 => bif !b17 == b21 then (kx0 false i16) else
 (REC (IntKind.wrap IntKind.i64 (i16 + (1 : Int)))))) else
 (bif !b17 == false then (kx0 false i16) else
 (REC (IntKind.wrap IntKind.i64 (i16 + (1 : Int)))))))))) else
 (none)) else
 (kx1 i16)
noncomputable def Lp3_18 {R : Type} (m : Nat) (kx0 : Bool → Int → Option R) (kx1 : Int → Option R) (b0 : Bool) (r1 r2 : Abs.Rows) (i3 : Int) (s4 : ByteArray) (r5 : Abs.Rows) (i6 i7 : Int) (r8 : Abs.Rows) (i9 i10 : Int) (n11 : Nat) (i12 i13 : Int) (n14 : Nat) (i15 : Int) : Nat → Int → Option R
 | 0, _ => none
 | n + 1, i16 => Lp3_18_step m kx0 kx1 b0 r1 r2 i3 s4 r5 i6 i7 r8 i9 i10 n11 i12 i13 n14 i15 (Lp3_18 m kx0 kx1 b0 r1 r2 i3 s4 r5 i6 i7 r8 i9 i10 n11 i12 i13 n14 i15 n) i16
noncomputable def ELp3_18 (m : Nat) (R : Type) : Nat → List V → (Ex → List V → Option R) → Option R
 | 0, _, _ => none
 | n + 1, vs, k => match vs with
  | [.f (.lit (.bool b0)), .own [.str, .lst [.str, .int .i64], .int .i64, .int .i64, .lst [.int .i64, .int .i64], .int .i64] r1, .own [.str, .str, .int .i64, .int .i64, .int .i64, .int .i64, .int .i64, .bool] r2, .f (.lit (.int .i64 i3)), .obj [.f (.lit (.string s4)), .f (.lst [.str, .int .i64] r5), .f (.lit (.int .i64 i6)), .f (.lit (.int .i64 i7)), .f (.lst [.int .i64, .int .i64] r8), .f (.lit (.int .i64 i9))], .f (.lit (.int .i64 i10)), .undef, .undef, .lent { slot := (4 : Nat), leaf := none } 6 n11, .f (.lit (.int .i64 i12)), .f (.lit (.int .i64 i13)), .lent { slot := (5 : Nat), leaf := none } 8 n14, .f (.lit (.int .i64 i15)), .f (.lit (.int .i64 i16)), .undef] => Lp3_18_step m (fun b22 i23 => k Ex.ret (W60 b22 r1 r2 i3 s4 r5 i6 i7 r8 i9 i10 n11 i12 i13 n14 i15 i23)) (fun i24 => k (Ex.exit (2 : Nat)) (W60 b0 r1 r2 i3 s4 r5 i6 i7 r8 i9 i10 n11 i12 i13 n14 i15 i24)) b0 r1 r2 i3 s4 r5 i6 i7 r8 i9 i10 n11 i12 i13 n14 i15 (fun i16 => ELp3_18 m R n (W60 b0 r1 r2 i3 s4 r5 i6 i7 r8 i9 i10 n11 i12 i13 n14 i15 i16) k) i16
  | _ => none
noncomputable def brLp3_18 (m : Nat) (L : LTbl) (R : Type) (vs : List V) (k : Ex → List V → Option R) : Option R := match vs with
 | [.f (.lit (.bool b0)), .own [.str, .lst [.str, .int .i64], .int .i64, .int .i64, .lst [.int .i64, .int .i64], .int .i64] r1, .own [.str, .str, .int .i64, .int .i64, .int .i64, .int .i64, .int .i64, .bool] r2, .f (.lit (.int .i64 i3)), .obj [.f (.lit (.string s4)), .f (.lst [.str, .int .i64] r5), .f (.lit (.int .i64 i6)), .f (.lit (.int .i64 i7)), .f (.lst [.int .i64, .int .i64] r8), .f (.lit (.int .i64 i9))], .f (.lit (.int .i64 i10)), .undef, .undef, .lent { slot := (4 : Nat), leaf := none } 6 n11, .f (.lit (.int .i64 i12)), .f (.lit (.int .i64 i13)), .lent { slot := (5 : Nat), leaf := none } 8 n14, .f (.lit (.int .i64 i15)), .f (.lit (.int .i64 i16)), .undef] => Lp3_18 m (fun b22 i23 => k Ex.ret (W60 b22 r1 r2 i3 s4 r5 i6 i7 r8 i9 i10 n11 i12 i13 n14 i15 i23)) (fun i24 => k (Ex.exit (2 : Nat)) (W60 b0 r1 r2 i3 s4 r5 i6 i7 r8 i9 i10 n11 i12 i13 n14 i15 i24)) b0 r1 r2 i3 s4 r5 i6 i7 r8 i9 i10 n11 i12 i13 n14 i15 m i16
 | _ => L R 3 18 vs k
set_option maxRecDepth 100000 in
theorem stLp3_18 (m n : Nat) (R : Type) (b0 : Bool) (r1 r2 : Abs.Rows) (i3 : Int) (s4 : ByteArray) (r5 : Abs.Rows) (i6 i7 : Int) (r8 : Abs.Rows) (i9 i10 : Int) (n11 : Nat) (i12 i13 : Int) (n14 : Nat) (i15 i16 : Int) (k : Ex → List V → Option R) : codeK Tryd.prog H (T50 m) 3 (L31 m) 19 (loopBody Tryd.prog 3 18) (mkEnv [2, 4, 5, 7, 9, 10, 23, 25, 50, 51, 52, 84, 85, 86, 119] (W60 b0 r1 r2 i3 s4 r5 i6 i7 r8 i9 i10 n11 i12 i13 n14 i15 i16) 0 (H.len 3)) (fun e env' => match e with | .normal => ELp3_18 m R n (vals [2, 4, 5, 7, 9, 10, 23, 25, 50, 51, 52, 84, 85, 86, 119] env') k | e => k e (vals [2, 4, 5, 7, 9, 10, 23, 25, 50, 51, 52, 84, 85, 86, 119] env')) = Lp3_18_step m (fun b22 i23 => k Ex.ret (W60 b22 r1 r2 i3 s4 r5 i6 i7 r8 i9 i10 n11 i12 i13 n14 i15 i23)) (fun i24 => k (Ex.exit (2 : Nat)) (W60 b0 r1 r2 i3 s4 r5 i6 i7 r8 i9 i10 n11 i12 i13 n14 i15 i24)) b0 r1 r2 i3 s4 r5 i6 i7 r8 i9 i10 n11 i12 i13 n14 i15 (fun i16 => ELp3_18 m R n (W60 b0 r1 r2 i3 s4 r5 i6 i7 r8 i9 i10 n11 i12 i13 n14 i15 i16) k) i16 := by kernel_rfl
theorem eqLp3_18 (m : Nat) (R : Type) (b0 : Bool) (r1 r2 : Abs.Rows) (i3 : Int) (s4 : ByteArray) (r5 : Abs.Rows) (i6 i7 : Int) (r8 : Abs.Rows) (i9 i10 : Int) (n11 : Nat) (i12 i13 : Int) (n14 : Nat) (i15 : Int) (k : Ex → List V → Option R) : ∀ (n : Nat) (i16 : Int), ELp3_18 m R n (W60 b0 r1 r2 i3 s4 r5 i6 i7 r8 i9 i10 n11 i12 i13 n14 i15 i16) k = Lp3_18 m (fun b22 i23 => k Ex.ret (W60 b22 r1 r2 i3 s4 r5 i6 i7 r8 i9 i10 n11 i12 i13 n14 i15 i23)) (fun i24 => k (Ex.exit (2 : Nat)) (W60 b0 r1 r2 i3 s4 r5 i6 i7 r8 i9 i10 n11 i12 i13 n14 i15 i24)) b0 r1 r2 i3 s4 r5 i6 i7 r8 i9 i10 n11 i12 i13 n14 i15 n i16
 | 0, _ => rfl
 | n + 1, i16 => by
  simp only [ELp3_18, Lp3_18, W60]
  congr 1
  funext i16
  exact eqLp3_18 m R b0 r1 r2 i3 s4 r5 i6 i7 r8 i9 i10 n11 i12 i13 n14 i15 k n i16
noncomputable def L32 (m : Nat) : LTbl := addB 3 18 (brLp3_18 m (L31 m)) (L31 m)
theorem okL32 (m : Nat) : LTOk Tryd.prog H (L32 m) := addB_ok (okT50 m) hM (okL31 m) (l := [2, 4, 5, 7, 9, 10, 23, 25, 50, 51, 52, 84, 85, 86, 119]) (by kernel_rfl) (by kernel_rfl) m (fun R n vs k => ELp3_18 m R n vs k) (fun R vs k => rfl) (fun R n vs k x h => by
   simp only [ELp3_18] at h
   split at h
   ·exact (stLp3_18 m n R _ _ _ _ _ _ _ _ _ _ _ _ _ _ _ _ _ k).trans h
   ·cases h) fun R vs k x h => by
  unfold brLp3_18 at h
  split at h
  ·exact .inl ((eqLp3_18 m R _ _ _ _ _ _ _ _ _ _ _ _ _ _ _ _ k m _).trans h)
  ·exact .inr h

abbrev W61 (a0 : Bool) (a1 a2 : Abs.Rows) (a3 : Int) (a4 : ByteArray) (a5 : Abs.Rows) (a6 a7 : Int) (a8 : Abs.Rows) (a9 a10 : Int) (a11 : Nat) (a12 a13 : Int) : List V := [.f (.lit (.bool a0)), .own [.str, .lst [.str, .int .i64], .int .i64, .int .i64, .lst [.int .i64, .int .i64], .int .i64] a1, .own [.str, .str, .int .i64, .int .i64, .int .i64, .int .i64, .int .i64, .bool] a2, .f (.lit (.int .i64 a3)), .obj [.f (.lit (.string a4)), .f (.lst [.str, .int .i64] a5), .f (.lit (.int .i64 a6)), .f (.lit (.int .i64 a7)), .f (.lst [.int .i64, .int .i64] a8), .f (.lit (.int .i64 a9))], .f (.lit (.int .i64 a10)), .undef, .undef, .lent { slot := (4 : Nat), leaf := none } 6 a11, .f (.lit (.int .i64 a12)), .f (.lit (.int .i64 a13)), .undef]
/-- - -/
noncomputable def Jn3_16 {R : Type} (m : Nat) (kx0 : Bool → Option R) (kx1 : Option R) (b0 : Bool) (r1 r2 : Abs.Rows) (i3 : Int) (s4 : ByteArray) (r5 : Abs.Rows) (i6 i7 : Int) (r8 : Abs.Rows) (i9 i10 : Int) (n11 : Nat) (i12 i13 : Int) : Option R :=
 Lp3_18 m (fun b14 i15 => kx0 b14) (fun i16 => kx1 ) b0 r1 r2 i3 s4 r5 i6 i7 r8 i9 i10 n11 i12 i13 (List.length r2) ((↑(List.length r2) : Int)) m ((0 : Int))
noncomputable def brJn3_16 (m : Nat) (L : LTbl) (R : Type) (vs : List V) (k : Ex → List V → Option R) : Option R := match vs with
 | [.f (.lit (.bool b0)), .own [.str, .lst [.str, .int .i64], .int .i64, .int .i64, .lst [.int .i64, .int .i64], .int .i64] r1, .own [.str, .str, .int .i64, .int .i64, .int .i64, .int .i64, .int .i64, .bool] r2, .f (.lit (.int .i64 i3)), .obj [.f (.lit (.string s4)), .f (.lst [.str, .int .i64] r5), .f (.lit (.int .i64 i6)), .f (.lit (.int .i64 i7)), .f (.lst [.int .i64, .int .i64] r8), .f (.lit (.int .i64 i9))], .f (.lit (.int .i64 i10)), .undef, .undef, .lent { slot := (4 : Nat), leaf := none } 6 n11, .f (.lit (.int .i64 i12)), .f (.lit (.int .i64 i13)), .undef] => Jn3_16 m (fun b17 => k Ex.ret (W61 b17 r1 r2 i3 s4 r5 i6 i7 r8 i9 i10 n11 i12 i13)) (k Ex.normal (W61 b0 r1 r2 i3 s4 r5 i6 i7 r8 i9 i10 n11 i12 i13)) b0 r1 r2 i3 s4 r5 i6 i7 r8 i9 i10 n11 i12 i13
 | _ => L R 3 16 vs k
set_option maxRecDepth 100000 in
theorem evJn3_16 (m : Nat) (R : Type) (b0 : Bool) (r1 r2 : Abs.Rows) (i3 : Int) (s4 : ByteArray) (r5 : Abs.Rows) (i6 i7 : Int) (r8 : Abs.Rows) (i9 i10 : Int) (n11 : Nat) (i12 i13 : Int) (k : Ex → List V → Option R) : codeK Tryd.prog H (T50 m) 3 (L32 m) 17 (loopBody Tryd.prog 3 16) (mkEnv [2, 4, 5, 7, 9, 10, 23, 25, 50, 51, 52, 119] (W61 b0 r1 r2 i3 s4 r5 i6 i7 r8 i9 i10 n11 i12 i13) 0 (H.len 3)) (fun e env' => k e (vals [2, 4, 5, 7, 9, 10, 23, 25, 50, 51, 52, 119] env')) = Jn3_16 m (fun b17 => k Ex.ret (W61 b17 r1 r2 i3 s4 r5 i6 i7 r8 i9 i10 n11 i12 i13)) (k Ex.normal (W61 b0 r1 r2 i3 s4 r5 i6 i7 r8 i9 i10 n11 i12 i13)) b0 r1 r2 i3 s4 r5 i6 i7 r8 i9 i10 n11 i12 i13 := by kernel_rfl
noncomputable def L33 (m : Nat) : LTbl := addJ 3 16 (brJn3_16 m (L32 m)) (L32 m)
theorem okL33 (m : Nat) : LTOk Tryd.prog H (L33 m) := addJ_ok (okT50 m) hM (okL32 m) (l := [2, 4, 5, 7, 9, 10, 23, 25, 50, 51, 52, 119]) (by kernel_rfl) (by kernel_rfl) fun R vs k x h => by
  unfold brJn3_16 at h
  split at h
  ·exact .inl ((evJn3_16 m R _ _ _ _ _ _ _ _ _ _ _ _ _ _ k).trans h)
  ·exact .inr h

abbrev W62 (a0 : Bool) (a1 a2 : Abs.Rows) (a3 : Int) (a4 : Nat) (a5 a6 : Int) : List V := [.f (.lit (.bool a0)), .own [.str, .lst [.str, .int .i64], .int .i64, .int .i64, .lst [.int .i64, .int .i64], .int .i64] a1, .own [.str, .str, .int .i64, .int .i64, .int .i64, .int .i64, .int .i64, .bool] a2, .f (.lit (.int .i64 a3)), .undef, .undef, .lent { slot := (4 : Nat), leaf := none } 6 a4, .f (.lit (.int .i64 a5)), .f (.lit (.int .i64 a6)), .undef]
/-- - -/
noncomputable def Lp3_7_step {R : Type} (m : Nat) (kx0 : Bool → Int → Option R) (kx1 : Int → Option R) (b0 : Bool) (r1 r2 : Abs.Rows) (i3 : Int) (n4 : Nat) (i5 : Int) (REC : Int → Option R) (i6 : Int) : Option R :=
 bif decide (i6 < i5) then (bif decide ((0 : Int) ≤ i6 ∧ i6 < (↑n4 : Int)) then (Fn9 m ([[F.lit (Value.string (fS r1 (Int.toNat i6) (0 : Nat))), F.lst [LT.str, LT.int IntKind.i64] (fR r1 (Int.toNat i6) (1 : Nat)), F.lit (Value.int IntKind.i64 (fI r1 (Int.toNat i6) (2 : Nat))), F.lit (Value.int IntKind.i64 (fI r1 (Int.toNat i6) (3 : Nat))), F.lst [LT.int IntKind.i64, LT.int IntKind.i64] (fR r1 (Int.toNat i6) (4 : Nat)), F.lit (Value.int IntKind.i64 (fI r1 (Int.toNat i6) (5 : Nat)))]]) (fun i7 => Fn14 m (fS r1 (Int.toNat i6) (0 : Nat)) (fR r1 (Int.toNat i6) (1 : Nat)) (fI r1 (Int.toNat i6) (2 : Nat)) (fI r1 (Int.toNat i6) (3 : Nat)) (fR r1 (Int.toNat i6) (4 : Nat)) (fI r1 (Int.toNat i6) (5 : Nat)) i3 (fun b8 i9 => Fn16 m i3 (fun i10 => Fn15 m ([[F.lit (Value.int IntKind.i64 i7)], [F.lit (Value.int IntKind.i64 i10)]]) (fun i11 => bif i9 != i11 then (kx0 false i6) else
 (bif i11 == (0 : Int) then (Fn17 m (fS r1 (Int.toNat i6) (0 : Nat)) (fR r1 (Int.toNat i6) (1 : Nat)) (fI r1 (Int.toNat i6) (2 : Nat)) (fI r1 (Int.toNat i6) (3 : Nat)) (fR r1 (Int.toNat i6) (4 : Nat)) (fI r1 (Int.toNat i6) (5 : Nat)) i3 (fun b12 => bif !b8 == b12 then (kx0 false i6) else
 (Jn3_16 m (fun b13 => kx0 b13 i6) (REC (IntKind.wrap IntKind.i64 (i6 + (1 : Int)))) b0 r1 r2 i3 (fS r1 (Int.toNat i6) (0 : Nat)) (fR r1 (Int.toNat i6) (1 : Nat)) (fI r1 (Int.toNat i6) (2 : Nat)) (fI r1 (Int.toNat i6) (3 : Nat)) (fR r1 (Int.toNat i6) (4 : Nat)) (fI r1 (Int.toNat i6) (5 : Nat)) i7 n4 i5 i6))) else
 (bif !b8 == false then (kx0 false i6) else
 (Jn3_16 m (fun b14 => kx0 b14 i6) (REC (IntKind.wrap IntKind.i64 (i6 + (1 : Int)))) b0 r1 r2 i3 (fS r1 (Int.toNat i6) (0 : Nat)) (fR r1 (Int.toNat i6) (1 : Nat)) (fI r1 (Int.toNat i6) (2 : Nat)) (fI r1 (Int.toNat i6) (3 : Nat)) (fR r1 (Int.toNat i6) (4 : Nat)) (fI r1 (Int.toNat i6) (5 : Nat)) i7 n4 i5 i6)))))))) else
 (none)) else
 (kx1 i6)
noncomputable def Lp3_7 {R : Type} (m : Nat) (kx0 : Bool → Int → Option R) (kx1 : Int → Option R) (b0 : Bool) (r1 r2 : Abs.Rows) (i3 : Int) (n4 : Nat) (i5 : Int) : Nat → Int → Option R
 | 0, _ => none
 | n + 1, i6 => Lp3_7_step m kx0 kx1 b0 r1 r2 i3 n4 i5 (Lp3_7 m kx0 kx1 b0 r1 r2 i3 n4 i5 n) i6
noncomputable def ELp3_7 (m : Nat) (R : Type) : Nat → List V → (Ex → List V → Option R) → Option R
 | 0, _, _ => none
 | n + 1, vs, k => match vs with
  | [.f (.lit (.bool b0)), .own [.str, .lst [.str, .int .i64], .int .i64, .int .i64, .lst [.int .i64, .int .i64], .int .i64] r1, .own [.str, .str, .int .i64, .int .i64, .int .i64, .int .i64, .int .i64, .bool] r2, .f (.lit (.int .i64 i3)), .undef, .undef, .lent { slot := (4 : Nat), leaf := none } 6 n4, .f (.lit (.int .i64 i5)), .f (.lit (.int .i64 i6)), .undef] => Lp3_7_step m (fun b15 i16 => k Ex.ret (W62 b15 r1 r2 i3 n4 i5 i16)) (fun i17 => k (Ex.exit (0 : Nat)) (W62 b0 r1 r2 i3 n4 i5 i17)) b0 r1 r2 i3 n4 i5 (fun i6 => ELp3_7 m R n (W62 b0 r1 r2 i3 n4 i5 i6) k) i6
  | _ => none
noncomputable def brLp3_7 (m : Nat) (L : LTbl) (R : Type) (vs : List V) (k : Ex → List V → Option R) : Option R := match vs with
 | [.f (.lit (.bool b0)), .own [.str, .lst [.str, .int .i64], .int .i64, .int .i64, .lst [.int .i64, .int .i64], .int .i64] r1, .own [.str, .str, .int .i64, .int .i64, .int .i64, .int .i64, .int .i64, .bool] r2, .f (.lit (.int .i64 i3)), .undef, .undef, .lent { slot := (4 : Nat), leaf := none } 6 n4, .f (.lit (.int .i64 i5)), .f (.lit (.int .i64 i6)), .undef] => Lp3_7 m (fun b15 i16 => k Ex.ret (W62 b15 r1 r2 i3 n4 i5 i16)) (fun i17 => k (Ex.exit (0 : Nat)) (W62 b0 r1 r2 i3 n4 i5 i17)) b0 r1 r2 i3 n4 i5 m i6
 | _ => L R 3 7 vs k
set_option maxRecDepth 100000 in
theorem stLp3_7 (m n : Nat) (R : Type) (b0 : Bool) (r1 r2 : Abs.Rows) (i3 : Int) (n4 : Nat) (i5 i6 : Int) (k : Ex → List V → Option R) : codeK Tryd.prog H (T50 m) 3 (L33 m) 8 (loopBody Tryd.prog 3 7) (mkEnv [2, 4, 5, 7, 23, 25, 50, 51, 52, 119] (W62 b0 r1 r2 i3 n4 i5 i6) 0 (H.len 3)) (fun e env' => match e with | .normal => ELp3_7 m R n (vals [2, 4, 5, 7, 23, 25, 50, 51, 52, 119] env') k | e => k e (vals [2, 4, 5, 7, 23, 25, 50, 51, 52, 119] env')) = Lp3_7_step m (fun b15 i16 => k Ex.ret (W62 b15 r1 r2 i3 n4 i5 i16)) (fun i17 => k (Ex.exit (0 : Nat)) (W62 b0 r1 r2 i3 n4 i5 i17)) b0 r1 r2 i3 n4 i5 (fun i6 => ELp3_7 m R n (W62 b0 r1 r2 i3 n4 i5 i6) k) i6 := by kernel_rfl
theorem eqLp3_7 (m : Nat) (R : Type) (b0 : Bool) (r1 r2 : Abs.Rows) (i3 : Int) (n4 : Nat) (i5 : Int) (k : Ex → List V → Option R) : ∀ (n : Nat) (i6 : Int), ELp3_7 m R n (W62 b0 r1 r2 i3 n4 i5 i6) k = Lp3_7 m (fun b15 i16 => k Ex.ret (W62 b15 r1 r2 i3 n4 i5 i16)) (fun i17 => k (Ex.exit (0 : Nat)) (W62 b0 r1 r2 i3 n4 i5 i17)) b0 r1 r2 i3 n4 i5 n i6
 | 0, _ => rfl
 | n + 1, i6 => by
  simp only [ELp3_7, Lp3_7, W62]
  congr 1
  funext i6
  exact eqLp3_7 m R b0 r1 r2 i3 n4 i5 k n i6
noncomputable def L34 (m : Nat) : LTbl := addB 3 7 (brLp3_7 m (L33 m)) (L33 m)
theorem okL34 (m : Nat) : LTOk Tryd.prog H (L34 m) := addB_ok (okT50 m) hM (okL33 m) (l := [2, 4, 5, 7, 23, 25, 50, 51, 52, 119]) (by kernel_rfl) (by kernel_rfl) m (fun R n vs k => ELp3_7 m R n vs k) (fun R vs k => rfl) (fun R n vs k x h => by
   simp only [ELp3_7] at h
   split at h
   ·exact (stLp3_7 m n R _ _ _ _ _ _ _ k).trans h
   ·cases h) fun R vs k x h => by
  unfold brLp3_7 at h
  split at h
  ·exact .inl ((eqLp3_7 m R _ _ _ _ _ _ k m _).trans h)
  ·exact .inr h

/-- - -/
noncomputable def Fn20 {R : Type} (m : Nat) : (Bool → Option R) → Option R := match m with
 | 0 => fun _ => none
 | m + 1 => fun  k =>
 Fn14 m ({ data := #[(97 : UInt8)] }) rows0 ((0 : Int)) ((5 : Int)) rows0 ((0 : Int)) ((4 : Int)) (fun b0 i1 => bif i1 == (0 : Int) then (k b0) else
 (k false))
noncomputable def brFn20 (m : Nat) (T : Tbl) (R : Type) (vs : List V) (k : V → List V → Option R) : Option R := match vs with
 | [] => Fn20 m  (fun b2 => k (V.f (F.lit (Value.bool b2))) [])
 | _ => T R 20 vs k
set_option maxRecDepth 100000 in
theorem evFn20 (m : Nat) (R : Type)  (k : V → List V → Option R) : runK Tryd.prog H (T50 m) (L34 m) 20 [] k = Fn20 (m + 1)  (fun b2 => k (V.f (F.lit (Value.bool b2))) []) := by kernel_rfl
noncomputable def T51 (m : Nat) : Tbl := addT 20 (brFn20 m (T50 m)) (T50 m)
theorem okT51 (m : Nat) : TblOk Tryd.prog (T51 m) := addT_ok (okT50 m) fun R vs k x h => by
 unfold brFn20 at h
 split at h
 ·cases m with
  | zero => cases h
  | succ m => exact runK_some (okT50 m) hM (okL34 m) ((evFn20 m R k).trans h)
 ·exact okT50 m R 20 _ k x h

abbrev W63 (a0 : Bool) (a1 a2 : Abs.Rows) (a3 : Int) : List V := [.f (.lit (.bool a0)), .own [.str, .lst [.str, .int .i64], .int .i64, .int .i64, .lst [.int .i64, .int .i64], .int .i64] a1, .own [.str, .str, .int .i64, .int .i64, .int .i64, .int .i64, .int .i64, .bool] a2, .f (.lit (.int .i64 a3)), .undef, .undef, .undef]
/-- - -/
noncomputable def Jn3_5 {R : Type} (m : Nat) (kx0 : Bool → Option R) (b0 : Bool) (r1 r2 : Abs.Rows) (i3 : Int) : Option R :=
 Lp3_7 m (fun b4 i5 => kx0 b4) (fun i6 => Fn20 m  (fun b7 => kx0 b7)) b0 r1 r2 i3 (List.length r1) ((↑(List.length r1) : Int)) m ((0 : Int))
noncomputable def brJn3_5 (m : Nat) (L : LTbl) (R : Type) (vs : List V) (k : Ex → List V → Option R) : Option R := match vs with
 | [.f (.lit (.bool b0)), .own [.str, .lst [.str, .int .i64], .int .i64, .int .i64, .lst [.int .i64, .int .i64], .int .i64] r1, .own [.str, .str, .int .i64, .int .i64, .int .i64, .int .i64, .int .i64, .bool] r2, .f (.lit (.int .i64 i3)), .undef, .undef, .undef] => Jn3_5 m (fun b8 => k Ex.ret (W63 b8 r1 r2 i3)) b0 r1 r2 i3
 | _ => L R 3 5 vs k
set_option maxRecDepth 100000 in
theorem evJn3_5 (m : Nat) (R : Type) (b0 : Bool) (r1 r2 : Abs.Rows) (i3 : Int) (k : Ex → List V → Option R) : codeK Tryd.prog H (T51 m) 3 (L34 m) 6 (loopBody Tryd.prog 3 5) (mkEnv [2, 4, 5, 7, 23, 25, 119] (W63 b0 r1 r2 i3) 0 (H.len 3)) (fun e env' => k e (vals [2, 4, 5, 7, 23, 25, 119] env')) = Jn3_5 m (fun b8 => k Ex.ret (W63 b8 r1 r2 i3)) b0 r1 r2 i3 := by kernel_rfl
noncomputable def L35 (m : Nat) : LTbl := addJ 3 5 (brJn3_5 m (L34 m)) (L34 m)
theorem okL35 (m : Nat) : LTOk Tryd.prog H (L35 m) := addJ_ok (okT51 m) hM (okL34 m) (l := [2, 4, 5, 7, 23, 25, 119]) (by kernel_rfl) (by kernel_rfl) fun R vs k x h => by
  unfold brJn3_5 at h
  split at h
  ·exact .inl ((evJn3_5 m R _ _ _ _ k).trans h)
  ·exact .inr h

abbrev W64 (a0 : Abs.Rows) : List V := [.f (.lst [.int .i64] a0)]
/-- - -/
noncomputable def Fn3 {R : Type} (m : Nat) : Abs.Rows → (Bool → Option R) → Option R := match m with
 | 0 => fun _ _ => none
 | m + 1 => fun r0 k =>
 Fn4 m r0 ((0 : Int)) (fun r1 i2 => Fn5 m r0 i2 ((6 : Int)) (fun r3 i4 => Fn6 m r0 i4 (fun i5 i6 i7 i8 => Fn7 m r0 i8 ([[F.lit (Value.int IntKind.i64 (0 : Int))], [F.lit (Value.int IntKind.i64 (10 : Int))], [F.lit (Value.int IntKind.i64 (15 : Int))], [F.lit (Value.int IntKind.i64 (30 : Int))], [F.lit (Value.int IntKind.i64 (60 : Int))], [F.lit (Value.int IntKind.i64 (89 : Int))], [F.lit (Value.int IntKind.i64 (90 : Int))], [F.lit (Value.int IntKind.i64 (200 : Int))], [F.lit (Value.int IntKind.i64 (-1 : Int))]]) (fun i9 i10 => Fn8 m r1 (fun i11 => Fn9 m r1 (fun i12 => bif i11 != i12 then (k false) else
 (Fn10 m r3 (fun i13 => Fn11 m r3 (fun i14 => bif i13 != i14 then (k false) else
 (Fn12 m i5 i6 i7 (fun i15 => Fn13 m i5 i6 i7 (fun i16 => bif i15 != i16 then (k false) else
 (Jn3_5 m (fun b17 => k b17) false r1 r3 i9)))))))))))))
noncomputable def brFn3 (m : Nat) (T : Tbl) (R : Type) (vs : List V) (k : V → List V → Option R) : Option R := match vs with
 | [.f (.lst [.int .i64] r0)] => Fn3 m r0 (fun b18 => k (V.f (F.lit (Value.bool b18))) W18)
 | _ => T R 3 vs k
set_option maxRecDepth 100000 in
theorem evFn3 (m : Nat) (R : Type) (r0 : Abs.Rows) (k : V → List V → Option R) : runK Tryd.prog H (T51 m) (L35 m) 3 (W64 r0) k = Fn3 (m + 1) r0 (fun b18 => k (V.f (F.lit (Value.bool b18))) W18) := by kernel_rfl
noncomputable def T52 (m : Nat) : Tbl := addT 3 (brFn3 m (T51 m)) (T51 m)
theorem okT52 (m : Nat) : TblOk Tryd.prog (T52 m) := addT_ok (okT51 m) fun R vs k x h => by
 unfold brFn3 at h
 split at h
 ·cases m with
  | zero => cases h
  | succ m => exact runK_some (okT51 m) hM (okL35 m) ((evFn3 m R _ k).trans h)
 ·exact okT51 m R 3 _ k x h

end Go.Proofs.YtgpdmhkakbaoeaaDoor.Med
end
