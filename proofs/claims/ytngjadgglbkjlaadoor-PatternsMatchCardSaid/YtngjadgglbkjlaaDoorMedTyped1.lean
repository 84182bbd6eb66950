/- A part of the proofs of the seat YtngjadgglbkjlaaDoor: no statement of the seat stands here. -/
import Derived.Test.YtngjadgglbkjlaaDoorMedTyped0
section
set_option linter.unusedVariables false
set_option linter.unusedSimpArgs false
set_option linter.unusedSectionVars false
namespace Go.Proofs.YtngjadgglbkjlaaDoor.Med
open Go Go.Abs Go.Proofs
set_option linter.unusedVariables false
/-- a round of a loop of slices.Compare[[]int,int] -/
def Lp53_2_step {R : Type} (m : Nat) (kx0 : Int → Int → Option R) (kx1 : Int → Option R) (r695 : Abs.Rows) (r696 : Abs.Rows) (i697 : Int) (r698 : Abs.Rows) (i699 : Int) (REC : Int → Option R) (i700 : Int) : Option R :=
  bif decide (i700 < i699) then (bif decide ((0 : Int) ≤ i700 ∧ i700 < (↑(List.length r698) : Int)) then (bif decide (i700 ≥ (↑(List.length r696) : Int)) then (kx0 ((1 : Int)) i700) else
  (bif decide ((0 : Int) ≤ i700 ∧ i700 < (↑(List.length r696) : Int)) then (Fn88 m (fI r698 (Int.toNat i700) (0 : Nat)) (fI r696 (Int.toNat i700) (0 : Nat)) (fun i701 => bif i701 != (0 : Int) then (kx0 i701 i700) else
  (REC (IntKind.wrap IntKind.i64 (i700 + (1 : Int)))))) else
  (none))) else
  (none)) else
  (kx1 i700)
def Lp53_2 {R : Type} (m : Nat) (kx0 : Int → Int → Option R) (kx1 : Int → Option R) (r695 : Abs.Rows) (r696 : Abs.Rows) (i697 : Int) (r698 : Abs.Rows) (i699 : Int) : Nat → Int → Option R
  | 0, _ => none
  | n + 1, i700 => Lp53_2_step m kx0 kx1 r695 r696 i697 r698 i699 (Lp53_2 m kx0 kx1 r695 r696 i697 r698 i699 n) i700
def ELp53_2 (m : Nat) (R : Type) : Nat → List V → (Ex → List V → Option R) → Option R
  | 0, _, _ => none
  | n + 1, vs, k => match vs with
    | [V.f (F.lst [LT.int IntKind.i64] r695), V.f (F.lst [LT.int IntKind.i64] r696), V.f (F.lit (Value.int IntKind.i64 i697)), V.f (F.lst [LT.int IntKind.i64] r698), V.f (F.lit (Value.int IntKind.i64 i699)), V.f (F.lit (Value.int IntKind.i64 i700)), V.undef, V.undef] => Lp53_2_step m (fun i702 i703 => k Ex.ret [V.f (F.lst [LT.int IntKind.i64] r695), V.f (F.lst [LT.int IntKind.i64] r696), V.f (F.lit (Value.int IntKind.i64 i702)), V.f (F.lst [LT.int IntKind.i64] r698), V.f (F.lit (Value.int IntKind.i64 i699)), V.f (F.lit (Value.int IntKind.i64 i703)), V.undef, V.undef]) (fun i704 => k (Ex.exit (0 : Nat)) [V.f (F.lst [LT.int IntKind.i64] r695), V.f (F.lst [LT.int IntKind.i64] r696), V.f (F.lit (Value.int IntKind.i64 i697)), V.f (F.lst [LT.int IntKind.i64] r698), V.f (F.lit (Value.int IntKind.i64 i699)), V.f (F.lit (Value.int IntKind.i64 i704)), V.undef, V.undef]) r695 r696 i697 r698 i699 (fun i700 => ELp53_2 m R n [V.f (F.lst [LT.int IntKind.i64] r695), V.f (F.lst [LT.int IntKind.i64] r696), V.f (F.lit (Value.int IntKind.i64 i697)), V.f (F.lst [LT.int IntKind.i64] r698), V.f (F.lit (Value.int IntKind.i64 i699)), V.f (F.lit (Value.int IntKind.i64 i700)), V.undef, V.undef] k) i700
    | _ => none
def brLp53_2 (m : Nat) (L : LTbl) (R : Type) (vs : List V) (k : Ex → List V → Option R) : Option R := match vs with
  | [V.f (F.lst [LT.int IntKind.i64] r695), V.f (F.lst [LT.int IntKind.i64] r696), V.f (F.lit (Value.int IntKind.i64 i697)), V.f (F.lst [LT.int IntKind.i64] r698), V.f (F.lit (Value.int IntKind.i64 i699)), V.f (F.lit (Value.int IntKind.i64 i700)), V.undef, V.undef] => Lp53_2 m (fun i702 i703 => k Ex.ret [V.f (F.lst [LT.int IntKind.i64] r695), V.f (F.lst [LT.int IntKind.i64] r696), V.f (F.lit (Value.int IntKind.i64 i702)), V.f (F.lst [LT.int IntKind.i64] r698), V.f (F.lit (Value.int IntKind.i64 i699)), V.f (F.lit (Value.int IntKind.i64 i703)), V.undef, V.undef]) (fun i704 => k (Ex.exit (0 : Nat)) [V.f (F.lst [LT.int IntKind.i64] r695), V.f (F.lst [LT.int IntKind.i64] r696), V.f (F.lit (Value.int IntKind.i64 i697)), V.f (F.lst [LT.int IntKind.i64] r698), V.f (F.lit (Value.int IntKind.i64 i699)), V.f (F.lit (Value.int IntKind.i64 i704)), V.undef, V.undef]) r695 r696 i697 r698 i699 m i700
  | _ => L R 53 2 vs k
set_option maxRecDepth 100000 in
theorem stLp53_2 (m n : Nat) (R : Type) (r695 : Abs.Rows) (r696 : Abs.Rows) (i697 : Int) (r698 : Abs.Rows) (i699 : Int) (i700 : Int) (k : Ex → List V → Option R) : codeK Tryd.prog H (T39 m) 53 (L30 m) 3 (loopBody Tryd.prog 53 2) (mkEnv [0, 1, 4, 9, 10, 11, 36, 37] [V.f (F.lst [LT.int IntKind.i64] r695), V.f (F.lst [LT.int IntKind.i64] r696), V.f (F.lit (Value.int IntKind.i64 i697)), V.f (F.lst [LT.int IntKind.i64] r698), V.f (F.lit (Value.int IntKind.i64 i699)), V.f (F.lit (Value.int IntKind.i64 i700)), V.undef, V.undef] 0 (H.len 53)) (fun e env' => match e with | .normal => ELp53_2 m R n (vals [0, 1, 4, 9, 10, 11, 36, 37] env') k | e => k e (vals [0, 1, 4, 9, 10, 11, 36, 37] env')) = Lp53_2_step m (fun i702 i703 => k Ex.ret [V.f (F.lst [LT.int IntKind.i64] r695), V.f (F.lst [LT.int IntKind.i64] r696), V.f (F.lit (Value.int IntKind.i64 i702)), V.f (F.lst [LT.int IntKind.i64] r698), V.f (F.lit (Value.int IntKind.i64 i699)), V.f (F.lit (Value.int IntKind.i64 i703)), V.undef, V.undef]) (fun i704 => k (Ex.exit (0 : Nat)) [V.f (F.lst [LT.int IntKind.i64] r695), V.f (F.lst [LT.int IntKind.i64] r696), V.f (F.lit (Value.int IntKind.i64 i697)), V.f (F.lst [LT.int IntKind.i64] r698), V.f (F.lit (Value.int IntKind.i64 i699)), V.f (F.lit (Value.int IntKind.i64 i704)), V.undef, V.undef]) r695 r696 i697 r698 i699 (fun i700 => ELp53_2 m R n [V.f (F.lst [LT.int IntKind.i64] r695), V.f (F.lst [LT.int IntKind.i64] r696), V.f (F.lit (Value.int IntKind.i64 i697)), V.f (F.lst [LT.int IntKind.i64] r698), V.f (F.lit (Value.int IntKind.i64 i699)), V.f (F.lit (Value.int IntKind.i64 i700)), V.undef, V.undef] k) i700 := by kernel_rfl
theorem eqLp53_2 (m : Nat) (R : Type) (r695 : Abs.Rows) (r696 : Abs.Rows) (i697 : Int) (r698 : Abs.Rows) (i699 : Int) (k : Ex → List V → Option R) : ∀ (n : Nat) (i700 : Int), ELp53_2 m R n [V.f (F.lst [LT.int IntKind.i64] r695), V.f (F.lst [LT.int IntKind.i64] r696), V.f (F.lit (Value.int IntKind.i64 i697)), V.f (F.lst [LT.int IntKind.i64] r698), V.f (F.lit (Value.int IntKind.i64 i699)), V.f (F.lit (Value.int IntKind.i64 i700)), V.undef, V.undef] k = Lp53_2 m (fun i702 i703 => k Ex.ret [V.f (F.lst [LT.int IntKind.i64] r695), V.f (F.lst [LT.int IntKind.i64] r696), V.f (F.lit (Value.int IntKind.i64 i702)), V.f (F.lst [LT.int IntKind.i64] r698), V.f (F.lit (Value.int IntKind.i64 i699)), V.f (F.lit (Value.int IntKind.i64 i703)), V.undef, V.undef]) (fun i704 => k (Ex.exit (0 : Nat)) [V.f (F.lst [LT.int IntKind.i64] r695), V.f (F.lst [LT.int IntKind.i64] r696), V.f (F.lit (Value.int IntKind.i64 i697)), V.f (F.lst [LT.int IntKind.i64] r698), V.f (F.lit (Value.int IntKind.i64 i699)), V.f (F.lit (Value.int IntKind.i64 i704)), V.undef, V.undef]) r695 r696 i697 r698 i699 n i700
  | 0, _ => rfl
  | n + 1, i700 => by
    simp only [ELp53_2, Lp53_2]
    congr 1
    funext i700
    exact eqLp53_2 m R r695 r696 i697 r698 i699 k n i700
def L31 (m : Nat) : LTbl := addB 53 2 (brLp53_2 m (L30 m)) (L30 m)
theorem okL31 (m : Nat) : LTOk Tryd.prog H (L31 m) := addB_ok (okT39 m) hM (okL30 m) (l := [0, 1, 4, 9, 10, 11, 36, 37]) (by kernel_rfl) (by kernel_rfl) m (fun R n vs k => ELp53_2 m R n vs k) (fun R vs k => rfl) (fun R n vs k x h => by
      simp only [ELp53_2] at h
      split at h
      · exact (stLp53_2 m n R _ _ _ _ _ _ k).trans h
      · cases h) fun R vs k x h => by
    unfold brLp53_2 at h
    split at h
    · exact .inl ((eqLp53_2 m R _ _ _ _ _ k m _).trans h)
    · exact .inr h

/-- slices.Compare[[]int,int] -/
def Fn53 {R : Type} (m : Nat) : Abs.Rows → Abs.Rows → (Int → Option R) → Option R := match m with
  | 0 => fun _ _ _ => none
  | m + 1 => fun r693 r694 k =>
  Lp53_2 m (fun i705 i706 => k i705) (fun i707 => bif decide ((↑(List.length r693) : Int) < (↑(List.length r694) : Int)) then (k ((-1 : Int))) else
  (k ((0 : Int)))) r693 r694 ((0 : Int)) r693 ((↑(List.length r693) : Int)) m ((0 : Int))
def brFn53 (m : Nat) (T : Tbl) (R : Type) (vs : List V) (k : V → List V → Option R) : Option R := match vs with
  | [V.f (F.lst [LT.int IntKind.i64] r693), V.f (F.lst [LT.int IntKind.i64] r694)] => Fn53 m r693 r694 (fun i708 => k (V.f (F.lit (Value.int IntKind.i64 i708))) [V.undef, V.undef])
  | _ => T R 53 vs k
set_option maxRecDepth 100000 in
theorem evFn53 (m : Nat) (R : Type) (r693 : Abs.Rows) (r694 : Abs.Rows) (k : V → List V → Option R) : runK Tryd.prog H (T39 m) (L31 m) 53 [V.f (F.lst [LT.int IntKind.i64] r693), V.f (F.lst [LT.int IntKind.i64] r694)] k = Fn53 (m + 1) r693 r694 (fun i708 => k (V.f (F.lit (Value.int IntKind.i64 i708))) [V.undef, V.undef]) := by kernel_rfl
def T40 (m : Nat) : Tbl := addT 53 (brFn53 m (T39 m)) (T39 m)
theorem okT40 (m : Nat) : TblOk Tryd.prog (T40 m) := addT_ok (okT39 m) fun R vs k x h => by
  unfold brFn53 at h
  split at h
  · cases m with
    | zero => cases h
    | succ m => exact runK_some (okT39 m) hM (okL31 m) ((evFn53 m R _ _ k).trans h)
  · exact okT39 m R 53 _ k x h

/-- hookflash/flashref2.BeforeOf$1 -/
def Fn52 {R : Type} (m : Nat) : Abs.Rows → Abs.Rows → (Int → Option R) → Option R := match m with
  | 0 => fun _ _ _ => none
  | m + 1 => fun r691 r692 k =>
  Fn53 m r691 r692 (fun i709 => k i709)
def brFn52 (m : Nat) (T : Tbl) (R : Type) (vs : List V) (k : V → List V → Option R) : Option R := match vs with
  | [V.f (F.lst [LT.int IntKind.i64] r691), V.f (F.lst [LT.int IntKind.i64] r692)] => Fn52 m r691 r692 (fun i710 => k (V.f (F.lit (Value.int IntKind.i64 i710))) [V.undef, V.undef])
  | _ => T R 52 vs k
set_option maxRecDepth 100000 in
theorem evFn52 (m : Nat) (R : Type) (r691 : Abs.Rows) (r692 : Abs.Rows) (k : V → List V → Option R) : runK Tryd.prog H (T40 m) (L31 m) 52 [V.f (F.lst [LT.int IntKind.i64] r691), V.f (F.lst [LT.int IntKind.i64] r692)] k = Fn52 (m + 1) r691 r692 (fun i710 => k (V.f (F.lit (Value.int IntKind.i64 i710))) [V.undef, V.undef]) := by kernel_rfl
def T41 (m : Nat) : Tbl := addT 52 (brFn52 m (T40 m)) (T40 m)
theorem okT41 (m : Nat) : TblOk Tryd.prog (T41 m) := addT_ok (okT40 m) fun R vs k x h => by
  unfold brFn52 at h
  split at h
  · cases m with
    | zero => cases h
    | succ m => exact runK_some (okT40 m) hM (okL31 m) ((evFn52 m R _ _ k).trans h)
  · exact okT40 m R 52 _ k x h

/-- a round of a loop of slices.CompareFunc[[][]int,[][]int,[]int,[]int] -/
def Lp50_2_step {R : Type} (m : Nat) (kx0 : Int → Int → Option R) (kx1 : Int → Option R) (r685 : Abs.Rows) (r686 : Abs.Rows) (i687 : Int) (r688 : Abs.Rows) (i689 : Int) (REC : Int → Option R) (i690 : Int) : Option R :=
  bif decide (i690 < i689) then (bif decide ((0 : Int) ≤ i690 ∧ i690 < (↑(List.length r688) : Int)) then (bif decide (i690 ≥ (↑(List.length r686) : Int)) then (kx0 ((1 : Int)) i690) else
  (bif decide ((0 : Int) ≤ i690 ∧ i690 < (↑(List.length r686) : Int)) then (Fn52 m (fR r688 (Int.toNat i690) (0 : Nat)) (fR r686 (Int.toNat i690) (0 : Nat)) (fun i711 => bif i711 != (0 : Int) then (kx0 i711 i690) else
  (REC (IntKind.wrap IntKind.i64 (i690 + (1 : Int)))))) else
  (none))) else
  (none)) else
  (kx1 i690)
def Lp50_2 {R : Type} (m : Nat) (kx0 : Int → Int → Option R) (kx1 : Int → Option R) (r685 : Abs.Rows) (r686 : Abs.Rows) (i687 : Int) (r688 : Abs.Rows) (i689 : Int) : Nat → Int → Option R
  | 0, _ => none
  | n + 1, i690 => Lp50_2_step m kx0 kx1 r685 r686 i687 r688 i689 (Lp50_2 m kx0 kx1 r685 r686 i687 r688 i689 n) i690
def ELp50_2 (m : Nat) (R : Type) : Nat → List V → (Ex → List V → Option R) → Option R
  | 0, _, _ => none
  | n + 1, vs, k => match vs with
    | [V.bor [LT.lst [LT.int IntKind.i64]] r685, V.bor [LT.lst [LT.int IntKind.i64]] r686, V.clos (52 : Nat) [], V.f (F.lit (Value.int IntKind.i64 i687)), V.bor [LT.lst [LT.int IntKind.i64]] r688, V.f (F.lit (Value.int IntKind.i64 i689)), V.f (F.lit (Value.int IntKind.i64 i690)), V.undef, V.undef, V.undef] => Lp50_2_step m (fun i712 i713 => k Ex.ret [V.bor [LT.lst [LT.int IntKind.i64]] r685, V.bor [LT.lst [LT.int IntKind.i64]] r686, V.clos (52 : Nat) [], V.f (F.lit (Value.int IntKind.i64 i712)), V.bor [LT.lst [LT.int IntKind.i64]] r688, V.f (F.lit (Value.int IntKind.i64 i689)), V.f (F.lit (Value.int IntKind.i64 i713)), V.undef, V.undef, V.undef]) (fun i714 => k (Ex.exit (0 : Nat)) [V.bor [LT.lst [LT.int IntKind.i64]] r685, V.bor [LT.lst [LT.int IntKind.i64]] r686, V.clos (52 : Nat) [], V.f (F.lit (Value.int IntKind.i64 i687)), V.bor [LT.lst [LT.int IntKind.i64]] r688, V.f (F.lit (Value.int IntKind.i64 i689)), V.f (F.lit (Value.int IntKind.i64 i714)), V.undef, V.undef, V.undef]) r685 r686 i687 r688 i689 (fun i690 => ELp50_2 m R n [V.bor [LT.lst [LT.int IntKind.i64]] r685, V.bor [LT.lst [LT.int IntKind.i64]] r686, V.clos (52 : Nat) [], V.f (F.lit (Value.int IntKind.i64 i687)), V.bor [LT.lst [LT.int IntKind.i64]] r688, V.f (F.lit (Value.int IntKind.i64 i689)), V.f (F.lit (Value.int IntKind.i64 i690)), V.undef, V.undef, V.undef] k) i690
    | _ => none
def brLp50_2 (m : Nat) (L : LTbl) (R : Type) (vs : List V) (k : Ex → List V → Option R) : Option R := match vs with
  | [V.bor [LT.lst [LT.int IntKind.i64]] r685, V.bor [LT.lst [LT.int IntKind.i64]] r686, V.clos (52 : Nat) [], V.f (F.lit (Value.int IntKind.i64 i687)), V.bor [LT.lst [LT.int IntKind.i64]] r688, V.f (F.lit (Value.int IntKind.i64 i689)), V.f (F.lit (Value.int IntKind.i64 i690)), V.undef, V.undef, V.undef] => Lp50_2 m (fun i712 i713 => k Ex.ret [V.bor [LT.lst [LT.int IntKind.i64]] r685, V.bor [LT.lst [LT.int IntKind.i64]] r686, V.clos (52 : Nat) [], V.f (F.lit (Value.int IntKind.i64 i712)), V.bor [LT.lst [LT.int IntKind.i64]] r688, V.f (F.lit (Value.int IntKind.i64 i689)), V.f (F.lit (Value.int IntKind.i64 i713)), V.undef, V.undef, V.undef]) (fun i714 => k (Ex.exit (0 : Nat)) [V.bor [LT.lst [LT.int IntKind.i64]] r685, V.bor [LT.lst [LT.int IntKind.i64]] r686, V.clos (52 : Nat) [], V.f (F.lit (Value.int IntKind.i64 i687)), V.bor [LT.lst [LT.int IntKind.i64]] r688, V.f (F.lit (Value.int IntKind.i64 i689)), V.f (F.lit (Value.int IntKind.i64 i714)), V.undef, V.undef, V.undef]) r685 r686 i687 r688 i689 m i690
  | _ => L R 50 2 vs k
set_option maxRecDepth 100000 in
theorem stLp50_2 (m n : Nat) (R : Type) (r685 : Abs.Rows) (r686 : Abs.Rows) (i687 : Int) (r688 : Abs.Rows) (i689 : Int) (i690 : Int) (k : Ex → List V → Option R) : codeK Tryd.prog H (T41 m) 50 (L31 m) 3 (loopBody Tryd.prog 50 2) (mkEnv [0, 1, 2, 6, 11, 12, 13, 39, 40, 41] [V.bor [LT.lst [LT.int IntKind.i64]] r685, V.bor [LT.lst [LT.int IntKind.i64]] r686, V.clos (52 : Nat) [], V.f (F.lit (Value.int IntKind.i64 i687)), V.bor [LT.lst [LT.int IntKind.i64]] r688, V.f (F.lit (Value.int IntKind.i64 i689)), V.f (F.lit (Value.int IntKind.i64 i690)), V.undef, V.undef, V.undef] 0 (H.len 50)) (fun e env' => match e with | .normal => ELp50_2 m R n (vals [0, 1, 2, 6, 11, 12, 13, 39, 40, 41] env') k | e => k e (vals [0, 1, 2, 6, 11, 12, 13, 39, 40, 41] env')) = Lp50_2_step m (fun i712 i713 => k Ex.ret [V.bor [LT.lst [LT.int IntKind.i64]] r685, V.bor [LT.lst [LT.int IntKind.i64]] r686, V.clos (52 : Nat) [], V.f (F.lit (Value.int IntKind.i64 i712)), V.bor [LT.lst [LT.int IntKind.i64]] r688, V.f (F.lit (Value.int IntKind.i64 i689)), V.f (F.lit (Value.int IntKind.i64 i713)), V.undef, V.undef, V.undef]) (fun i714 => k (Ex.exit (0 : Nat)) [V.bor [LT.lst [LT.int IntKind.i64]] r685, V.bor [LT.lst [LT.int IntKind.i64]] r686, V.clos (52 : Nat) [], V.f (F.lit (Value.int IntKind.i64 i687)), V.bor [LT.lst [LT.int IntKind.i64]] r688, V.f (F.lit (Value.int IntKind.i64 i689)), V.f (F.lit (Value.int IntKind.i64 i714)), V.undef, V.undef, V.undef]) r685 r686 i687 r688 i689 (fun i690 => ELp50_2 m R n [V.bor [LT.lst [LT.int IntKind.i64]] r685, V.bor [LT.lst [LT.int IntKind.i64]] r686, V.clos (52 : Nat) [], V.f (F.lit (Value.int IntKind.i64 i687)), V.bor [LT.lst [LT.int IntKind.i64]] r688, V.f (F.lit (Value.int IntKind.i64 i689)), V.f (F.lit (Value.int IntKind.i64 i690)), V.undef, V.undef, V.undef] k) i690 := by kernel_rfl
theorem eqLp50_2 (m : Nat) (R : Type) (r685 : Abs.Rows) (r686 : Abs.Rows) (i687 : Int) (r688 : Abs.Rows) (i689 : Int) (k : Ex → List V → Option R) : ∀ (n : Nat) (i690 : Int), ELp50_2 m R n [V.bor [LT.lst [LT.int IntKind.i64]] r685, V.bor [LT.lst [LT.int IntKind.i64]] r686, V.clos (52 : Nat) [], V.f (F.lit (Value.int IntKind.i64 i687)), V.bor [LT.lst [LT.int IntKind.i64]] r688, V.f (F.lit (Value.int IntKind.i64 i689)), V.f (F.lit (Value.int IntKind.i64 i690)), V.undef, V.undef, V.undef] k = Lp50_2 m (fun i712 i713 => k Ex.ret [V.bor [LT.lst [LT.int IntKind.i64]] r685, V.bor [LT.lst [LT.int IntKind.i64]] r686, V.clos (52 : Nat) [], V.f (F.lit (Value.int IntKind.i64 i712)), V.bor [LT.lst [LT.int IntKind.i64]] r688, V.f (F.lit (Value.int IntKind.i64 i689)), V.f (F.lit (Value.int IntKind.i64 i713)), V.undef, V.undef, V.undef]) (fun i714 => k (Ex.exit (0 : Nat)) [V.bor [LT.lst [LT.int IntKind.i64]] r685, V.bor [LT.lst [LT.int IntKind.i64]] r686, V.clos (52 : Nat) [], V.f (F.lit (Value.int IntKind.i64 i687)), V.bor [LT.lst [LT.int IntKind.i64]] r688, V.f (F.lit (Value.int IntKind.i64 i689)), V.f (F.lit (Value.int IntKind.i64 i714)), V.undef, V.undef, V.undef]) r685 r686 i687 r688 i689 n i690
  | 0, _ => rfl
  | n + 1, i690 => by
    simp only [ELp50_2, Lp50_2]
    congr 1
    funext i690
    exact eqLp50_2 m R r685 r686 i687 r688 i689 k n i690
def L32 (m : Nat) : LTbl := addB 50 2 (brLp50_2 m (L31 m)) (L31 m)
theorem okL32 (m : Nat) : LTOk Tryd.prog H (L32 m) := addB_ok (okT41 m) hM (okL31 m) (l := [0, 1, 2, 6, 11, 12, 13, 39, 40, 41]) (by kernel_rfl) (by kernel_rfl) m (fun R n vs k => ELp50_2 m R n vs k) (fun R vs k => rfl) (fun R n vs k x h => by
      simp only [ELp50_2] at h
      split at h
      · exact (stLp50_2 m n R _ _ _ _ _ _ k).trans h
      · cases h) fun R vs k x h => by
    unfold brLp50_2 at h
    split at h
    · exact .inl ((eqLp50_2 m R _ _ _ _ _ k m _).trans h)
    · exact .inr h

/-- slices.CompareFunc[[][]int,[][]int,[]int,[]int] -/
def Fn50 {R : Type} (m : Nat) : Abs.Rows → Abs.Rows → (Int → Option R) → Option R := match m with
  | 0 => fun _ _ _ => none
  | m + 1 => fun r683 r684 k =>
  Lp50_2 m (fun i715 i716 => k i715) (fun i717 => bif decide ((↑(List.length r683) : Int) < (↑(List.length r684) : Int)) then (k ((-1 : Int))) else
  (k ((0 : Int)))) r683 r684 ((0 : Int)) r683 ((↑(List.length r683) : Int)) m ((0 : Int))
def brFn50 (m : Nat) (T : Tbl) (R : Type) (vs : List V) (k : V → List V → Option R) : Option R := match vs with
  | [V.bor [LT.lst [LT.int IntKind.i64]] r683, V.bor [LT.lst [LT.int IntKind.i64]] r684, V.clos (52 : Nat) []] => Fn50 m r683 r684 (fun i718 => k (V.f (F.lit (Value.int IntKind.i64 i718))) [V.undef, V.undef, V.undef])
  | _ => T R 50 vs k
set_option maxRecDepth 100000 in
theorem evFn50 (m : Nat) (R : Type) (r683 : Abs.Rows) (r684 : Abs.Rows) (k : V → List V → Option R) : runK Tryd.prog H (T41 m) (L32 m) 50 [V.bor [LT.lst [LT.int IntKind.i64]] r683, V.bor [LT.lst [LT.int IntKind.i64]] r684, V.clos (52 : Nat) []] k = Fn50 (m + 1) r683 r684 (fun i718 => k (V.f (F.lit (Value.int IntKind.i64 i718))) [V.undef, V.undef, V.undef]) := by kernel_rfl
def T42 (m : Nat) : Tbl := addT 50 (brFn50 m (T41 m)) (T41 m)
theorem okT42 (m : Nat) : TblOk Tryd.prog (T42 m) := addT_ok (okT41 m) fun R vs k x h => by
  unfold brFn50 at h
  split at h
  · cases m with
    | zero => cases h
    | succ m => exact runK_some (okT41 m) hM (okL32 m) ((evFn50 m R _ _ k).trans h)
  · exact okT41 m R 50 _ k x h

/-- hookflash/flashref2.BeforeOf -/
def Fn17 {R : Type} (m : Nat) : ByteArray → ByteArray → (Int → Option R) → Option R := match m with
  | 0 => fun _ _ _ => none
  | m + 1 => fun s647 s648 k =>
  Fn51 m s647 (fun r681 => Fn51 m s648 (fun r682 => Fn50 m r681 r682 (fun i719 => k i719)))
def brFn17 (m : Nat) (T : Tbl) (R : Type) (vs : List V) (k : V → List V → Option R) : Option R := match vs with
  | [V.f (F.lit (Value.string s647)), V.f (F.lit (Value.string s648))] => Fn17 m s647 s648 (fun i720 => k (V.f (F.lit (Value.int IntKind.i64 i720))) [V.undef, V.undef])
  | _ => T R 17 vs k
set_option maxRecDepth 100000 in
theorem evFn17 (m : Nat) (R : Type) (s647 : ByteArray) (s648 : ByteArray) (k : V → List V → Option R) : runK Tryd.prog H (T42 m) (L32 m) 17 [V.f (F.lit (Value.string s647)), V.f (F.lit (Value.string s648))] k = Fn17 (m + 1) s647 s648 (fun i720 => k (V.f (F.lit (Value.int IntKind.i64 i720))) [V.undef, V.undef]) := by kernel_rfl
def T43 (m : Nat) : Tbl := addT 17 (brFn17 m (T42 m)) (T42 m)
theorem okT43 (m : Nat) : TblOk Tryd.prog (T43 m) := addT_ok (okT42 m) fun R vs k x h => by
  unfold brFn17 at h
  split at h
  · cases m with
    | zero => cases h
    | succ m => exact runK_some (okT42 m) hM (okL32 m) ((evFn17 m R _ _ k).trans h)
  · exact okT42 m R 17 _ k x h

/-- hookflash/dialplan.CheckPattern -/
def Fn18 {R : Type} (m : Nat) : ByteArray → (Int → Option R) → Option R := match m with
  | 0 => fun _ _ => none
  | m + 1 => fun s733 k =>
  Fn39 m s733 (fun r734 i735 i736 => k i736)
def brFn18 (m : Nat) (T : Tbl) (R : Type) (vs : List V) (k : V → List V → Option R) : Option R := match vs with
  | [V.f (F.lit (Value.string s733))] => Fn18 m s733 (fun i737 => k (V.f (F.lit (Value.int IntKind.i64 i737))) [V.undef])
  | _ => T R 18 vs k
set_option maxRecDepth 100000 in
theorem evFn18 (m : Nat) (R : Type) (s733 : ByteArray) (k : V → List V → Option R) : runK Tryd.prog H (T43 m) (L32 m) 18 [V.f (F.lit (Value.string s733))] k = Fn18 (m + 1) s733 (fun i737 => k (V.f (F.lit (Value.int IntKind.i64 i737))) [V.undef]) := by kernel_rfl
def T44 (m : Nat) : Tbl := addT 18 (brFn18 m (T43 m)) (T43 m)
theorem okT44 (m : Nat) : TblOk Tryd.prog (T44 m) := addT_ok (okT43 m) fun R vs k x h => by
  unfold brFn18 at h
  split at h
  · cases m with
    | zero => cases h
    | succ m => exact runK_some (okT43 m) hM (okL32 m) ((evFn18 m R _ k).trans h)
  · exact okT43 m R 18 _ k x h

/-- a round of a loop of hookflash/flashref2.MatchesOf -/
def Lp19_6_step {R : Type} (m : Nat) (kx0 : Bool → Int → Option R) (kx1 : Int → Option R) (s744 : ByteArray) (b745 : Bool) (r746 : Abs.Rows) (i747 : Int) (r748 : Abs.Rows) (i749 : Int) (REC : Int → Option R) (i750 : Int) : Option R :=
  bif decide (i750 < i749) then (bif decide ((0 : Int) ≤ i750 ∧ i750 < (↑(List.length r748) : Int)) then (bif decide ((0 : Int) ≤ i750 ∧ i750 < (↑(ByteArray.size s744) : Int)) then (Fn42 m (fS r748 (Int.toNat i750) (0 : Nat)) ((↑(UInt8.toNat (Array.getD (ByteArray.data s744) (Int.toNat i750) (0 : UInt8))) : Int)) (fun i751 => bif decide (i751 < (0 : Int)) then (kx0 false i750) else
  (REC (IntKind.wrap IntKind.i64 (i750 + (1 : Int)))))) else
  (none)) else
  (none)) else
  (kx1 i750)
def Lp19_6 {R : Type} (m : Nat) (kx0 : Bool → Int → Option R) (kx1 : Int → Option R) (s744 : ByteArray) (b745 : Bool) (r746 : Abs.Rows) (i747 : Int) (r748 : Abs.Rows) (i749 : Int) : Nat → Int → Option R
  | 0, _ => none
  | n + 1, i750 => Lp19_6_step m kx0 kx1 s744 b745 r746 i747 r748 i749 (Lp19_6 m kx0 kx1 s744 b745 r746 i747 r748 i749 n) i750
def ELp19_6 (m : Nat) (R : Type) : Nat → List V → (Ex → List V → Option R) → Option R
  | 0, _, _ => none
  | n + 1, vs, k => match vs with
    | [V.f (F.lit (Value.string s744)), V.f (F.lit (Value.bool b745)), V.obj [V.f (F.lst [LT.str] r746), V.f (F.lit (Value.int IntKind.u8 i747))], V.ref (5 : Nat) (0 : Nat), V.f (F.lst [LT.str] r748), V.f (F.lit (Value.int IntKind.i64 i749)), V.f (F.lit (Value.int IntKind.i64 i750)), V.undef, V.undef] => Lp19_6_step m (fun b752 i753 => k Ex.ret [V.f (F.lit (Value.string s744)), V.f (F.lit (Value.bool b752)), V.obj [V.f (F.lst [LT.str] r746), V.f (F.lit (Value.int IntKind.u8 i747))], V.ref (5 : Nat) (0 : Nat), V.f (F.lst [LT.str] r748), V.f (F.lit (Value.int IntKind.i64 i749)), V.f (F.lit (Value.int IntKind.i64 i753)), V.undef, V.undef]) (fun i754 => k (Ex.exit (0 : Nat)) [V.f (F.lit (Value.string s744)), V.f (F.lit (Value.bool b745)), V.obj [V.f (F.lst [LT.str] r746), V.f (F.lit (Value.int IntKind.u8 i747))], V.ref (5 : Nat) (0 : Nat), V.f (F.lst [LT.str] r748), V.f (F.lit (Value.int IntKind.i64 i749)), V.f (F.lit (Value.int IntKind.i64 i754)), V.undef, V.undef]) s744 b745 r746 i747 r748 i749 (fun i750 => ELp19_6 m R n [V.f (F.lit (Value.string s744)), V.f (F.lit (Value.bool b745)), V.obj [V.f (F.lst [LT.str] r746), V.f (F.lit (Value.int IntKind.u8 i747))], V.ref (5 : Nat) (0 : Nat), V.f (F.lst [LT.str] r748), V.f (F.lit (Value.int IntKind.i64 i749)), V.f (F.lit (Value.int IntKind.i64 i750)), V.undef, V.undef] k) i750
    | _ => none
def brLp19_6 (m : Nat) (L : LTbl) (R : Type) (vs : List V) (k : Ex → List V → Option R) : Option R := match vs with
  | [V.f (F.lit (Value.string s744)), V.f (F.lit (Value.bool b745)), V.obj [V.f (F.lst [LT.str] r746), V.f (F.lit (Value.int IntKind.u8 i747))], V.ref (5 : Nat) (0 : Nat), V.f (F.lst [LT.str] r748), V.f (F.lit (Value.int IntKind.i64 i749)), V.f (F.lit (Value.int IntKind.i64 i750)), V.undef, V.undef] => Lp19_6 m (fun b752 i753 => k Ex.ret [V.f (F.lit (Value.string s744)), V.f (F.lit (Value.bool b752)), V.obj [V.f (F.lst [LT.str] r746), V.f (F.lit (Value.int IntKind.u8 i747))], V.ref (5 : Nat) (0 : Nat), V.f (F.lst [LT.str] r748), V.f (F.lit (Value.int IntKind.i64 i749)), V.f (F.lit (Value.int IntKind.i64 i753)), V.undef, V.undef]) (fun i754 => k (Ex.exit (0 : Nat)) [V.f (F.lit (Value.string s744)), V.f (F.lit (Value.bool b745)), V.obj [V.f (F.lst [LT.str] r746), V.f (F.lit (Value.int IntKind.u8 i747))], V.ref (5 : Nat) (0 : Nat), V.f (F.lst [LT.str] r748), V.f (F.lit (Value.int IntKind.i64 i749)), V.f (F.lit (Value.int IntKind.i64 i754)), V.undef, V.undef]) s744 b745 r746 i747 r748 i749 m i750
  | _ => L R 19 6 vs k
set_option maxRecDepth 100000 in
theorem stLp19_6 (m n : Nat) (R : Type) (s744 : ByteArray) (b745 : Bool) (r746 : Abs.Rows) (i747 : Int) (r748 : Abs.Rows) (i749 : Int) (i750 : Int) (k : Ex → List V → Option R) : codeK Tryd.prog H (T44 m) 19 (L32 m) 7 (loopBody Tryd.prog 19 6) (mkEnv [1, 4, 5, 21, 22, 23, 24, 58, 59] [V.f (F.lit (Value.string s744)), V.f (F.lit (Value.bool b745)), V.obj [V.f (F.lst [LT.str] r746), V.f (F.lit (Value.int IntKind.u8 i747))], V.ref (5 : Nat) (0 : Nat), V.f (F.lst [LT.str] r748), V.f (F.lit (Value.int IntKind.i64 i749)), V.f (F.lit (Value.int IntKind.i64 i750)), V.undef, V.undef] 0 (H.len 19)) (fun e env' => match e with | .normal => ELp19_6 m R n (vals [1, 4, 5, 21, 22, 23, 24, 58, 59] env') k | e => k e (vals [1, 4, 5, 21, 22, 23, 24, 58, 59] env')) = Lp19_6_step m (fun b752 i753 => k Ex.ret [V.f (F.lit (Value.string s744)), V.f (F.lit (Value.bool b752)), V.obj [V.f (F.lst [LT.str] r746), V.f (F.lit (Value.int IntKind.u8 i747))], V.ref (5 : Nat) (0 : Nat), V.f (F.lst [LT.str] r748), V.f (F.lit (Value.int IntKind.i64 i749)), V.f (F.lit (Value.int IntKind.i64 i753)), V.undef, V.undef]) (fun i754 => k (Ex.exit (0 : Nat)) [V.f (F.lit (Value.string s744)), V.f (F.lit (Value.bool b745)), V.obj [V.f (F.lst [LT.str] r746), V.f (F.lit (Value.int IntKind.u8 i747))], V.ref (5 : Nat) (0 : Nat), V.f (F.lst [LT.str] r748), V.f (F.lit (Value.int IntKind.i64 i749)), V.f (F.lit (Value.int IntKind.i64 i754)), V.undef, V.undef]) s744 b745 r746 i747 r748 i749 (fun i750 => ELp19_6 m R n [V.f (F.lit (Value.string s744)), V.f (F.lit (Value.bool b745)), V.obj [V.f (F.lst [LT.str] r746), V.f (F.lit (Value.int IntKind.u8 i747))], V.ref (5 : Nat) (0 : Nat), V.f (F.lst [LT.str] r748), V.f (F.lit (Value.int IntKind.i64 i749)), V.f (F.lit (Value.int IntKind.i64 i750)), V.undef, V.undef] k) i750 := by kernel_rfl
theorem eqLp19_6 (m : Nat) (R : Type) (s744 : ByteArray) (b745 : Bool) (r746 : Abs.Rows) (i747 : Int) (r748 : Abs.Rows) (i749 : Int) (k : Ex → List V → Option R) : ∀ (n : Nat) (i750 : Int), ELp19_6 m R n [V.f (F.lit (Value.string s744)), V.f (F.lit (Value.bool b745)), V.obj [V.f (F.lst [LT.str] r746), V.f (F.lit (Value.int IntKind.u8 i747))], V.ref (5 : Nat) (0 : Nat), V.f (F.lst [LT.str] r748), V.f (F.lit (Value.int IntKind.i64 i749)), V.f (F.lit (Value.int IntKind.i64 i750)), V.undef, V.undef] k = Lp19_6 m (fun b752 i753 => k Ex.ret [V.f (F.lit (Value.string s744)), V.f (F.lit (Value.bool b752)), V.obj [V.f (F.lst [LT.str] r746), V.f (F.lit (Value.int IntKind.u8 i747))], V.ref (5 : Nat) (0 : Nat), V.f (F.lst [LT.str] r748), V.f (F.lit (Value.int IntKind.i64 i749)), V.f (F.lit (Value.int IntKind.i64 i753)), V.undef, V.undef]) (fun i754 => k (Ex.exit (0 : Nat)) [V.f (F.lit (Value.string s744)), V.f (F.lit (Value.bool b745)), V.obj [V.f (F.lst [LT.str] r746), V.f (F.lit (Value.int IntKind.u8 i747))], V.ref (5 : Nat) (0 : Nat), V.f (F.lst [LT.str] r748), V.f (F.lit (Value.int IntKind.i64 i749)), V.f (F.lit (Value.int IntKind.i64 i754)), V.undef, V.undef]) s744 b745 r746 i747 r748 i749 n i750
  | 0, _ => rfl
  | n + 1, i750 => by
    simp only [ELp19_6, Lp19_6]
    congr 1
    funext i750
    exact eqLp19_6 m R s744 b745 r746 i747 r748 i749 k n i750
def L33 (m : Nat) : LTbl := addB 19 6 (brLp19_6 m (L32 m)) (L32 m)
theorem okL33 (m : Nat) : LTOk Tryd.prog H (L33 m) := addB_ok (okT44 m) hM (okL32 m) (l := [1, 4, 5, 21, 22, 23, 24, 58, 59]) (by kernel_rfl) (by kernel_rfl) m (fun R n vs k => ELp19_6 m R n vs k) (fun R vs k => rfl) (fun R n vs k x h => by
      simp only [ELp19_6] at h
      split at h
      · exact (stLp19_6 m n R _ _ _ _ _ _ _ k).trans h
      · cases h) fun R vs k x h => by
    unfold brLp19_6 at h
    split at h
    · exact .inl ((eqLp19_6 m R _ _ _ _ _ _ k m _).trans h)
    · exact .inr h

/-- hookflash/flashref2.MatchesOf -/
def Fn19 {R : Type} (m : Nat) : ByteArray → ByteArray → (Bool → Option R) → Option R := match m with
  | 0 => fun _ _ _ => none
  | m + 1 => fun s739 s740 k =>
  Fn41 m s739 (fun r741 i742 b743 => bif decide ((↑(ByteArray.size s740) : Int) < (↑(List.length r741) : Int)) then (k false) else
  (Lp19_6 m (fun b755 i756 => k b755) (fun i757 => bif IntKind.wrap IntKind.i64 ((↑(ByteArray.size s740) : Int) - (↑(List.length r741) : Int)) == (0 : Int) then (bif i742 != (46 : Int) then (k true) else
  (bif decide (IntKind.wrap IntKind.i64 ((↑(ByteArray.size s740) : Int) - (↑(List.length r741) : Int)) > (0 : Int)) then (k (i742 != (0 : Int))) else
  (k false))) else
  (bif decide (IntKind.wrap IntKind.i64 ((↑(ByteArray.size s740) : Int) - (↑(List.length r741) : Int)) > (0 : Int)) then (k (i742 != (0 : Int))) else
  (k false))) s740 false r741 i742 r741 ((↑(List.length r741) : Int)) m ((0 : Int))))
def brFn19 (m : Nat) (T : Tbl) (R : Type) (vs : List V) (k : V → List V → Option R) : Option R := match vs with
  | [V.f (F.lit (Value.string s739)), V.f (F.lit (Value.string s740))] => Fn19 m s739 s740 (fun b758 => k (V.f (F.lit (Value.bool b758))) [V.undef, V.undef])
  | _ => T R 19 vs k
set_option maxRecDepth 100000 in
theorem evFn19 (m : Nat) (R : Type) (s739 : ByteArray) (s740 : ByteArray) (k : V → List V → Option R) : runK Tryd.prog H (T44 m) (L33 m) 19 [V.f (F.lit (Value.string s739)), V.f (F.lit (Value.string s740))] k = Fn19 (m + 1) s739 s740 (fun b758 => k (V.f (F.lit (Value.bool b758))) [V.undef, V.undef]) := by kernel_rfl
def T45 (m : Nat) : Tbl := addT 19 (brFn19 m (T44 m)) (T44 m)
theorem okT45 (m : Nat) : TblOk Tryd.prog (T45 m) := addT_ok (okT44 m) fun R vs k x h => by
  unfold brFn19 at h
  split at h
  · cases m with
    | zero => cases h
    | succ m => exact runK_some (okT44 m) hM (okL33 m) ((evFn19 m R _ _ k).trans h)
  · exact okT44 m R 19 _ k x h

/-- a round of a loop of hookflash/dialplan.shared -/
def Lp40_8_step {R : Type} (m : Nat) (kx0 : Int → Bool → Int → Option R) (r770 : Abs.Rows) (s771 : ByteArray) (b772 : Bool) (r773 : Abs.Rows) (i774 : Int) (r777 : Abs.Rows) (i778 : Int) (REC : Int → Bool → Int → Option R) (i775 : Int) (b776 : Bool) (i779 : Int) : Option R :=
  bif decide (i779 < i778) then (bif decide ((0 : Int) ≤ i779 ∧ i779 < (↑(List.length r777) : Int)) then (Fn80 m (fR r777 (Int.toNat i779) (0 : Nat)) (fI r777 (Int.toNat i779) (1 : Nat)) i774 (fun i780 b781 => bif b776 then (REC (bitsOp IntKind.u16 (BitVec.ofInt (16 : Nat) i775 &&& BitVec.ofInt (16 : Nat) i780)) b781 (IntKind.wrap IntKind.i64 (i779 + (1 : Int)))) else
  (REC (bitsOp IntKind.u16 (BitVec.ofInt (16 : Nat) i775 &&& BitVec.ofInt (16 : Nat) i780)) false (IntKind.wrap IntKind.i64 (i779 + (1 : Int)))))) else
  (none)) else
  (kx0 i775 b776 i779)
def Lp40_8 {R : Type} (m : Nat) (kx0 : Int → Bool → Int → Option R) (r770 : Abs.Rows) (s771 : ByteArray) (b772 : Bool) (r773 : Abs.Rows) (i774 : Int) (r777 : Abs.Rows) (i778 : Int) : Nat → Int → Bool → Int → Option R
  | 0, _, _, _ => none
  | n + 1, i775, b776, i779 => Lp40_8_step m kx0 r770 s771 b772 r773 i774 r777 i778 (Lp40_8 m kx0 r770 s771 b772 r773 i774 r777 i778 n) i775 b776 i779
def ELp40_8 (m : Nat) (R : Type) : Nat → List V → (Ex → List V → Option R) → Option R
  | 0, _, _ => none
  | n + 1, vs, k => match vs with
    | [V.bor [LT.lst [LT.int IntKind.u16], LT.int IntKind.u8] r770, V.f (F.lit (Value.string s771)), V.f (F.lit (Value.bool b772)), V.own [LT.int IntKind.u8] r773, V.f (F.lit (Value.int IntKind.i64 i774)), V.f (F.lit (Value.int IntKind.u16 i775)), V.f (F.lit (Value.bool b776)), V.bor [LT.lst [LT.int IntKind.u16], LT.int IntKind.u8] r777, V.f (F.lit (Value.int IntKind.i64 i778)), V.f (F.lit (Value.int IntKind.i64 i779)), V.undef] => Lp40_8_step m (fun i782 b783 i784 => k (Ex.exit (2 : Nat)) [V.bor [LT.lst [LT.int IntKind.u16], LT.int IntKind.u8] r770, V.f (F.lit (Value.string s771)), V.f (F.lit (Value.bool b772)), V.own [LT.int IntKind.u8] r773, V.f (F.lit (Value.int IntKind.i64 i774)), V.f (F.lit (Value.int IntKind.u16 i782)), V.f (F.lit (Value.bool b783)), V.bor [LT.lst [LT.int IntKind.u16], LT.int IntKind.u8] r777, V.f (F.lit (Value.int IntKind.i64 i778)), V.f (F.lit (Value.int IntKind.i64 i784)), V.undef]) r770 s771 b772 r773 i774 r777 i778 (fun i775 b776 i779 => ELp40_8 m R n [V.bor [LT.lst [LT.int IntKind.u16], LT.int IntKind.u8] r770, V.f (F.lit (Value.string s771)), V.f (F.lit (Value.bool b772)), V.own [LT.int IntKind.u8] r773, V.f (F.lit (Value.int IntKind.i64 i774)), V.f (F.lit (Value.int IntKind.u16 i775)), V.f (F.lit (Value.bool b776)), V.bor [LT.lst [LT.int IntKind.u16], LT.int IntKind.u8] r777, V.f (F.lit (Value.int IntKind.i64 i778)), V.f (F.lit (Value.int IntKind.i64 i779)), V.undef] k) i775 b776 i779
    | _ => none
def brLp40_8 (m : Nat) (L : LTbl) (R : Type) (vs : List V) (k : Ex → List V → Option R) : Option R := match vs with
  | [V.bor [LT.lst [LT.int IntKind.u16], LT.int IntKind.u8] r770, V.f (F.lit (Value.string s771)), V.f (F.lit (Value.bool b772)), V.own [LT.int IntKind.u8] r773, V.f (F.lit (Value.int IntKind.i64 i774)), V.f (F.lit (Value.int IntKind.u16 i775)), V.f (F.lit (Value.bool b776)), V.bor [LT.lst [LT.int IntKind.u16], LT.int IntKind.u8] r777, V.f (F.lit (Value.int IntKind.i64 i778)), V.f (F.lit (Value.int IntKind.i64 i779)), V.undef] => Lp40_8 m (fun i782 b783 i784 => k (Ex.exit (2 : Nat)) [V.bor [LT.lst [LT.int IntKind.u16], LT.int IntKind.u8] r770, V.f (F.lit (Value.string s771)), V.f (F.lit (Value.bool b772)), V.own [LT.int IntKind.u8] r773, V.f (F.lit (Value.int IntKind.i64 i774)), V.f (F.lit (Value.int IntKind.u16 i782)), V.f (F.lit (Value.bool b783)), V.bor [LT.lst [LT.int IntKind.u16], LT.int IntKind.u8] r777, V.f (F.lit (Value.int IntKind.i64 i778)), V.f (F.lit (Value.int IntKind.i64 i784)), V.undef]) r770 s771 b772 r773 i774 r777 i778 m i775 b776 i779
  | _ => L R 40 8 vs k
set_option maxRecDepth 100000 in
theorem stLp40_8 (m n : Nat) (R : Type) (r770 : Abs.Rows) (s771 : ByteArray) (b772 : Bool) (r773 : Abs.Rows) (i774 : Int) (i775 : Int) (b776 : Bool) (r777 : Abs.Rows) (i778 : Int) (i779 : Int) (k : Ex → List V → Option R) : codeK Tryd.prog H (T45 m) 40 (L33 m) 9 (loopBody Tryd.prog 40 8) (mkEnv [0, 2, 3, 4, 5, 6, 7, 18, 19, 20, 49] [V.bor [LT.lst [LT.int IntKind.u16], LT.int IntKind.u8] r770, V.f (F.lit (Value.string s771)), V.f (F.lit (Value.bool b772)), V.own [LT.int IntKind.u8] r773, V.f (F.lit (Value.int IntKind.i64 i774)), V.f (F.lit (Value.int IntKind.u16 i775)), V.f (F.lit (Value.bool b776)), V.bor [LT.lst [LT.int IntKind.u16], LT.int IntKind.u8] r777, V.f (F.lit (Value.int IntKind.i64 i778)), V.f (F.lit (Value.int IntKind.i64 i779)), V.undef] 0 (H.len 40)) (fun e env' => match e with | .normal => ELp40_8 m R n (vals [0, 2, 3, 4, 5, 6, 7, 18, 19, 20, 49] env') k | e => k e (vals [0, 2, 3, 4, 5, 6, 7, 18, 19, 20, 49] env')) = Lp40_8_step m (fun i782 b783 i784 => k (Ex.exit (2 : Nat)) [V.bor [LT.lst [LT.int IntKind.u16], LT.int IntKind.u8] r770, V.f (F.lit (Value.string s771)), V.f (F.lit (Value.bool b772)), V.own [LT.int IntKind.u8] r773, V.f (F.lit (Value.int IntKind.i64 i774)), V.f (F.lit (Value.int IntKind.u16 i782)), V.f (F.lit (Value.bool b783)), V.bor [LT.lst [LT.int IntKind.u16], LT.int IntKind.u8] r777, V.f (F.lit (Value.int IntKind.i64 i778)), V.f (F.lit (Value.int IntKind.i64 i784)), V.undef]) r770 s771 b772 r773 i774 r777 i778 (fun i775 b776 i779 => ELp40_8 m R n [V.bor [LT.lst [LT.int IntKind.u16], LT.int IntKind.u8] r770, V.f (F.lit (Value.string s771)), V.f (F.lit (Value.bool b772)), V.own [LT.int IntKind.u8] r773, V.f (F.lit (Value.int IntKind.i64 i774)), V.f (F.lit (Value.int IntKind.u16 i775)), V.f (F.lit (Value.bool b776)), V.bor [LT.lst [LT.int IntKind.u16], LT.int IntKind.u8] r777, V.f (F.lit (Value.int IntKind.i64 i778)), V.f (F.lit (Value.int IntKind.i64 i779)), V.undef] k) i775 b776 i779 := by kernel_rfl
theorem eqLp40_8 (m : Nat) (R : Type) (r770 : Abs.Rows) (s771 : ByteArray) (b772 : Bool) (r773 : Abs.Rows) (i774 : Int) (r777 : Abs.Rows) (i778 : Int) (k : Ex → List V → Option R) : ∀ (n : Nat) (i775 : Int) (b776 : Bool) (i779 : Int), ELp40_8 m R n [V.bor [LT.lst [LT.int IntKind.u16], LT.int IntKind.u8] r770, V.f (F.lit (Value.string s771)), V.f (F.lit (Value.bool b772)), V.own [LT.int IntKind.u8] r773, V.f (F.lit (Value.int IntKind.i64 i774)), V.f (F.lit (Value.int IntKind.u16 i775)), V.f (F.lit (Value.bool b776)), V.bor [LT.lst [LT.int IntKind.u16], LT.int IntKind.u8] r777, V.f (F.lit (Value.int IntKind.i64 i778)), V.f (F.lit (Value.int IntKind.i64 i779)), V.undef] k = Lp40_8 m (fun i782 b783 i784 => k (Ex.exit (2 : Nat)) [V.bor [LT.lst [LT.int IntKind.u16], LT.int IntKind.u8] r770, V.f (F.lit (Value.string s771)), V.f (F.lit (Value.bool b772)), V.own [LT.int IntKind.u8] r773, V.f (F.lit (Value.int IntKind.i64 i774)), V.f (F.lit (Value.int IntKind.u16 i782)), V.f (F.lit (Value.bool b783)), V.bor [LT.lst [LT.int IntKind.u16], LT.int IntKind.u8] r777, V.f (F.lit (Value.int IntKind.i64 i778)), V.f (F.lit (Value.int IntKind.i64 i784)), V.undef]) r770 s771 b772 r773 i774 r777 i778 n i775 b776 i779
  | 0, _, _, _ => rfl
  | n + 1, i775, b776, i779 => by
    simp only [ELp40_8, Lp40_8]
    congr 1
    funext i775 b776 i779
    exact eqLp40_8 m R r770 s771 b772 r773 i774 r777 i778 k n i775 b776 i779
def L34 (m : Nat) : LTbl := addB 40 8 (brLp40_8 m (L33 m)) (L33 m)
theorem okL34 (m : Nat) : LTOk Tryd.prog H (L34 m) := addB_ok (okT45 m) hM (okL33 m) (l := [0, 2, 3, 4, 5, 6, 7, 18, 19, 20, 49]) (by kernel_rfl) (by kernel_rfl) m (fun R n vs k => ELp40_8 m R n vs k) (fun R vs k => rfl) (fun R n vs k x h => by
      simp only [ELp40_8] at h
      split at h
      · exact (stLp40_8 m n R _ _ _ _ _ _ _ _ _ _ k).trans h
      · cases h) fun R vs k x h => by
    unfold brLp40_8 at h
    split at h
    · exact .inl ((eqLp40_8 m R _ _ _ _ _ _ _ k m _ _ _).trans h)
    · exact .inr h

/-- math/bits.TrailingZeros16 -/
def Fn81 {R : Type} (m : Nat) : Int → (Int → Option R) → Option R := match m with
  | 0 => fun _ _ => none
  | m + 1 => fun i788 k =>
  bif i788 == (0 : Int) then (k ((16 : Int))) else
  (bif decide ((0 : Int) ≤ Int.fdiv (IntKind.wrap IntKind.u32 ((125613361 : Int) * IntKind.wrap IntKind.u32 (bitsOp IntKind.u16 (BitVec.ofInt (16 : Nat) i788 &&& BitVec.ofInt (16 : Nat) (IntKind.wrap IntKind.u16 ((0 : Int) - i788)))))) ((2 : Int) ^ min (Int.toNat (27 : Int)) (32 : Nat)) ∧ Int.fdiv (IntKind.wrap IntKind.u32 ((125613361 : Int) * IntKind.wrap IntKind.u32 (bitsOp IntKind.u16 (BitVec.ofInt (16 : Nat) i788 &&& BitVec.ofInt (16 : Nat) (IntKind.wrap IntKind.u16 ((0 : Int) - i788)))))) ((2 : Int) ^ min (Int.toNat (27 : Int)) (32 : Nat)) < (↑(32 : Nat) : Int)) then (k (IntKind.wrap IntKind.i64 (fI Med.tabB (Int.toNat (Int.fdiv (IntKind.wrap IntKind.u32 ((125613361 : Int) * IntKind.wrap IntKind.u32 (bitsOp IntKind.u16 (BitVec.ofInt (16 : Nat) i788 &&& BitVec.ofInt (16 : Nat) (IntKind.wrap IntKind.u16 ((0 : Int) - i788)))))) ((2 : Int) ^ min (Int.toNat (27 : Int)) (32 : Nat)))) (0 : Nat)))) else
  (none))
def brFn81 (m : Nat) (T : Tbl) (R : Type) (vs : List V) (k : V → List V → Option R) : Option R := match vs with
  | [V.f (F.lit (Value.int IntKind.u16 i788))] => Fn81 m i788 (fun i789 => k (V.f (F.lit (Value.int IntKind.i64 i789))) [V.undef])
  | _ => T R 81 vs k
set_option maxRecDepth 100000 in
theorem evFn81 (m : Nat) (R : Type) (i788 : Int) (k : V → List V → Option R) : runK Tryd.prog H (T45 m) (L34 m) 81 [V.f (F.lit (Value.int IntKind.u16 i788))] k = Fn81 (m + 1) i788 (fun i789 => k (V.f (F.lit (Value.int IntKind.i64 i789))) [V.undef]) := by kernel_rfl
def T46 (m : Nat) : Tbl := addT 81 (brFn81 m (T45 m)) (T45 m)
theorem okT46 (m : Nat) : TblOk Tryd.prog (T46 m) := addT_ok (okT45 m) fun R vs k x h => by
  unfold brFn81 at h
  split at h
  · cases m with
    | zero => cases h
    | succ m => exact runK_some (okT45 m) hM (okL34 m) ((evFn81 m R _ k).trans h)
  · exact okT45 m R 81 _ k x h

/-- a round of a loop of hookflash/dialplan.shared -/
def Lp40_3_step {R : Type} (m : Nat) (kx0 : ByteArray → Bool → Abs.Rows → Int → Option R) (kx1 : Abs.Rows → Int → Option R) (r765 : Abs.Rows) (s766 : ByteArray) (b767 : Bool) (REC : Abs.Rows → Int → Option R) (r768 : Abs.Rows) (i769 : Int) : Option R :=
  bif decide (i769 ≤ (30 : Int)) then (Lp40_8 m (fun i785 b786 i787 => bif b786 then (kx0 (rowsBytes r768) true r768 i769) else
  (bif i785 == (0 : Int) then (kx0 ({ data := #[] }) false r768 i769) else
  (Fn81 m i785 (fun i790 => bif decide ((0 : Int) ≤ i790 ∧ i790 < (↑(ByteArray.size { data := #[(35 : UInt8), (42 : UInt8), (48 : UInt8), (49 : UInt8), (50 : UInt8), (51 : UInt8), (52 : UInt8), (53 : UInt8), (54 : UInt8), (55 : UInt8), (56 : UInt8), (57 : UInt8)] }) : Int)) then (bif decide (List.length r768 + List.length [[F.lit (Value.int IntKind.u8 (↑(UInt8.toNat (Array.getD (ByteArray.data { data := #[(35 : UInt8), (42 : UInt8), (48 : UInt8), (49 : UInt8), (50 : UInt8), (51 : UInt8), (52 : UInt8), (53 : UInt8), (54 : UInt8), (55 : UInt8), (56 : UInt8), (57 : UInt8)] }) (Int.toNat i790) (0 : UInt8))) : Int))]] ≤ rowMax) then (letV (r768 ++ [[F.lit (Value.int IntKind.u8 (↑(UInt8.toNat (Array.getD (ByteArray.data { data := #[(35 : UInt8), (42 : UInt8), (48 : UInt8), (49 : UInt8), (50 : UInt8), (51 : UInt8), (52 : UInt8), (53 : UInt8), (54 : UInt8), (55 : UInt8), (56 : UInt8), (57 : UInt8)] }) (Int.toNat i790) (0 : UInt8))) : Int))]]) (fun r791 => REC r791 (IntKind.wrap IntKind.i64 (i769 + (1 : Int))))) else
  (none)) else
  (none))))) r765 s766 b767 r768 i769 r765 ((↑(List.length r765) : Int)) m ((4095 : Int)) (decide (i769 > (0 : Int))) ((0 : Int))) else
  (kx1 r768 i769)
def Lp40_3 {R : Type} (m : Nat) (kx0 : ByteArray → Bool → Abs.Rows → Int → Option R) (kx1 : Abs.Rows → Int → Option R) (r765 : Abs.Rows) (s766 : ByteArray) (b767 : Bool) : Nat → Abs.Rows → Int → Option R
  | 0, _, _ => none
  | n + 1, r768, i769 => Lp40_3_step m kx0 kx1 r765 s766 b767 (Lp40_3 m kx0 kx1 r765 s766 b767 n) r768 i769
def ELp40_3 (m : Nat) (R : Type) : Nat → List V → (Ex → List V → Option R) → Option R
  | 0, _, _ => none
  | n + 1, vs, k => match vs with
    | [V.bor [LT.lst [LT.int IntKind.u16], LT.int IntKind.u8] r765, V.f (F.lit (Value.string s766)), V.f (F.lit (Value.bool b767)), V.own [LT.int IntKind.u8] r768, V.f (F.lit (Value.int IntKind.i64 i769)), V.undef] => Lp40_3_step m (fun s792 b793 r794 i795 => k Ex.ret [V.bor [LT.lst [LT.int IntKind.u16], LT.int IntKind.u8] r765, V.f (F.lit (Value.string s792)), V.f (F.lit (Value.bool b793)), V.own [LT.int IntKind.u8] r794, V.f (F.lit (Value.int IntKind.i64 i795)), V.undef]) (fun r796 i797 => k (Ex.exit (0 : Nat)) [V.bor [LT.lst [LT.int IntKind.u16], LT.int IntKind.u8] r765, V.f (F.lit (Value.string s766)), V.f (F.lit (Value.bool b767)), V.own [LT.int IntKind.u8] r796, V.f (F.lit (Value.int IntKind.i64 i797)), V.undef]) r765 s766 b767 (fun r768 i769 => ELp40_3 m R n [V.bor [LT.lst [LT.int IntKind.u16], LT.int IntKind.u8] r765, V.f (F.lit (Value.string s766)), V.f (F.lit (Value.bool b767)), V.own [LT.int IntKind.u8] r768, V.f (F.lit (Value.int IntKind.i64 i769)), V.undef] k) r768 i769
    | _ => none
def brLp40_3 (m : Nat) (L : LTbl) (R : Type) (vs : List V) (k : Ex → List V → Option R) : Option R := match vs with
  | [V.bor [LT.lst [LT.int IntKind.u16], LT.int IntKind.u8] r765, V.f (F.lit (Value.string s766)), V.f (F.lit (Value.bool b767)), V.own [LT.int IntKind.u8] r768, V.f (F.lit (Value.int IntKind.i64 i769)), V.undef] => Lp40_3 m (fun s792 b793 r794 i795 => k Ex.ret [V.bor [LT.lst [LT.int IntKind.u16], LT.int IntKind.u8] r765, V.f (F.lit (Value.string s792)), V.f (F.lit (Value.bool b793)), V.own [LT.int IntKind.u8] r794, V.f (F.lit (Value.int IntKind.i64 i795)), V.undef]) (fun r796 i797 => k (Ex.exit (0 : Nat)) [V.bor [LT.lst [LT.int IntKind.u16], LT.int IntKind.u8] r765, V.f (F.lit (Value.string s766)), V.f (F.lit (Value.bool b767)), V.own [LT.int IntKind.u8] r796, V.f (F.lit (Value.int IntKind.i64 i797)), V.undef]) r765 s766 b767 m r768 i769
  | _ => L R 40 3 vs k
set_option maxRecDepth 100000 in
theorem stLp40_3 (m n : Nat) (R : Type) (r765 : Abs.Rows) (s766 : ByteArray) (b767 : Bool) (r768 : Abs.Rows) (i769 : Int) (k : Ex → List V → Option R) : codeK Tryd.prog H (T46 m) 40 (L34 m) 4 (loopBody Tryd.prog 40 3) (mkEnv [0, 2, 3, 4, 5, 49] [V.bor [LT.lst [LT.int IntKind.u16], LT.int IntKind.u8] r765, V.f (F.lit (Value.string s766)), V.f (F.lit (Value.bool b767)), V.own [LT.int IntKind.u8] r768, V.f (F.lit (Value.int IntKind.i64 i769)), V.undef] 0 (H.len 40)) (fun e env' => match e with | .normal => ELp40_3 m R n (vals [0, 2, 3, 4, 5, 49] env') k | e => k e (vals [0, 2, 3, 4, 5, 49] env')) = Lp40_3_step m (fun s792 b793 r794 i795 => k Ex.ret [V.bor [LT.lst [LT.int IntKind.u16], LT.int IntKind.u8] r765, V.f (F.lit (Value.string s792)), V.f (F.lit (Value.bool b793)), V.own [LT.int IntKind.u8] r794, V.f (F.lit (Value.int IntKind.i64 i795)), V.undef]) (fun r796 i797 => k (Ex.exit (0 : Nat)) [V.bor [LT.lst [LT.int IntKind.u16], LT.int IntKind.u8] r765, V.f (F.lit (Value.string s766)), V.f (F.lit (Value.bool b767)), V.own [LT.int IntKind.u8] r796, V.f (F.lit (Value.int IntKind.i64 i797)), V.undef]) r765 s766 b767 (fun r768 i769 => ELp40_3 m R n [V.bor [LT.lst [LT.int IntKind.u16], LT.int IntKind.u8] r765, V.f (F.lit (Value.string s766)), V.f (F.lit (Value.bool b767)), V.own [LT.int IntKind.u8] r768, V.f (F.lit (Value.int IntKind.i64 i769)), V.undef] k) r768 i769 := by kernel_rfl
theorem eqLp40_3 (m : Nat) (R : Type) (r765 : Abs.Rows) (s766 : ByteArray) (b767 : Bool) (k : Ex → List V → Option R) : ∀ (n : Nat) (r768 : Abs.Rows) (i769 : Int), ELp40_3 m R n [V.bor [LT.lst [LT.int IntKind.u16], LT.int IntKind.u8] r765, V.f (F.lit (Value.string s766)), V.f (F.lit (Value.bool b767)), V.own [LT.int IntKind.u8] r768, V.f (F.lit (Value.int IntKind.i64 i769)), V.undef] k = Lp40_3 m (fun s792 b793 r794 i795 => k Ex.ret [V.bor [LT.lst [LT.int IntKind.u16], LT.int IntKind.u8] r765, V.f (F.lit (Value.string s792)), V.f (F.lit (Value.bool b793)), V.own [LT.int IntKind.u8] r794, V.f (F.lit (Value.int IntKind.i64 i795)), V.undef]) (fun r796 i797 => k (Ex.exit (0 : Nat)) [V.bor [LT.lst [LT.int IntKind.u16], LT.int IntKind.u8] r765, V.f (F.lit (Value.string s766)), V.f (F.lit (Value.bool b767)), V.own [LT.int IntKind.u8] r796, V.f (F.lit (Value.int IntKind.i64 i797)), V.undef]) r765 s766 b767 n r768 i769
  | 0, _, _ => rfl
  | n + 1, r768, i769 => by
    simp only [ELp40_3, Lp40_3]
    congr 1
    funext r768 i769
    exact eqLp40_3 m R r765 s766 b767 k n r768 i769
def L35 (m : Nat) : LTbl := addB 40 3 (brLp40_3 m (L34 m)) (L34 m)
theorem okL35 (m : Nat) : LTOk Tryd.prog H (L35 m) := addB_ok (okT46 m) hM (okL34 m) (l := [0, 2, 3, 4, 5, 49]) (by kernel_rfl) (by kernel_rfl) m (fun R n vs k => ELp40_3 m R n vs k) (fun R vs k => rfl) (fun R n vs k x h => by
      simp only [ELp40_3] at h
      split at h
      · exact (stLp40_3 m n R _ _ _ _ _ k).trans h
      · cases h) fun R vs k x h => by
    unfold brLp40_3 at h
    split at h
    · exact .inl ((eqLp40_3 m R _ _ _ k m _ _).trans h)
    · exact .inr h

/-- hookflash/dialplan.shared -/
def Fn40 {R : Type} (m : Nat) : Abs.Rows → (ByteArray → Bool → Option R) → Option R := match m with
  | 0 => fun _ _ => none
  | m + 1 => fun r764 k =>
  Lp40_3 m (fun s798 b799 r800 i801 => k s798 b799) (fun r802 i803 => k ({ data := #[] }) false) r764 ({ data := #[] }) false m rows0 ((0 : Int))
def brFn40 (m : Nat) (T : Tbl) (R : Type) (vs : List V) (k : V → List V → Option R) : Option R := match vs with
  | [V.bor [LT.lst [LT.int IntKind.u16], LT.int IntKind.u8] r764] => Fn40 m r764 (fun s804 b805 => k (V.tup [V.f (F.lit (Value.string s804)), V.f (F.lit (Value.bool b805))]) [V.undef])
  | _ => T R 40 vs k
set_option maxRecDepth 100000 in
theorem evFn40 (m : Nat) (R : Type) (r764 : Abs.Rows) (k : V → List V → Option R) : runK Tryd.prog H (T46 m) (L35 m) 40 [V.bor [LT.lst [LT.int IntKind.u16], LT.int IntKind.u8] r764] k = Fn40 (m + 1) r764 (fun s804 b805 => k (V.tup [V.f (F.lit (Value.string s804)), V.f (F.lit (Value.bool b805))]) [V.undef]) := by kernel_rfl
def T47 (m : Nat) : Tbl := addT 40 (brFn40 m (T46 m)) (T46 m)
theorem okT47 (m : Nat) : TblOk Tryd.prog (T47 m) := addT_ok (okT46 m) fun R vs k x h => by
  unfold brFn40 at h
  split at h
  · cases m with
    | zero => cases h
    | succ m => exact runK_some (okT46 m) hM (okL35 m) ((evFn40 m R _ k).trans h)
  · exact okT46 m R 40 _ k x h

/-- hookflash/dialplan.Least -/
def Fn8 {R : Type} (m : Nat) : ByteArray → (ByteArray → Int → Option R) → Option R := match m with
  | 0 => fun _ _ => none
  | m + 1 => fun s760 k =>
  Fn39 m s760 (fun r761 i762 i763 => bif i763 != (0 : Int) then (k ({ data := #[] }) i763) else
  (Fn40 m ([[F.lst [LT.int IntKind.u16] r761, F.lit (Value.int IntKind.u8 i762)]]) (fun s806 b807 => k s806 ((0 : Int)))))
def brFn8 (m : Nat) (T : Tbl) (R : Type) (vs : List V) (k : V → List V → Option R) : Option R := match vs with
  | [V.f (F.lit (Value.string s760))] => Fn8 m s760 (fun s808 i809 => k (V.tup [V.f (F.lit (Value.string s808)), V.f (F.lit (Value.int IntKind.i64 i809))]) [V.undef])
  | _ => T R 8 vs k
set_option maxRecDepth 100000 in
theorem evFn8 (m : Nat) (R : Type) (s760 : ByteArray) (k : V → List V → Option R) : runK Tryd.prog H (T47 m) (L35 m) 8 [V.f (F.lit (Value.string s760))] k = Fn8 (m + 1) s760 (fun s808 i809 => k (V.tup [V.f (F.lit (Value.string s808)), V.f (F.lit (Value.int IntKind.i64 i809))]) [V.undef]) := by kernel_rfl
def T48 (m : Nat) : Tbl := addT 8 (brFn8 m (T47 m)) (T47 m)
theorem okT48 (m : Nat) : TblOk Tryd.prog (T48 m) := addT_ok (okT47 m) fun R vs k x h => by
  unfold brFn8 at h
  split at h
  · cases m with
    | zero => cases h
    | succ m => exact runK_some (okT47 m) hM (okL35 m) ((evFn8 m R _ k).trans h)
  · exact okT47 m R 8 _ k x h

/-- hookflash/flashlaw2.planned -/
def Fn12 {R : Type} (m : Nat) : (Bool → Option R) → Option R := match m with
  | 0 => fun _ => none
  | m + 1 => fun  k =>
  Fn8 m ({ data := #[(78 : UInt8), (49 : UInt8)] }) (fun s810 i811 => bif i811 == (0 : Int) then (k (ByteArray.toList s810 == ByteArray.toList { data := #[(50 : UInt8), (49 : UInt8)] })) else
  (k false))
def brFn12 (m : Nat) (T : Tbl) (R : Type) (vs : List V) (k : V → List V → Option R) : Option R := match vs with
  | [] => Fn12 m  (fun b812 => k (V.f (F.lit (Value.bool b812))) [])
  | _ => T R 12 vs k
set_option maxRecDepth 100000 in
theorem evFn12 (m : Nat) (R : Type)  (k : V → List V → Option R) : runK Tryd.prog H (T48 m) (L35 m) 12 [] k = Fn12 (m + 1)  (fun b812 => k (V.f (F.lit (Value.bool b812))) []) := by kernel_rfl
def T49 (m : Nat) : Tbl := addT 12 (brFn12 m (T48 m)) (T48 m)
theorem okT49 (m : Nat) : TblOk Tryd.prog (T49 m) := addT_ok (okT48 m) fun R vs k x h => by
  unfold brFn12 at h
  split at h
  · cases m with
    | zero => cases h
    | succ m => exact runK_some (okT48 m) hM (okL35 m) ((evFn12 m R k).trans h)
  · exact okT48 m R 12 _ k x h

/-- a rest of hookflash/flashlaw2.PatternsMatch -/
def Jn4_9 {R : Type} (m : Nat) (kx0 : Bool → Option R) (b722 : Bool) (s723 : ByteArray) (s724 : ByteArray) (b725 : Bool) (i726 : Int) (i727 : Int) (i728 : Int) (i729 : Int) (i730 : Int) (i731 : Int) (i732 : Int) : Option R :=
  Fn18 m s723 (fun i738 => bif i738 == i729 then (bif i726 == i731 then (bif i731 == (0 : Int) then (Fn19 m s723 s724 (fun b759 => bif b725 == b759 then (bif i728 == i730 then (bif i727 == i732 then (Fn12 m  (fun b813 => kx0 b813)) else
  (kx0 false)) else
  (kx0 false)) else
  (kx0 false))) else
  (bif b725 == false then (bif i728 == i730 then (bif i727 == i732 then (Fn12 m  (fun b814 => kx0 b814)) else
  (kx0 false)) else
  (kx0 false)) else
  (kx0 false))) else
  (kx0 false)) else
  (kx0 false))
def brJn4_9 (m : Nat) (L : LTbl) (R : Type) (vs : List V) (k : Ex → List V → Option R) : Option R := match vs with
  | [V.f (F.lit (Value.bool b722)), V.f (F.lit (Value.string s723)), V.f (F.lit (Value.string s724)), V.f (F.lit (Value.bool b725)), V.f (F.lit (Value.int IntKind.i64 i726)), V.f (F.lit (Value.int IntKind.i64 i727)), V.f (F.lit (Value.int IntKind.i64 i728)), V.f (F.lit (Value.int IntKind.i64 i729)), V.f (F.lit (Value.int IntKind.i64 i730)), V.f (F.lit (Value.int IntKind.i64 i731)), V.f (F.lit (Value.int IntKind.i64 i732)), V.undef] => Jn4_9 m (fun b815 => k Ex.ret [V.f (F.lit (Value.bool b815)), V.f (F.lit (Value.string s723)), V.f (F.lit (Value.string s724)), V.f (F.lit (Value.bool b725)), V.f (F.lit (Value.int IntKind.i64 i726)), V.f (F.lit (Value.int IntKind.i64 i727)), V.f (F.lit (Value.int IntKind.i64 i728)), V.f (F.lit (Value.int IntKind.i64 i729)), V.f (F.lit (Value.int IntKind.i64 i730)), V.f (F.lit (Value.int IntKind.i64 i731)), V.f (F.lit (Value.int IntKind.i64 i732)), V.undef]) b722 s723 s724 b725 i726 i727 i728 i729 i730 i731 i732
  | _ => L R 4 9 vs k
set_option maxRecDepth 100000 in
theorem evJn4_9 (m : Nat) (R : Type) (b722 : Bool) (s723 : ByteArray) (s724 : ByteArray) (b725 : Bool) (i726 : Int) (i727 : Int) (i728 : Int) (i729 : Int) (i730 : Int) (i731 : Int) (i732 : Int) (k : Ex → List V → Option R) : codeK Tryd.prog H (T49 m) 4 (L35 m) 10 (loopBody Tryd.prog 4 9) (mkEnv [2, 4, 6, 7, 8, 9, 10, 11, 12, 13, 14, 87] [V.f (F.lit (Value.bool b722)), V.f (F.lit (Value.string s723)), V.f (F.lit (Value.string s724)), V.f (F.lit (Value.bool b725)), V.f (F.lit (Value.int IntKind.i64 i726)), V.f (F.lit (Value.int IntKind.i64 i727)), V.f (F.lit (Value.int IntKind.i64 i728)), V.f (F.lit (Value.int IntKind.i64 i729)), V.f (F.lit (Value.int IntKind.i64 i730)), V.f (F.lit (Value.int IntKind.i64 i731)), V.f (F.lit (Value.int IntKind.i64 i732)), V.undef] 0 (H.len 4)) (fun e env' => k e (vals [2, 4, 6, 7, 8, 9, 10, 11, 12, 13, 14, 87] env')) = Jn4_9 m (fun b815 => k Ex.ret [V.f (F.lit (Value.bool b815)), V.f (F.lit (Value.string s723)), V.f (F.lit (Value.string s724)), V.f (F.lit (Value.bool b725)), V.f (F.lit (Value.int IntKind.i64 i726)), V.f (F.lit (Value.int IntKind.i64 i727)), V.f (F.lit (Value.int IntKind.i64 i728)), V.f (F.lit (Value.int IntKind.i64 i729)), V.f (F.lit (Value.int IntKind.i64 i730)), V.f (F.lit (Value.int IntKind.i64 i731)), V.f (F.lit (Value.int IntKind.i64 i732)), V.undef]) b722 s723 s724 b725 i726 i727 i728 i729 i730 i731 i732 := by kernel_rfl
def L36 (m : Nat) : LTbl := addJ 4 9 (brJn4_9 m (L35 m)) (L35 m)
theorem okL36 (m : Nat) : LTOk Tryd.prog H (L36 m) := addJ_ok (okT49 m) hM (okL35 m) (l := [2, 4, 6, 7, 8, 9, 10, 11, 12, 13, 14, 87]) (by kernel_rfl) (by kernel_rfl) fun R vs k x h => by
    unfold brJn4_9 at h
    split at h
    · exact .inl ((evJn4_9 m R _ _ _ _ _ _ _ _ _ _ _ k).trans h)
    · exact .inr h

/-- hookflash/flashlaw2.PatternsMatch -/
def Fn4 {R : Type} (m : Nat) : Abs.Rows → (Bool → Option R) → Option R := match m with
  | 0 => fun _ _ => none
  | m + 1 => fun r1 k =>
  Fn6 m r1 ((0 : Int)) (fun s126 i127 => Fn6 m r1 i127 (fun s128 i129 => Fn13 m r1 i129 (fun s159 i160 => Fn14 m s126 s159 (fun b386 i387 => Fn15 m s126 s128 (fun i474 i475 => Fn9 m s126 (fun i609 => Fn9 m s126 (fun i610 => Fn9 m s128 (fun i611 => Fn10 m ([[F.lit (Value.int IntKind.i64 i610)], [F.lit (Value.int IntKind.i64 i611)]]) (fun i625 => Fn16 m s159 (fun i645 => Fn10 m ([[F.lit (Value.int IntKind.i64 i609)], [F.lit (Value.int IntKind.i64 i645)]]) (fun i646 => bif i625 == (0 : Int) then (Fn17 m s126 s128 (fun i721 => Jn4_9 m (fun b816 => k b816) false s126 s159 b386 i387 i474 i475 i609 i625 i646 i721)) else
  (Jn4_9 m (fun b817 => k b817) false s126 s159 b386 i387 i474 i475 i609 i625 i646 ((0 : Int))))))))))))))
def brFn4 (m : Nat) (T : Tbl) (R : Type) (vs : List V) (k : V → List V → Option R) : Option R := match vs with
  | [V.f (F.lst [LT.int IntKind.i64] r1)] => Fn4 m r1 (fun b818 => k (V.f (F.lit (Value.bool b818))) [V.undef])
  | _ => T R 4 vs k
set_option maxRecDepth 100000 in
theorem evFn4 (m : Nat) (R : Type) (r1 : Abs.Rows) (k : V → List V → Option R) : runK Tryd.prog H (T49 m) (L36 m) 4 [V.f (F.lst [LT.int IntKind.i64] r1)] k = Fn4 (m + 1) r1 (fun b818 => k (V.f (F.lit (Value.bool b818))) [V.undef]) := by kernel_rfl
def T50 (m : Nat) : Tbl := addT 4 (brFn4 m (T49 m)) (T49 m)
theorem okT50 (m : Nat) : TblOk Tryd.prog (T50 m) := addT_ok (okT49 m) fun R vs k x h => by
  unfold brFn4 at h
  split at h
  · cases m with
    | zero => cases h
    | succ m => exact runK_some (okT49 m) hM (okL36 m) ((evFn4 m R _ k).trans h)
  · exact okT49 m R 4 _ k x h


end Go.Proofs.YtngjadgglbkjlaaDoor.Med
end
