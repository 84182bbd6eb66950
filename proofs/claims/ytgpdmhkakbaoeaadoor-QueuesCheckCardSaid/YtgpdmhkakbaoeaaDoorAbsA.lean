/- A part of the proofs of the seat YtgpdmhkakbaoeaaDoor: no statement of the seat stands here. -/
import GoSem.Machine.Exec
import Derived.Calls
import Derived.Laws.Cells
import Derived.Laws.Entries
import Derived.Laws.Bits
import Derived.Laws.StructEq
import Derived.ChangeKeysEq
section
set_option linter.unusedVariables false
set_option linter.unusedSimpArgs false
set_option linter.unusedSectionVars false
namespace Go.Abs

def fail {α : Type} (_ : String) : Option α := none

/-! ### values -/
inductive LT where
 | int (k : IntKind) | bool | str | lst (ts : List LT) | any | mp (ag : Bool) | nx (h : Option (Nat × Nat)) (mk : List Nat)
 deriving Inhabited
/-- - -/
inductive F where
 | lit (v : Value)
 | lst (ts : List LT) (rows : List (List F))
 deriving Inhabited
abbrev Rows := List (List F)
def F.toInt : F → Int | .lit (.int _ n) => n | _ => 0
def F.toBool : F → Bool | .lit (.bool b) => b | _ => false
def F.toStr : F → ByteArray | .lit (.string s) => s | _ => .empty
def F.toRows : F → Rows | .lst _ rows => rows | _ => []
/-- - -/
def F.re : LT → F → F
 | .int k, x => .lit (.int k x.toInt)
 | .bool, x => .lit (.bool x.toBool)
 | .str, x => .lit (.string x.toStr)
 | .lst ts, x => .lst ts x.toRows
 | .any, x => x
 | .mp _, x => x
 | .nx _ _, x => x
def reRow : List LT → List F → List F
 | [], _ => []
 | t :: ts, xs => (xs.headD default).re t :: reRow ts xs.tail

/-- - -/
def isMap : List LT → Bool
 | .mp _ :: _ => true
 | _ => false
/-- - -/
def isNx : List LT → Bool
 | .nx _ _ :: _ => true
 | _ => false
def isMp : List LT → Bool
 | .mp _ :: _ => true
 | .nx _ _ :: _ => true
 | _ => false
/-- - -/
def ksOf : List LT → List LT
 | .nx _ _ :: ks => ks
 | ts => ts
def kN (ts : List LT) : Nat := (ksOf ts).length
/-- - -/
def hasN : List Nat → Nat → Bool
 | [], _ => false
 | x :: xs, n => bif Nat.beq x n then true else hasN xs n
theorem hasN_eq : ∀ (l : List Nat) (n : Nat), hasN l n = l.contains n
 | [], _ => rfl
 | x :: xs, n => by
  have ih := hasN_eq xs n
  unfold hasN
  rw [List.contains_cons, ih]
  cases h : Nat.beq x n with
  | true =>
   have := Nat.eq_of_beq_eq_true h
   subst this
   simp
  | false =>
   have hne : ¬ n = x := by rintro rfl; rw [Nat.beq_refl] at h; cases h
   simp [hne]
structure Loc where
 slot : Nat
 leaf : Option Nat
 deriving DecidableEq, Repr, Inhabited

inductive V where
 | f (x : F)
 | bor (ts : List LT) (rows : Rows)
 | own (ts : List LT) (rows : Rows)
 | lent (l : Loc) (k n : Nat)
 | lsub (l : Loc) (k off len : Nat)
 | agg (xs : List V)
 | tup (xs : List V)
 | obj (row : List V)
 | ref (s j : Nat)
 | eref (l : Loc) (i j : Nat)
 | iref (ts : List LT) (rows : Rows) (i j : Nat)
 | clos (fn : FuncId) (caps : List V)
 | cref (s : Nat)
 | mref (l : Loc)
 | xl (l : Loc) (k n : Nat)
 | sit (s : ByteArray) (pos : Nat)
 | undef
 deriving Inhabited
abbrev Env := List V

inductive Mode where | bor | own | inout | fz
 deriving DecidableEq, Repr, Inhabited
structure Hints where
 mode : FuncId → Nat → Mode
 mv : FuncId → Nat → Bool
 nx : FuncId → Nat → List Nat
 keep : FuncId → Bool
 live : FuncId → Nat → Option (List Nat)
 len : FuncId → Nat

/-! ### types -/
section types
variable (P : Program)
def und (t : TypeId) : Option TypeDesc := P.underlying t
def sz (t : TypeId) : Option Nat := (P.info? t).map (·.size)
def isAggT (t : TypeId) : Bool := match und P t with | some (.struct _) | some (.array _ _) => true | _ => false
def lty : Nat → TypeId → List LT
 | 0, _ => [.any]
 | n + 1, t => match und P t with
  | some (.int k) => [.int k]
  | some .bool => [.bool]
  | some .string => [.str]
  | some (.slice e) => [.lst (lty n e)]
  | some (.struct fs) => fs.toList.flatMap fun f => lty n f.type
  | some (.array m e) => (List.replicate m (lty n e)).flatten
  | _ => [.any]
/-- - -/
def typed1 : LT → V → V
 | .lst ts, .f (.lit (.slice none 0 0)) => bif isMp ts then .f (.lit (.slice none 0 0)) else .own ts []
 | _, v => v
def typedLeaves : List LT → List V → List V
 | t :: ts, x :: xs => typed1 t x :: typedLeaves ts xs
 | _, xs => xs
def typedT (t : TypeId) : V → V
 | .agg xs => .agg (typedLeaves (lty P 20 t) xs)
 | x => typed1 ((lty P 20 t).headD .any) x
def zeroF1 : LT → Value → F
 | .lst ts, .slice none 0 0 => .lst ts []
 | _, v => .lit v
def zeroFs : List LT → List Value → List F
 | t :: ts, v :: vs => zeroF1 t v :: zeroFs ts vs
 | _, _ => []
end types

def eqN : List Nat → List Nat → Bool
 | [], [] => true
 | x :: xs, y :: ys => bif Nat.beq x y then eqN xs ys else false
 | _, _ => false
def eqX (h : Option (Nat × Nat)) (a : List Nat) (h' : Option (Nat × Nat)) (b : List Nat) : Bool := match h, h' with
 | none, none => eqN a b
 | _, _ => false
mutual
def LT.eq : LT → LT → Bool
 | .int k, .int k' => decide (k = k')
 | .bool, .bool => true
 | .str, .str => true
 | .lst a, .lst b => eqTs a b
 | .any, .any => true
 | .mp a, .mp b => a == b
 | .nx h a, .nx h' b => eqX h a h' b
 | _, _ => false
def eqTs : List LT → List LT → Bool
 | [], [] => true
 | x :: xs, y :: ys => x.eq y && eqTs xs ys
 | _, _ => false
end
/-- - -/
def cellF : F → Bool
 | .lit (.agg _) => false
 | .lit (.tuple _) => false
 | _ => true
/-- - -/
def tyF : LT → F → Bool
 | .int k, .lit (.int k' _) => decide (k = k')
 | .bool, .lit (.bool _) => true
 | .str, .lit (.string _) => true
 | .lst ts, .lst ts' _ => eqTs ts ts'
 | .any, x => cellF x
 | _, _ => false
def tyFs : List LT → List F → Bool
 | [], [] => true
 | t :: ts, x :: xs => tyF t x && tyFs ts xs
 | _, _ => false

def zeroRow (P : Program) (t : TypeId) : Option (List F) := do
 let z ← (← P.info? t).zero
 let ts := lty P 20 t
 let row := zeroFs ts z.cells.toList
 if tyFs ts row && z.cells.size == ts.length then some row else none
def zeroLeaves (P : Program) (t : TypeId) : Option (List V) := do
 let z ← (← P.info? t).zero
 if z.cells.size == (lty P 20 t).length then some (typedLeaves (lty P 20 t) (z.cells.toList.map fun c => .f (.lit c))) else none

/-! ### the environment -/
def getS (env : Env) (t : Nat) : V := env.getD t .undef
def partOf : V → Nat → V
 | .obj row, j => row.getD j .undef
 | .tup row, j => row.getD j .undef
 | _, _ => .undef
def getLoc (env : Env) (l : Loc) : V := match l.leaf with
 | none => getS env l.slot
 | some j => partOf (getS env l.slot) j
/-- - -/
def mentsV1 : V → List Loc
 | .lent l _ _ => [l]
 | .lsub l _ _ _ => [l]
 | .ref s _ => [⟨s, none⟩]
 | .eref l _ _ => [l]
 | .cref s => [⟨s, none⟩]
 | .mref l => [l]
 | .xl l _ _ => [l]
 | _ => []
def mentsV : V → List Loc
 | .agg xs => xs.flatMap mentsV1
 | .clos _ xs => xs.flatMap mentsV1
 | v => mentsV1 v
inductive KQ where | slot (s : Nat) | loc (l : Loc) | leaves (s j n : Nat) | others (ls : List Nat)
def KQ.hits : KQ → Loc → Bool
 | .slot s, l => l.slot == s
 | .loc m, l => l == m
 | .others ls, l => !hasN ls l.slot
 | .leaves s j n, l => l.slot == s && (match l.leaf with | some i => j ≤ i && i < j + n | none => false)
def killV1 (q : KQ) : V → V
 | .lent l k n => bif q.hits l then .undef else .lent l k n
 | .lsub l k o n => bif q.hits l then .undef else .lsub l k o n
 | .ref s j => bif q.hits ⟨s, none⟩ then .undef else .ref s j
 | .eref l i j => bif q.hits l then .undef else .eref l i j
 | .cref s => bif q.hits ⟨s, none⟩ then .undef else .cref s
 | .mref l => bif q.hits l then .undef else .mref l
 | .xl l k n => bif q.hits l then .undef else .xl l k n
 | v => v
def killV (q : KQ) : V → V
 | .agg xs => .agg (xs.map (killV1 q))
 | .clos f xs => .clos f (xs.map (killV1 q))
 | v => killV1 q v
/-- - -/
inductive Upd where
 | set (t : Nat) (v : V)
 | leaf (s j : Nat) (v : V)
 | rows (l : Loc) (rows : Rows)
 | kill (q : KQ)
def putLeaf (v : V) (j : Nat) (x : V) : V := match v with
 | .obj row => .obj (row.set j x)
 | .tup row => .tup (row.set j x)
 | v => v
def putRows (v : V) (rows : Rows) : V := match v with
 | .own ts _ => .own ts rows
 | v => v
def modLoc (env : Env) (l : Loc) (g : V → V) : Env := match l.leaf with
 | none => env.set l.slot (g (getS env l.slot))
 | some j => env.set l.slot (putLeaf (getS env l.slot) j (g (partOf (getS env l.slot) j)))
def apply1 (env : Env) : Upd → Env
 | .set t v => env.set t v
 | .leaf s j v => env.set s (putLeaf (getS env s) j v)
 | .rows l rows => modLoc env l (putRows · rows)
 | .kill q => env.map (killV q)
def applyU : List Upd → Env → Env
 | [], env => env
 | u :: us, env => applyU us (apply1 env u)

/-! ### steps: checks, updates, a result -/
def M (α : Type) : Type := Env → Option (List Bool × List Upd × α)
def M.ret {α : Type} (a : α) : M α := fun _ => some ([], [], a)
def M.bind {α β : Type} (m : M α) (f : α → M β) : M β := fun env =>
 match m env with
 | none => none
 | some (cs, us, a) => match f a (applyU us env) with
  | none => none
  | some (cs', us', b) => some (cs ++ cs', us ++ us', b)
instance : Monad M where
 pure := M.ret
 bind := M.bind
def bad {α : Type} (s : String) : M α := fun _ => fail s
def chk (b : Bool) : M Unit := fun _ => some ([b], [], ())
def upd (us : List Upd) : M Unit := fun _ => some ([], us, ())
def opt {α : Type} (x : Option α) : M α := fun _ => match x with | none => none | some a => some ([], [], a)
def checks (cs : List Bool) : M Unit := fun _ => some (cs, [], ())
def isUndef : V → Bool | .undef => true | _ => false
/-- - -/
def slotM (t : Nat) : M V := fun env => bif isUndef (getS env t) then fail "slot" else some ([], [], getS env t)
/-- - -/
def put (t : Nat) (v : V) : M Unit := bif (mentsV v).any (fun l => l.slot == t) then bad "put: leans on itself" else upd [.kill (.slot t), .set t v]
def putD (d : Option Tmp) (v : V) : M Unit := match d with
 | some t => put t v
 | none => upd []
def locM (l : Loc) : M V := match l.leaf with
 | none => slotM l.slot
 | some j => do
  let v ← slotM l.slot
  bif isUndef (partOf v j) then bad "loc" else pure (partOf v j)
def setLoc (l : Loc) (v : V) : M Unit := match l.leaf with
 | none => upd [.set l.slot v]
 | some j => upd [.leaf l.slot j v]
def leafUs (s : Nat) : Nat → List V → List Upd
 | _, [] => []
 | j, x :: xs => .leaf s j x :: leafUs s (j + 1) xs
/-- - -/
def goneObj (s : Nat) (row : List V) : M Unit := upd (.kill (.leaves s 0 row.length) :: leafUs s 0 (row.map fun _ => V.undef))
/-- - -/
def goneLoc (l : Loc) : M Unit := do
 upd [.kill (.loc l)]
 setLoc l .undef
def goneSlot (t : Nat) : M Unit := upd [.kill (.slot t), .set t .undef]

/-! ### reading -/
/-- - -/
def mx (l : Loc) (ts : List LT) (rows : Rows) : V := bif isNx ts then .xl l (kN ts) rows.length else .mref l
def alias1 (t : Nat) : Nat → V → V
 | j, .own ts rows => bif isMp ts then mx ⟨t, some j⟩ ts rows else .lent ⟨t, some j⟩ ts.length rows.length
 | _, v => v
def aliasLs (t : Nat) : Nat → List V → List V
 | _, [] => []
 | j, x :: xs => alias1 t j x :: aliasLs t (j + 1) xs
def aliasV (t : Nat) : V → V
 | .own ts rows => bif isMp ts then mx ⟨t, none⟩ ts rows else .lent ⟨t, none⟩ ts.length rows.length
 | .obj _ => .ref t 0
 | v => v
/-- - -/
class Globs where
 view : Nat → Option (List LT × Rows)
def raw [Globs] : Operand → M V
 | .tmp t => slotM t
 | .const (.agg cs) => pure (.agg (cs.toList.map fun c => .f (.lit c)))
 | .const v => pure (.f (.lit v))
 | .global g => match Globs.view g with
  | some (ts, rows) => pure (.iref ts rows 0 0)
  | none => bad "global"
 | .func f => pure (.clos f [])
def rd [Globs] : Operand → M V
 | .tmp t => do
  let v ← slotM t
  pure (aliasV t v)
 | x => raw x
def raws [Globs] : List Operand → M (List V)
 | [] => pure []
 | x :: xs => do
  let v ← raw x
  let vs ← raws xs
  pure (v :: vs)
def rds [Globs] : List Operand → M (List V)
 | [] => pure []
 | x :: xs => do
  let v ← rd x
  let vs ← rds xs
  pure (v :: vs)
def rowsOf : V → Option (List LT × Rows)
 | .own ts rows => some (ts, rows)
 | .f (.lst ts rows) => some (ts, rows)
 | _ => fail "rowsOf"
def rowsM (l : Loc) : M (List LT × Rows) := do
 let v ← locM l
 opt (rowsOf v)
def viewM : V → M (List LT × Rows)
 | .f (.lst ts rows) => pure (ts, rows)
 | .bor ts rows => pure (ts, rows)
 | .own ts rows => if isMp ts then bad "view: a map" else pure (ts, rows)
 | .f (.lit (.slice none 0 0)) => pure ([], [])
 | .lent l _ _ => rowsM l
 | .lsub l _ off len => do
  let (ts, rows) ← rowsM l
  pure (ts, (rows.drop off).take len)
 | _ => bad "view: no list"
def isTup : V → Bool | .tup _ => true | _ => false
def hasOwn : V → Bool
 | .own _ _ => true
 | _ => false

def fzLeaf : V → V
 | .own ts r => bif isMp ts then .undef else .f (.lst ts r)
 | v => v
/-- - -/
def fzAgg : V → V
 | .agg xs => .agg (xs.map fzLeaf)
 | v => v
/-! ### taking: what is to be kept somewhere else -/
def takeLoc (mv : Bool) (l : Loc) : M V := do
 match ← locM l with
 | .own ts rows =>
  if mv || isTup (← slotM l.slot) then do
   goneLoc l
   pure (.own ts rows)
  else if isMp ts then bad "take: a map is not shared" else do
   setLoc l (.f (.lst ts rows))
   pure (.f (.lst ts rows))
 | .f x => pure (.f x)
 | _ => bad "take: nothing there"
def takeSub (mv : Bool) (l : Loc) (off len : Nat) : M V := do
 match ← locM l with
 | .own ts rows =>
  if mv then do
   goneLoc l
   pure (.own ts ((rows.drop off).take len))
  else do
   setLoc l (.f (.lst ts rows))
   pure (.f (.lst ts ((rows.drop off).take len)))
 | .f (.lst ts rows) => pure (.f (.lst ts ((rows.drop off).take len)))
 | _ => bad "take: nothing there (sub)"
def takeLeaf (mv : Bool) : V → M V
 | .lent l _ _ => takeLoc mv l
 | .mref l => takeLoc mv l
 | .xl l _ _ => takeLoc mv l
 | .lsub l _ off len => takeSub mv l off len
 | .f x => pure (.f x)
 | .bor ts rows => pure (.bor ts rows)
 | .own ts rows => pure (.own ts rows)
 | .undef => bad "take: undef leaf"
 | _ => bad "take: leaf"
def takeLeaves (mv : Bool) : List V → M (List V)
 | [] => pure []
 | x :: xs => do
  let y ← takeLeaf mv x
  let ys ← takeLeaves mv xs
  pure (y :: ys)
def takeOp [Globs] (mv : Bool) (x : Operand) : M V := do
 match x, ← raw x with
 | .tmp t, .own ts rows => do
  goneSlot t
  pure (.own ts rows)
 | .tmp t, .obj row => do
  goneSlot t
  pure (.obj row)
 | .tmp t, .agg xs => do
  if xs.any hasOwn then goneSlot t else pure ()
  let ys ← takeLeaves mv xs
  pure (.agg ys)
 | _, .agg xs => pure (.agg xs)
 | _, v => takeLeaf mv v
/-- - -/
def markNx (mk : List Nat) (v : V) : V := match mk with
 | [] => v
 | m :: mk => match v with
  | .own ts rows => bif isMp ts then .own ts rows else match rows with
   | [] => .own (.nx none (m :: mk) :: ts) []
   | r :: rs => .own ts (r :: rs)
  | v => v
def leavesOf : V → List V
 | .agg xs => xs
 | v => [v]
def toF : V → Option F
 | .f x => some x
 | .own ts rows => if isMp ts then fail "toF: a map" else some (.lst ts rows)
 | .bor _ _ => fail "toF: borrowed"
 | .undef => fail "toF: undef"
 | _ => fail "toF: no frozen value"
/-- - -/
def toFs : List LT → List V → Option (List F)
 | [], [] => some []
 | t :: ts, x :: xs => match toF x, toFs ts xs with
  | some y, some ys => if tyF t y then some (y :: ys) else fail "toFs: kind"
  | _, _ => none
 | _, _ => fail "toFs: length"
def asI : V → Option Int
 | .f (.lit (.int _ n)) => some n
 | .undef => fail "int expected: undef"
 | _ => fail "int expected"
def asB : V → Option Bool
 | .f (.lit (.bool b)) => some b
 | .undef => fail "bool expected: undef"
 | _ => fail "bool expected"
def vInt (k : IntKind) (n : Int) : V := .f (.lit (.int k n))
def vBool (b : Bool) : V := .f (.lit (.bool b))
def vStr (s : ByteArray) : V := .f (.lit (.string s))

/-! ### arithmetic -/
def strMax : Nat := 2 ^ 40
def bitsOp (k : IntKind) (r : BitVec k.bits) : Int := k.wrap r.toNat
/-- - -/
def mulK (k : IntKind) (x y : Int) : Int := match k with
 | .u32 => y * x
 | .u64 => y * x
 | _ => x * y
theorem mulK_eq (k : IntKind) (x y : Int) : mulK k x y = x * y := by cases k <;> first | rfl | exact Int.mul_comm y x
def litBin (op : BinOp) (a b : Value) : Option (List Bool × Value) :=
 match op, a, b with
 | .shl, .int k x, .int _ y => some ([decide (0 ≤ y)], .int k (k.wrap (x * 2 ^ (min y.toNat k.bits))))
 | .shr, .int k x, .int _ y => some ([decide (0 ≤ y)], .int k (x.fdiv (2 ^ (min y.toNat k.bits))))
 | op, .int k x, .int k' y =>
  if k = k' then
   match op with
   | .add => some ([], .int k (k.wrap (x + y)))
   | .sub => some ([], .int k (k.wrap (x - y)))
   | .mul => some ([], .int k (k.wrap (mulK k x y)))
   | .quo => some ([decide (y ≠ 0)], .int k (k.wrap (x.tdiv y)))
   | .rem => some ([decide (y ≠ 0)], .int k (x.tmod y))
   | .and => some ([], .int k (bitsOp k (BitVec.ofInt k.bits x &&& BitVec.ofInt k.bits y)))
   | .or => some ([], .int k (bitsOp k (BitVec.ofInt k.bits x ||| BitVec.ofInt k.bits y)))
   | .xor => some ([], .int k (bitsOp k (BitVec.ofInt k.bits x ^^^ BitVec.ofInt k.bits y)))
   | .andNot => some ([], .int k (bitsOp k (BitVec.ofInt k.bits x &&& ~~~ BitVec.ofInt k.bits y)))
   | .eql => some ([], .bool (x == y))
   | .neq => some ([], .bool (x != y))
   | .lss => some ([], .bool (decide (x < y)))
   | .leq => some ([], .bool (decide (x ≤ y)))
   | .gtr => some ([], .bool (decide (x > y)))
   | .geq => some ([], .bool (decide (x ≥ y)))
   | _ => fail "int op"
  else fail "kinds"
 | op, .string x, .string y =>
  match op with
  | .add => some ([decide (x.size + y.size ≤ strMax)], .string (x ++ y))
  | .eql => some ([], .bool (x.toList == y.toList))
  | .neq => some ([], .bool (!(x.toList == y.toList)))
  | .lss => some ([], .bool (Op.bytesLess x.toList y.toList))
  | .leq => some ([], .bool (Op.bytesLess x.toList y.toList || x.toList == y.toList))
  | .gtr => some ([], .bool (!(Op.bytesLess x.toList y.toList || x.toList == y.toList)))
  | .geq => some ([], .bool (!(Op.bytesLess x.toList y.toList)))
  | _ => fail "string op"
 | _, _, _ => fail "litBin"
/-- - -/
def litEq (d : Option TypeDesc) (a b : Value) : Option Bool :=
 match d, a, b with
 | some .bool, .bool x, .bool y => some (x == y)
 | some (.pointer _), .pointer none, .pointer none => some true
 | some (.map _ _), .map none, .map none => some true
 | some (.slice _), .slice none _ _, .slice none 0 0 => some true
 | some (.slice _), .slice (some _) _ _, .slice none 0 0 => some false
 | some (.func _ _ _), .nilFunc, .nilFunc => some true
 | _, _, _ => fail "litEq"
def eqRes (op : BinOp) (r : Option Bool) : Option (List Bool × V) :=
 match op, r with
 | .eql, some b => some ([], vBool b)
 | .neq, some b => some ([], vBool (!b))
 | _, _ => fail "eqRes"
def isRefV : V → Bool
 | .obj _ => true
 | .ref _ _ => true
 | .eref _ _ _ => true
 | .iref _ _ _ _ => true
 | _ => false
def isFunV : V → Bool
 | .clos _ _ => true
 | .cref _ => true
 | _ => false
def isCref : V → Bool
 | .cref _ => true
 | _ => false
def isMapV : V → Bool
 | .mref _ => true
 | _ => false
def isPtrD : Option TypeDesc → Bool
 | some (.pointer _) => true
 | _ => false
def isFunD : Option TypeDesc → Bool
 | some (.func _ _ _) => true
 | _ => false
def plainD : Option TypeDesc → Bool
 | some (.interface _) => false
 | some _ => true
 | none => false
/-- - -/
def leafEq (d : Option TypeDesc) (x y : V) : Option Bool :=
 match d, x, y with
 | some (.int _), .f (.lit (.int k a)), .f (.lit (.int k' b)) => if k = k' then some (a == b) else fail "leafEq: kinds"
 | some .string, .f (.lit (.string a)), .f (.lit (.string b)) => some (a == b)
 | some .bool, .f (.lit (.bool a)), .f (.lit (.bool b)) => some (a == b)
 | _, _, _ => fail "leafEq"
def fieldsEq (P : Program) : Nat → List Field → List V → List V → Option Bool
 | _, [], [], [] => some true
 | n, f :: fs, x :: xs, y :: ys => if f.name != "_" && f.offset == n then
   match leafEq (und P f.type) x y, fieldsEq P (n + 1) fs xs ys with
   | some a, some b => some (a && b)
   | _, _ => none
  else fail "fieldsEq"
 | _, _, _, _ => fail "fieldsEq"
def itemsEq (d : Option TypeDesc) : List V → List V → Option Bool
 | [], [] => some true
 | x :: xs, y :: ys => match leafEq d x y, itemsEq d xs ys with
  | some a, some b => some (a && b)
  | _, _ => none
 | _, _ => fail "itemsEq"
/-- - -/
def aggEq (P : Program) (t : TypeId) (xs ys : List V) : Option Bool := match und P t with
 | some (.struct fs) => if !P.stoodInHeld t && !P.eqGuardType P.depth t then fieldsEq P 0 fs.toList xs ys else fail "aggEq"
 | some (.array n e) => if !P.eqGuardType P.depth t && sz P e == some 1 && xs.length == n then itemsEq (und P e) xs ys else fail "aggEq"
 | _ => fail "aggEq"
def isSliceD : Option TypeDesc → Bool
 | some (.slice _) => true
 | _ => false
/-- - -/
def someRows : V → Bool
 | .bor _ (_ :: _) => true
 | .f (.lst _ (_ :: _)) => true
 | _ => false
def binV (P : Program) (t : TypeId) (op : BinOp) (a b : V) : Option (List Bool × V) :=
 match a, b with
 | .f (.lit x), .f (.lit y) => match litBin op x y with
  | some (cs, r) => some (cs, .f (.lit r))
  | none => eqRes op (litEq (und P t) x y)
 | .agg xs, .agg ys => eqRes op (aggEq P t xs ys)
 | x, .f (.lit (.pointer none)) => if isPtrD (und P t) && isRefV x then eqRes op (some false) else fail "nil"
 | x, .f (.lit (.slice none 0 0)) => if isSliceD (und P t) && someRows x then eqRes op (some false) else fail "nil"
 | x, .f (.lit .nilFunc) => if isFunD (und P t) && isFunV x then eqRes op (some false) else fail "nil"
 | _, _ => fail "binV"
def unV (op : UnOp) (a : V) : Option V :=
 match op, a with
 | .neg, .f (.lit (.int k n)) => some (vInt k (k.wrap (0 - n)))
 | .xor, .f (.lit (.int k n)) => some (vInt k (bitsOp k (BitVec.ofInt k.bits (if k.signed then -1 else k.max) ^^^ BitVec.ofInt k.bits n)))
 | .not, .f (.lit (.bool b)) => some (vBool !b)
 | _, _ => fail "unV"
def bytesRows (s : ByteArray) : Rows := s.data.toList.map fun b => [.lit (.int .u8 b.toNat)]
def rowInt (r : List F) : Int := (r.headD default).toInt
def rowsBytes (rows : Rows) : ByteArray := (rows.map rowInt).foldl (fun r n => r.push (UInt8.ofNat n.toNat)) ByteArray.empty
def convInt (k : IntKind) : V → M V
 | .f (.lit (.int _ n)) => pure (vInt k (k.wrap n))
 | _ => bad "conv: to int"
def convBytes : Option TypeDesc → V → M V
 | some (.int .u8), x => do
  let (ts, rows) ← viewM x
  if eqTs ts [.int .u8] || rows.isEmpty then pure (vStr (rowsBytes rows)) else bad "conv: no bytes"
 | _, _ => bad "conv: slice to string"
def convIntStr : V → M V
 | .f (.lit (.int _ n)) => pure (vStr (Utf8.encode n))
 | _ => bad "conv: int to string"
def convStrStr : V → M V
 | .f (.lit (.string s)) => pure (vStr s)
 | _ => bad "conv: string to string"
def convStrBytes : Option TypeDesc → V → M V
 | some (.int .u8), .f (.lit (.string s)) => pure (.own [.int .u8] (bytesRows s))
 | _, _ => bad "conv: string to slice"
def isU8 : Option TypeDesc → Bool
 | some (.int .u8) => true
 | _ => false
/-- - -/
def convSame (s d : TypeId) (e : Option TypeDesc) : V → M V
 | .lent ⟨t, none⟩ k n => do
  let v ← slotM t
  match v with
  | .own _ (_ :: _) => if s = d ∧ isU8 e = true then pure (.lent ⟨t, none⟩ k n) else bad "conv: slice"
  | _ => bad "conv: slice"
 | _ => bad "conv: slice"
def convV (P : Program) (src dst : TypeId) (a : V) : M V :=
 match und P src, und P dst with
 | some (.int _), some (.int k) => convInt k a
 | some (.int _), some .string => convIntStr a
 | some .string, some .string => convStrStr a
 | some .string, some (.slice e) => convStrBytes (und P e) a
 | some (.slice e), some .string => convBytes (und P e) a
 | some (.slice e), some (.slice _) => convSame src dst (und P e) a
 | _, _ => bad "conv"

/-! ### slices and places -/
def bound [Globs] (x : Option Operand) (d : Nat) (top : Nat) : M Nat :=
 match x with
 | none => pure d
 | some o => do
  let n ← opt (asI (← raw o))
  chk (decide (0 ≤ n ∧ n ≤ top))
  pure n.toNat
def noMax (mx : Option Operand) : M Unit := match mx with | none => pure () | some _ => bad "slice: max"
def sameK (a b : Nat) : M Unit := if a = b then pure () else bad "size of an element"
/-- - -/
def isNone3 : Option Operand → Option Operand → Option Operand → Bool
 | none, some (.const (.int _ 0)), some (.const (.int _ 0)) => true
 | _, _, _ => false
def sliceN (k : Option Nat) (x : V) : M V := match k, x with
 | some _, .bor ts _ => if isMp ts then bad "slice: of a map" else pure (.own ts [])
 | some _, .f (.lst ts _) => if isMp ts then bad "slice: of a map" else pure (.own ts [])
 | _, _ => bad "slice: nothing of what"
def sliceV [Globs] (k : Option Nat) (x : V) (lo hi mx : Option Operand) : M V :=
 bif isNone3 lo hi mx then sliceN k x else match k, x with
 | none, .f (.lit (.string s)) => do
  noMax mx
  let h ← bound hi s.size s.size
  let l ← bound lo 0 h
  pure (vStr (s.extract l h))
 | some k, .lent l k' n => do
  noMax mx
  sameK k k'
  let h ← bound hi n n
  let a ← bound lo 0 h
  pure (.lsub l k a (h - a))
 | some k, .lsub l k' off len => do
  noMax mx
  sameK k k'
  let h ← bound hi len len
  let a ← bound lo 0 h
  pure (.lsub l k (off + a) (h - a))
 | some k, .f (.lst ts rows) => do
  noMax mx
  sameK k ts.length
  let h ← bound hi rows.length rows.length
  let a ← bound lo 0 h
  pure (.f (.lst ts ((rows.drop a).take (h - a))))
 | some k, .bor ts rows => do
  noMax mx
  sameK k ts.length
  let h ← bound hi rows.length rows.length
  let a ← bound lo 0 h
  pure (.bor ts ((rows.drop a).take (h - a)))
 | _, _ => bad "slice: of what"
/-- - -/
def kIfSlice (P : Program) (t : TypeId) : Option (Option Nat) := match und P t with
 | some (.slice e) => (sz P e).map some
 | some .string => some none
 | _ => fail "slice: type"
def fieldOff (P : Program) (t : TypeId) (i : Nat) : Option (Nat × TypeId) :=
 match und P t with
 | some (.struct fs) => (fs[i]?).map fun f => (f.offset, f.type)
 | _ => fail "field of no struct"
/-- - -/
def pack (P : Program) (t : TypeId) (xs : List V) : Option V :=
 match und P t, sz P t with
 | some _, some n => if xs.length = n then (if isAggT P t then some (.agg xs) else xs.head?) else fail "pack: size"
 | _, _ => none
def rowAt (rows : Rows) (i : Nat) : List F := rows.getD i []
def leavesAt (ts : List LT) (rows : Rows) (i j n : Nat) : List V := (((reRow ts (rowAt rows i)).drop j).take n).map V.f
/-- - -/
def hitsMk (mk : List Nat) (j : Nat) : Nat → Bool
 | 0 => false
 | n + 1 => bif hasN mk j then true else hitsMk mk (j + 1) n
def hitsNx (ts : List LT) (j n : Nat) : Bool := match ts with
 | .nx _ mk :: _ => hitsMk mk j n
 | _ => false
def loadV (P : Program) (t : TypeId) (a : V) : M V := do
 let n ← opt (sz P t)
 match a with
 | .ref s j => do
  match ← slotM s with
  | .obj row => opt (pack P t (aliasLs s j ((row.drop j).take n)))
  | _ => bad "load: ref to no object"
 | .eref l i j => do
  let (ts, rows) ← rowsM l
  bif hitsNx ts j n then bad "load: lists of their own" else opt (pack P t (leavesAt (ksOf ts) rows i j n))
 | .iref ts rows i j => opt (pack P t (leavesAt ts rows i j n))
 | _ => bad "load: of what"
def splice {α : Type} (xs : List α) (j : Nat) (ys : List α) : List α := xs.take j ++ ys ++ xs.drop (j + ys.length)
def okLeaf : V → Bool
 | .f x => cellF x
 | .bor _ _ => true
 | .own _ _ => true
 | _ => false
/-- - -/
def stR (ts : List LT) (rows : Rows) (i j : Nat) (ys : List F) : Rows := rows.set i (splice (reRow ts (rowAt rows i)) j ys)
/-! what stands in a row, for the print -/
def dropF : Nat → List F → List F
 | 0, l => l
 | n + 1, l => dropF n l.tail
def fI (r : Rows) (i j : Nat) : Int := F.toInt ((dropF j (rowAt r i)).headD default)
def fB (r : Rows) (i j : Nat) : Bool := F.toBool ((dropF j (rowAt r i)).headD default)
def fS (r : Rows) (i j : Nat) : ByteArray := F.toStr ((dropF j (rowAt r i)).headD default)
def fR (r : Rows) (i j : Nat) : Rows := F.toRows ((dropF j (rowAt r i)).headD default)
/-- - -/
def takeNx (l : Loc) (h : Option (Nat × Nat)) (mk : List Nat) (ks : List LT) (rows : Rows) (i j : Nat) : M V := match h with
 | none => match ks[j]? with
  | some (.lst ts) => do
   setLoc l (.own (.nx (some (i, j)) mk :: ks) rows)
   pure (.own ts (fR rows i j))
  | _ => bad "load: no list"
 | some _ => bad "load: another list is out"
def loadNx (P : Program) (t : TypeId) (l : Loc) (ts : List LT) (rows : Rows) (i j : Nat) : M V := match ts with
 | .nx h mk :: ks => bif hasN mk j && (sz P t == some 1 && isSliceD (und P t)) then takeNx l h mk ks rows i j else loadV P t (.eref l i j)
 | _ => loadV P t (.eref l i j)
def loadX (P : Program) (t : TypeId) (a : V) : M V := match a with
 | .eref l i j => do
  match ← locM l with
  | .own ts rows => loadNx P t l ts rows i j
  | _ => loadV P t (.eref l i j)
 | a => loadV P t a
def letV {α β : Type} (a : α) (f : α → β) : β := f a
/-- - -/
def fillNx (l : Loc) (h : Option (Nat × Nat)) (mk : List Nat) (ks : List LT) (rows : Rows) (i j : Nat) (xs : List V) : M Unit := match h, xs with
 | some (i', j'), [.own ts rs] => bif Nat.beq j j' then (match ks[j]? with
  | some (.lst ts') => bif eqTs ts' ts && !isMp ts then (do
    chk (Nat.beq i i')
    setLoc l (.own (.nx none mk :: ks) (stR ks rows i j [.lst ts rs])))
   else bad "store: kinds"
  | _ => bad "store: no list")
  else bad "store: another list"
 | _, _ => bad "store: no list of its own"
def storeNx (l : Loc) (ts : List LT) (rows : Rows) (i j n : Nat) (xs : List V) : M Unit := match ts with
 | .nx h mk :: ks => bif hasN mk j then (bif Nat.beq n 1 then fillNx l h mk ks rows i j xs else bad "store: of a row with lists")
  else bif hitsMk mk j n then bad "store: of a row with lists" else do
   let ys ← opt (toFs ((ks.drop j).take n) xs)
   if j + n > ks.length then bad "store: out" else
   upd [.rows l (stR ks rows i j ys)]
 | _ => bad "store"
def storeV (P : Program) (t : TypeId) (a : V) (v : V) : M Unit := do
 let n ← opt (sz P t)
 let xs := typedLeaves (lty P 20 t) (leavesOf v)
 if xs.length ≠ n ∨ (leavesOf v).length ≠ n then bad "store: size" else
 match a with
 | .ref s j => do
  match ← slotM s with
  | .obj row =>
   if j + n > row.length then bad "store: out" else
   if !xs.all okLeaf then bad "store: leaf" else
   upd (.kill (.leaves s j n) :: leafUs s j xs)
  | _ => bad "store: ref to no object"
 | .eref l i j => do
  match ← locM l with
  | .own ts rows => bif isNx ts then storeNx l ts rows i j n xs else do
   let ys ← opt (toFs ((ts.drop j).take n) xs)
   if j + n > ts.length then bad "store: out" else
   upd [.rows l (stR ts rows i j ys)]
  | _ => bad "store: list not owned"
 | _ => bad "store: to what"
def indexAddrV (P : Program) (t : TypeId) (x i : V) : M V := do
 let n ← opt (asI i)
 match und P t with
 | some (.slice e) => do
  let k ← opt (sz P e)
  match x with
  | .lent l k' m => do
   sameK k k'
   chk (decide (0 ≤ n ∧ n < m))
   pure (.eref l n.toNat 0)
  | .xl l k' m => do
   sameK k k'
   chk (decide (0 ≤ n ∧ n < m))
   pure (.eref l n.toNat 0)
  | .lsub l k' off len => do
   sameK k k'
   chk (decide (0 ≤ n ∧ n < len))
   pure (.eref l (off + n.toNat) 0)
  | .f (.lst ts rows) => do
   sameK k ts.length
   chk (decide (0 ≤ n ∧ n < rows.length))
   pure (.iref ts rows n.toNat 0)
  | .bor ts rows => do
   sameK k ts.length
   chk (decide (0 ≤ n ∧ n < rows.length))
   pure (.iref ts rows n.toNat 0)
  | .undef => bad "index: undef"
  | _ => bad "index: of what"
 | some (.array len e) => do
  let k ← opt (sz P e)
  chk (decide (0 ≤ n ∧ n < len))
  match x with
  | .ref s j => pure (.ref s (j + n.toNat * k))
  | .eref l a j => pure (.eref l a (j + n.toNat * k))
  | .iref ts rows a j => bif Nat.beq a 0 && (Nat.beq j 0 && (Nat.beq ts.length k && Nat.beq rows.length len)) then pure (.iref ts rows n.toNat 0) else pure (.iref ts rows a (j + n.toNat * k))
  | _ => bad "index: array where"
 | _ => bad "index: type"
def shiftRef (v : V) (d : Nat) : Option V :=
 match v with
 | .ref s j => some (.ref s (j + d))
 | .eref l i j => some (.eref l i (j + d))
 | .iref ts rows i j => some (.iref ts rows i (j + d))
 | .undef => fail "fieldAddr: undef"
 | _ => fail "fieldAddr: of what"
def partV (P : Program) (t : TypeId) (xs : List V) (off : Nat) : Option V :=
 match sz P t with
 | some n => pack P t ((xs.drop off).take n)
 | none => none
def indexV (P : Program) (t : TypeId) (x i : V) : M V := do
 let n ← opt (asI i)
 match und P t, x with
 | some .string, .f (.lit (.string s)) => do
  chk (decide (0 ≤ n ∧ n < s.size))
  pure (vInt .u8 ((s.data.getD n.toNat 0).toNat))
 | some (.array len e), .agg xs => do
  let k ← opt (sz P e)
  chk (decide (0 ≤ n ∧ n < len))
  opt (partV P e xs (n.toNat * k))
 | _, _ => bad "index value"

/-! ### maps -/
def rowMax : Nat := 2 ^ 30
def keyEqF : F → F → Bool
 | .lit (.int _ a), .lit (.int _ b) => a == b
 | .lit (.string a), .lit (.string b) => a == b
 | .lit (.bool a), .lit (.bool b) => a == b
 | _, _ => false
/-- - -/
def mRow (k : F) (z : List F) : Rows → List F
 | [] => z
 | r :: rs => bif keyEqF k (r.headD default) then r.tail else mRow k z rs
def mHas (k : F) : Rows → Bool
 | [] => false
 | r :: rs => bif keyEqF k (r.headD default) then true else mHas k rs
/-- - -/
def mPut (k : F) (x : List F) : Rows → Rows
 | [] => [k :: x]
 | r :: rs => bif keyEqF k (r.headD default) then (k :: x) :: rs else r :: mPut k x rs
/-- - -/
def zeroAgg (P : Program) (e : TypeId) : Bool := match (P.info? e).bind (·.zero) with
 | some (.agg _) => true
 | _ => false
/-- - -/
def mapTs (P : Program) (t : TypeId) : Option (List LT × List LT) := match und P t with
 | some (.map k e) => match lty P 20 k with
  | [kt] => if (sz P k == some 1) && (sz P e == some (lty P 20 e).length) && (zeroRow P e).isSome && keyD (und P k) && (isAggT P e || (lty P 20 e).length == 1) && (zeroAgg P e == isAggT P e) then some (.mp (isAggT P e) :: kt :: lty P 20 e, lty P 20 e) else fail "mapTs"
  | _ => fail "mapTs: key"
 | _ => fail "mapTs"
 where keyD : Option TypeDesc → Bool
 | some (.int _) => true
 | some .string => true
 | some .bool => true
 | _ => false
def mapElem (P : Program) (t : TypeId) : Option TypeId := match und P t with
 | some (.map _ e) => some e
 | _ => fail "mapElem"
def litKey : V → Option F
 | .f (.lit (.int k n)) => some (.lit (.int k n))
 | .f (.lit (.string s)) => some (.lit (.string s))
 | .f (.lit (.bool b)) => some (.lit (.bool b))
 | _ => fail "key"
def mapAtM (mts : List LT) (m : V) : M (Loc × Rows) :=
 match m with
 | .mref l => do
  match ← locM l with
  | .own ts rows => if eqTs mts ts then pure (l, rows) else bad "map: kinds"
  | _ => bad "map: not there"
 | _ => bad "map: what"
def packR (P : Program) (t : TypeId) (row : List F) : Option V := pack P t ((reRow (lty P 20 t) row).map V.f)
def lookupV (P : Program) (t : TypeId) (m k : V) (ok : Bool) : M V := do
 let (mts, ts) ← opt (mapTs P t)
 let e ← opt (mapElem P t)
 let (_, rows) ← mapAtM mts m
 let key ← opt (litKey k)
 bif tyF (mts.getD 1 .any) key then do
  let z ← opt (zeroRow P e)
  let v ← opt (packR P e (mRow key z rows))
  pure (bif ok then .tup [v, vBool (mHas key rows)] else v)
 else bad "lookup: key"
def isAggV : V → Bool
 | .agg _ => true
 | _ => false
def mapSet (P : Program) (t : TypeId) (m k v : V) : M Unit := do
 let (mts, ts) ← opt (mapTs P t)
 let e ← opt (mapElem P t)
 let (l, rows) ← mapAtM mts m
 let key ← opt (litKey k)
 let x ← opt (toFs ts (typedLeaves ts (leavesOf v)))
 bif tyF (mts.getD 1 .any) key && (isAggV v == isAggT P e) then do
  chk (decide (rows.length < rowMax))
  upd [.rows l (mPut key x rows)]
 else bad "mapSet: key"

/-! ### the builtins -/
def lenV (k : Option Nat) (x : V) : M Int :=
 match k, x with
 | none, .f (.lit (.string s)) => pure s.size
 | some _, .lent _ _ n => pure n
 | some _, .xl _ _ n => pure n
 | some _, .lsub _ _ _ n => pure n
 | some _, x => do
  let (_, rows) ← viewM x
  pure rows.length
 | _, _ => bad "len"
/-- - -/
def consume [Globs] (ts0 : List LT) (x : Operand) : M (List LT × Rows) := do
 match ← takeOp true x with
 | .own ts rows => pure (ts, rows)
 | .f (.lit (.slice none 0 0)) => pure (ts0, [])
 | _ => bad "append: to what is not owned"
/-- - -/
def spread (ts : List LT) (v : V) : M Rows := match v with
 | .f (.lit (.string b)) => if eqTs ts [.int .u8] then pure (bytesRows b) else bad "spread: string"
 | .f (.lit (.slice none 0 0)) => pure []
 | .f (.lit (.slice (some _) 0 _)) => pure []
 | v => do
  let (ts', rows) ← viewM v
  if eqTs ts ts' then pure rows else bad "spread: kinds"
/-- - -/
def zerosOf (P : Program) (t : TypeId) : TypeDesc → Option (Option (List F))
 | .int _ => match und P t with
  | some (.slice e) => (zeroRow P e).map some
  | _ => fail "zerosOf"
 | _ => some none
def elemTs (P : Program) (t : TypeId) : Option (List LT) := match und P t with
 | some (.slice e) => if sz P e == some (lty P 20 e).length && decide (((P.info? e).map (·.bytes)).getD 0 ≤ 2 ^ 14) && (zeroRow P e).isSome && !isMp (lty P 20 e) then some (lty P 20 e) else fail "elemTs: size"
 | _ => fail "elemTs"
def moreOf [Globs] (ts : List LT) (zs : Option (List F)) (x : Operand) : M Rows := match zs with
 | some z => do
  let n ← opt (asI (← raw x))
  chk (decide (0 ≤ n ∧ n ≤ rowMax))
  pure (List.replicate n.toNat z)
 | none => do
  spread ts (← rd x)
/-- - -/
def appendV [Globs] (P : Program) (t : TypeId) (zs : Option (List F)) (s x : Operand) : M V := do
 let ts ← opt (elemTs P t)
 let more ← moreOf ts zs x
 let (ts', rows) ← consume ts s
 if eqTs ts ts' then (do
  chk (decide (rows.length + more.length ≤ rowMax))
  pure (.own ts (rows ++ more)))
 else bad "append: kinds"
/-- - -/
def nxOk (mk : List Nat) (ts ts' : List LT) : Bool := match ts' with
 | .nx none mk' :: ks => eqN mk mk' && eqTs ts ks
 | _ => false
def consumeNx [Globs] (mk : List Nat) (ts : List LT) (x : Operand) : M Rows := do
 match ← takeOp true x with
 | .own ts' rows => if nxOk mk ts ts' then pure rows else bad "append: kinds"
 | .f (.lit (.slice none 0 0)) => pure []
 | _ => bad "append: to what has no lists"
def appendNx [Globs] (P : Program) (t : TypeId) (mk : List Nat) (s x : Operand) : M V := do
 let ts ← opt (elemTs P t)
 let rows ← consumeNx mk ts s
 let more ← consumeNx mk ts x
 chk (decide (rows.length + more.length ≤ rowMax))
 pure (.own (.nx none mk :: ts) (rows ++ more))
/-- - -/
def nxTs : List LT → List Nat
 | .nx none mk :: _ => mk
 | _ => []
def nxOf : V → List Nat
 | .own ts _ => nxTs ts
 | _ => []
def nxMk (zs : Option (List F)) (v : V) : List Nat := match zs with
 | none => nxOf v
 | some _ => []
def copyV [Globs] (d s : Operand) : M V := do
 let dv ← rd d
 let sv ← rd s
 match dv with
 | .lent l _ _ => do
  match ← locM l with
  | .own ts rows => do
   let src ← spread ts sv
   upd [.rows l (src.take rows.length ++ rows.drop src.length)]
   pure (vInt .i64 (min src.length rows.length : Nat))
  | _ => bad "copy: where"
 | .lsub l _ off len => do
  match ← locM l with
  | .own ts rows => do
   let src ← spread ts sv
   upd [.rows l (rows.take off ++ (src.take len ++ rows.drop (off + min src.length len)))]
   pure (vInt .i64 (min src.length len : Nat))
  | _ => bad "copy: where"
 | _ => bad "copy: to what"
def minI (k : IntKind) : Int → List V → Option V
 | m, [] => some (vInt k m)
 | m, .f (.lit (.int _ y)) :: rest => minI k (if y < m then y else m) rest
 | _, _ => fail "min"
def maxI (k : IntKind) : Int → List V → Option V
 | m, [] => some (vInt k m)
 | m, .f (.lit (.int _ y)) :: rest => maxI k (if y > m then y else m) rest
 | _, _ => fail "max"
def minV : List V → Option V
 | .f (.lit (.int k x)) :: rest => minI k x rest
 | _ => fail "min"
def maxV : List V → Option V
 | .f (.lit (.int k x)) :: rest => maxI k x rest
 | _ => fail "max"

/-! ### calls -/
/-- - -/
inductive Back where | none | slot (s n : Nat) | lst (s : Nat) (ts : List LT)
 deriving Inhabited
def okArg1 : V → Bool
 | .f _ => true
 | .bor _ _ => true
 | .own _ _ => true
 | _ => false
def okArg : V → Bool
 | .agg xs => xs.all okArg1
 | v => okArg1 v
/-- - -/
def takeArg [Globs] (mode : Mode) (lt : LT) (x : Operand) : M (Option V) := match mode with
 | .own => do
  let v ← takeOp true x
  if okArg v then pure (some (typed1 lt v)) else bad "pass: own"
 | .fz => do
  match x, ← raw x with
  | .tmp t, .own _ _ => do
   let v ← takeLoc false ⟨t, none⟩
   match v with
   | .f y => pure (some (.f y))
   | _ => bad "pass: fz"
  | _, _ => do
   let v ← takeOp false x
   if okArg v then pure (some (fzLeaf (fzAgg (typed1 lt v)))) else bad "pass: fz"
 | _ => pure none
def takeArgs [Globs] (P : Program) (mode : Nat → Mode) : Nat → List TypeId → List Operand → M (List (Option V))
 | _, _, [] => pure []
 | j, tys, x :: xs => do
  let y ← takeArg (mode j) ((lty P 20 (tys.headD 0)).headD .any) x
  let ys ← takeArgs P mode (j + 1) tys.tail xs
  pure (y :: ys)
def borLeaf : V → M V
 | .lent l _ _ => do
  let (ts, r) ← rowsM l
  pure (.bor ts r)
 | .lsub l k a b => do
  let (ts, r) ← viewM (.lsub l k a b)
  pure (.bor ts r)
 | .own ts r => if isMp ts then bad "pass: a map" else pure (.bor ts r)
 | .f x => pure (.f x)
 | .bor ts r => pure (.bor ts r)
 | _ => bad "pass: leaf"
def borLeaves : List V → M (List V)
 | [] => pure []
 | x :: xs => do
  let y ← borLeaf x
  let ys ← borLeaves xs
  pure (y :: ys)
/-- - -/
def opSlots : Operand → List Nat
 | .tmp t => [t]
 | _ => []
def borArg (x : Operand) (v : V) : M (V × Back × List Nat) := do
 match v with
 | .agg xs => do
  let ys ← borLeaves xs
  pure (.agg ys, .none, opSlots x ++ (mentsV (.agg xs)).map Loc.slot)
 | v => do
  let y ← borLeaf v
  pure (y, .none, opSlots x ++ (mentsV v).map Loc.slot)
def readOwn (t : Nat) (v : V) : M (V × Back × List Nat) := match v with
 | .own ts r => pure (.own ts r, .lst t ts, [])
 | _ => bad "pass: in and out"
def readObj (t : Nat) (v : V) : M (V × Back × List Nat) := match v with
 | .obj row => pure (.obj row, .slot t row.length, [])
 | _ => bad "pass: ref to nothing"
def readLent (mode : Mode) (x : Operand) (l : Loc) (k n : Nat) : M (V × Back × List Nat) :=
 if mode = .inout then match l.leaf with
  | none => do
   let v ← slotM l.slot
   readOwn l.slot v
  | some _ => bad "pass: in and out"
 else borArg x (.lent l k n)
/-- - -/
def kindF : F → LT
 | .lit (.int k _) => .int k
 | .lit (.bool _) => .bool
 | .lit (.string _) => .str
 | .lst ts _ => .lst ts
 | _ => .any
/-- - -/
def frozenRow : List V → Option (List F)
 | [] => some []
 | .f x :: xs => match cellF x, frozenRow xs with
  | true, some ys => some (x :: ys)
  | _, _ => fail "captured: leaf"
 | _ => fail "captured: no frozen leaf"
/-- - -/
def readCap (v : V) : M (V × List Nat) := match v with
 | .ref s 0 => do
  match ← slotM s with
  | .obj row => do
   let xs ← opt (frozenRow row)
   pure (.iref (xs.map kindF) [xs] 0 0, [s])
  | _ => bad "captured: no object"
 | .iref ts rows i j => pure (.iref ts rows i j, [])
 | .f x => pure (.f x, [])
 | .bor ts rows => pure (.bor ts rows, [])
 | _ => bad "captured: what"
def readCaps : List V → M (List V × List Nat)
 | [] => pure ([], [])
 | x :: xs => do
  let (y, r) ← readCap x
  let (ys, rs) ← readCaps xs
  pure (y :: ys, r ++ rs)
/-- - -/
def readHeld (mode : Mode) (v : V) : M (V × Back × List Nat) :=
 bif mode == .inout then match v with
  | .ref s 0 => do
   let v ← slotM s
   readObj s v
  | _ => bad "held: in and out"
 else do
  let (y, r) ← readCap v
  pure (y, .none, r)
def readHelds (mode : Nat → Mode) : Nat → List V → M (List V × List Back × List Nat)
 | _, [] => pure ([], [], [])
 | j, x :: xs => do
  let (y, b, r) ← readHeld (mode j) x
  let (ys, bs, rs) ← readHelds mode (j + 1) xs
  pure (y :: ys, b :: bs, r ++ rs)
def readArg [Globs] (mode : Mode) (lt : LT) (x : Operand) : M (V × Back × List Nat) := do
 match x, ← raw x with
 | .tmp t, .obj row => readObj t (.obj row)
 | _, .ref s 0 => do
  let v ← slotM s
  readObj s v
 | _, .f y => pure (typed1 lt (.f y), .none, [])
 | .tmp t, .own ts r => if mode = .inout then readOwn t (.own ts r) else borArg x (.own ts r)
 | _, .lent l k n => readLent mode x l k n
 | _, .clos f caps => do
  let (ys, rs) ← readCaps caps
  pure (.clos f ys, .none, rs)
 | _, v => if mode = .inout then bad "pass: in and out" else borArg x v
def readArgs [Globs] (P : Program) (mode : Nat → Mode) : Nat → List TypeId → List Operand → List (Option V) → M (List V × List Back × List Nat)
 | _, _, [], _ => pure ([], [], [])
 | _, _, _, [] => pure ([], [], [])
 | j, tys, x :: xs, some v :: vs => do
  let (ys, bs, rs) ← readArgs P mode (j + 1) tys.tail xs vs
  pure (v :: ys, .none :: bs, rs)
 | j, tys, x :: xs, none :: vs => do
  let (y, b, r) ← readArg (mode j) ((lty P 20 (tys.headD 0)).headD .any) x
  let (ys, bs, rs) ← readArgs P mode (j + 1) tys.tail xs vs
  pure (y :: ys, b :: bs, r ++ rs)
def handed : List Back → List Nat
 | [] => []
 | .none :: bs => handed bs
 | .slot s _ :: bs => s :: handed bs
 | .lst s _ :: bs => s :: handed bs
def distinct : List Nat → Bool
 | [] => true
 | x :: xs => !xs.contains x && distinct xs
def killsB : List Back → List V → List Upd
 | .slot s n :: bs, _ :: vs => .kill (.leaves s 0 n) :: killsB bs vs
 | _ :: bs, _ :: vs => killsB bs vs
 | _, _ => []
def okOut1 : V → Bool
 | .f _ => true
 | .own _ _ => true
 | .undef => true
 | _ => false
def backAll : List Back → List V → M Unit
 | .none :: bs, _ :: vs => backAll bs vs
 | .slot s n :: bs, .obj row :: vs => if row.length = n ∧ row.all okOut1 then do
   upd (leafUs s 0 row)
   backAll bs vs
  else bad "back: object"
 | .lst s ts :: bs, .own ts' rows :: vs => if eqTs ts ts' then do
   upd [.set s (.own ts rows)]
   backAll bs vs
  else bad "back: list"
 | .slot _ _ :: _, _ => bad "back: what"
 | .lst _ _ :: _, _ => bad "back: what"
 | .none :: _, [] => bad "back: none"
 | [], _ => pure ()

/-- - -/
def enterOne (md : Mode) (hid : Nat) : V → V
 | .obj _ => .ref hid 0
 | .own ts r => if md = .inout then (bif isMp ts then mx ⟨hid, none⟩ ts r else .lent ⟨hid, none⟩ ts.length r.length) else .own ts r
 | v => v
def hidOne (md : Mode) : V → V
 | .obj row => .obj row
 | .own ts r => if md = .inout then .own ts r else .undef
 | _ => .undef
def enterPs (mode : Nat → Mode) (nt : Nat) : Nat → List V → List V
 | _, [] => []
 | j, a :: as => enterOne (mode j) (nt + j) a :: enterPs mode nt (j + 1) as
def hidPs (mode : Nat → Mode) : Nat → List V → List V
 | _, [] => []
 | j, a :: as => hidOne (mode j) a :: hidPs mode (j + 1) as
def enter (mode : Nat → Mode) (nt : Nat) (args : List V) : Env :=
 enterPs mode nt 0 args ++ (List.replicate (nt - args.length) .undef ++ hidPs mode 0 args)
def okRes1 : V → Bool
 | .f _ => true
 | .own _ _ => true
 | _ => false
def okRes : V → Bool
 | .agg xs => xs.all okRes1
 | .obj xs => xs.all okRes1
 | v => okRes1 v
def takeAll (v : V) : M V := match v with
 | .agg xs => do
  let ys ← takeLeaves true xs
  pure (.agg ys)
 | v => takeLeaf true v
def readRes [Globs] (P : Program) (r : ResultVar) : M V := match r with
 | .tmp s => takeOp true (.tmp s)
 | .cell a ty => do
  let x ← rd (.tmp a)
  let v ← loadV P ty x
  takeAll v
/-- - -/
def demTs : List LT → List LT
 | .nx none _ :: ks => ks
 | ts => ts
def dem1 : V → V
 | .own ts rows => .own (demTs ts) rows
 | v => v
def demV (keep : Bool) (v : V) : V := bif keep then v else match v with
 | .agg xs => .agg (xs.map dem1)
 | .own ts rows => .own (demTs ts) rows
 | v => v
def retOne [Globs] (P : Program) (kp : Bool) (r : ResultVar) (t : TypeId) : M V := do
 let v ← readRes P r
 let w := typedT P t v
 if okRes w then pure (demV kp w) else bad "result: borrowed or lent"
def retAll [Globs] (P : Program) (kp : Bool) : List ResultVar → List TypeId → M (List V)
 | r :: rs, t :: ts => do
  let v ← retOne P kp r t
  let vs ← retAll P kp rs ts
  pure (v :: vs)
 | [], _ => pure []
 | _ :: _, [] => bad "results"

/-! ### one operation -/
/-- - -/
def plainCap : V → Bool
 | .obj _ => false
 | .own _ _ => false
 | .agg _ => false
 | _ => true
/-- - -/
def light : V → Bool
 | .f _ => true
 | .bor _ _ => true
 | .lent _ _ _ => true
 | .lsub _ _ _ _ => true
 | .ref _ _ => true
 | .eref _ _ _ => true
 | .iref _ _ _ _ => true
 | .cref _ => true
 | .mref _ => true
 | .xl _ _ _ => true
 | .undef => true
 | _ => false
def freeV : V → Bool
 | .agg xs => !xs.any hasOwn
 | .clos _ xs => xs.all plainCap
 | v => light v
section exec
variable (P : Program) (H : Hints) (me : FuncId)

/-- - -/
def nxD (d : Option Tmp) : List Nat := match d with
 | some t => H.nx me t
 | none => []
/-- - -/
def mvOf : Operand → Bool
 | .tmp t => H.mv me t
 | _ => false
def assignLoc (mv : Bool) (dst : Nat) (l : Loc) : M Unit :=
 bif l == ⟨dst, none⟩ then pure () else do
  let v ← takeLoc mv l
  put dst v
def assignSub (mv : Bool) (dst : Nat) (l : Loc) (off len : Nat) : M Unit := do
 let v ← takeSub (mv || l == ⟨dst, none⟩) l off len
 put dst v
def assignV [Globs] (dst : Nat) (x : Operand) (t : TypeId) : M Unit := do
 match ← raw x with
 | .lent l _ _ => assignLoc (H.mv me dst) dst l
 | .lsub l _ off len => assignSub (H.mv me dst) dst l off len
 | .ref s j => put dst (.ref s j)
 | .eref l i j => put dst (.eref l i j)
 | .iref a b i j => put dst (.iref a b i j)
 | .clos f caps => bif caps.all plainCap then put dst (.clos f caps) else bad "assign: a closure that owns"
 | .cref s => put dst (.cref s)
 | .mref l => assignLoc (H.mv me dst) dst l
 | .xl l _ _ => assignLoc (H.mv me dst) dst l
 | _ => do
  let v ← takeOp (H.mv me dst) x
  put dst (markNx (H.nx me dst) (typedT P t (fzAgg v)))
def buildParts [Globs] (places : Nat → Option (Nat × Nat × List LT)) : List V → List (Nat × Operand) → M (List V)
 | row, [] => pure row
 | row, (i, x) :: rest => do
  let v ← takeOp false x
  let (off, n, ts) ← opt (places i)
  let xs := typedLeaves ts (leavesOf v)
  if off + n > row.length ∨ xs.length ≠ n ∨ (leavesOf v).length ≠ n ∨ !xs.all okLeaf then bad "build: out" else
  buildParts places (splice row off xs) rest
def sliceParts [Globs] (ts : List LT) : Rows → List (Nat × Operand) → M Rows
 | rows, [] => pure rows
 | rows, (i, x) :: rest => do
  let v ← takeOp false x
  let ys ← opt (toFs ts (typedLeaves ts (leavesOf v)))
  if (leavesOf v).length ≠ ts.length ∨ rows.length ≤ i then bad "buildSlice: part" else
  sliceParts ts (rows.set i ys) rest
/-- - -/
def toFsX (mk : List Nat) : Nat → List LT → List V → Option (List F)
 | _, [], [] => some []
 | j, t :: ts, x :: xs => match toF x, toFsX mk (j + 1) ts xs with
  | some y, some ys => if tyF t y && (!hasN mk j || hasOwn x) then some (y :: ys) else fail "toFsX: kind"
  | _, _ => none
 | _, _, _ => fail "toFsX: length"
/-- - -/
def slicePart1 [Globs] (mk : List Nat) (ts : List LT) : List (Nat × Operand) → M Rows
 | [(0, x)] => do
  let v ← takeOp true x
  let xs := typedLeaves ts (leavesOf v)
  let ys ← opt (toFsX mk 0 ts xs)
  if (leavesOf v).length ≠ ts.length then bad "buildSlice: part" else pure [ys]
 | _ => bad "buildSlice: parts"
def rows1 [Globs] (mk : List Nat) (ts : List LT) (n : Nat) (parts : List (Nat × Operand)) : M Rows := bif Nat.beq n 1 then slicePart1 mk ts parts else bad "buildSlice: more than one row"
def sizesOk (t : TypeId) : Bool := match und P t with
 | some (.struct fs) => fs.toList.all fun f => (sz P f.type).isSome
 | some (.array _ e) => (sz P e).isSome
 | _ => false
def placesOf (t : TypeId) (i : Nat) : Option (Nat × Nat × List LT) := match und P t with
 | some (.struct fs) => match fs[i]? with
  | some f => (sz P f.type).map fun k => (f.offset, k, lty P 20 f.type)
  | none => fail "build"
 | some (.array _ e) => (sz P e).map fun k => (i * k, k, lty P 20 e)
 | _ => fail "build"

/-- - -/
def isMapD : Option TypeDesc → Bool
 | some (.map _ _) => true
 | _ => false
def lenMap [Globs] (t : TypeId) (dst : Option Tmp) (x : Operand) : M Unit := do
 let (mts, _) ← opt (mapTs P t)
 let (_, rows) ← mapAtM mts (← rd x)
 putD dst (vInt .i64 rows.length)
/-- - -/
def clearM (P : Program) (t : TypeId) (x : V) : M Unit := do
 let ts ← opt (elemTs P t)
 match und P t with
 | some (.slice e) => do
  let z ← opt (zeroRow P e)
  match x with
  | .lsub l _ off len => do
   match ← locM l with
   | .own ts' rows => bif eqTs ts ts' then upd [.rows l (rows.take off ++ (List.replicate len z ++ rows.drop (off + len)))] else bad "clear: kinds"
   | _ => bad "clear: not owned"
  | _ => bad "clear: of what"
 | _ => bad "clear: type"
def clearB [Globs] (c : Call) (x : Operand) : M Unit := do
 let t ← opt c.argTypes[0]?
 let v ← rd x
 clearM P t v
def builtinV [Globs] (c : Call) (dst : Option Tmp) : Builtin → List Operand → M Unit
 | .len, [x] => do
  let t ← opt c.argTypes[0]?
  bif isMapD (und P t) then lenMap P t dst x else do
  let k ← opt (kIfSlice P t)
  let n ← lenV k (← rd x)
  putD dst (vInt .i64 n)
 | .append, [s, x] => do
  let t ← opt c.argTypes[0]?
  let u ← opt c.argTypes[1]?
  let d ← opt (und P u)
  let zs ← opt (zerosOf P t d)
  match nxMk zs (← raw x) with
  | m :: mk => do
   let v ← appendNx P t (m :: mk) s x
   putD dst v
  | [] => do
   let v ← appendV P t zs s x
   putD dst v
 | .min, xs => do
  let v ← opt (minV (← raws xs))
  putD dst v
 | .max, xs => do
  let v ← opt (maxV (← raws xs))
  putD dst v
 | .clear, [x] => match dst with
  | some _ => bad "clear: a value"
  | none => clearB P c x
 | _, _ => bad "builtin"

/-- - -/
def moveM [Globs] (x : Operand) (dst : Option Tmp) : M Unit := do
 match x, ← raw x with
 | .tmp t, .tup xs => do
  goneSlot t
  putD dst (.tup xs)
 | .tmp t, .agg xs => do
  bif xs.any hasOwn then goneSlot t else pure ()
  putD dst (.agg xs)
 | .tmp _, .clos f xs => bif xs.all plainCap then putD dst (.clos f xs) else bad "move: a closure that owns"
 | .tmp t, v => putD dst (aliasV t v)
 | _, v => putD dst v
def convM [Globs] (s d : TypeId) (x : Operand) (dst : Option Tmp) : M Unit := do
 let a ← rd x
 let v ← convV P s d a
 putD dst v

/-- - -/
def opM [Globs] (o : Oper) : M Unit := do
 match o.op with
 | .move x => moveM x o.dst
 | .assign x => match o.dst with
  | some d => assignV P H me d x o.type
  | none => bad "assign: nowhere"
 | .pick c a b => do
  let t ← opt (asB (← raw c))
  let v ← rd (bif t then a else b)
  if freeV v then putD o.dst v else bad "pick: what is owned"
 | .alloc t => do
  let xs ← opt (zeroLeaves P t)
  putD o.dst (.obj xs)
 | .box t x => do
  let v ← takeOp false x
  let xs := typedLeaves (lty P 20 t) (leavesOf v)
  if xs.all okLeaf && decide (xs.length = (leavesOf v).length) then putD o.dst (.obj xs) else bad "box: leaf"
 | .build t parts => do
  if !sizesOk P t then bad "build: type" else
  let z ← opt (zeroLeaves P t)
  let row ← buildParts (placesOf P t) z parts.toList
  putD o.dst (.agg row)
 | .buildSlice t n parts => do
  match und P t with
  | some (.slice e) => do
   let ts ← opt (elemTs P t)
   let z ← opt (zeroRow P e)
   if n * ts.length > 2 ^ 24 then bad "buildSlice: great" else
   match nxD H me o.dst with
   | m :: mk => do
    let rows ← rows1 (m :: mk) ts n parts.toList
    putD o.dst (.own (.nx none (m :: mk) :: ts) rows)
   | [] => do
    let rows ← sliceParts ts (List.replicate n z) parts.toList
    putD o.dst (.own ts rows)
  | _ => bad "buildSlice"
 | .load t a => do
  let v ← loadX P t (← rd a)
  putD o.dst v
 | .store t a x => match o.dst with
  | some _ => bad "store: a value"
  | none => do
   let a ← rd a
   let v ← takeOp (mvOf H me x) x
   storeV P t a v
 | .nilCheck x => do
  let v ← rd x
  if isRefV v || isCref v then putD o.dst v else bad "nilCheck"
 | .binOp op t x y _ => do
  let (cs, v) ← opt (binV P t op (← rd x) (← rd y))
  checks cs
  putD o.dst v
 | .unOp op _ x => do
  let v ← opt (unV op (← rd x))
  putD o.dst v
 | .convert s d x => convM P s d x o.dst
 | .makeFunc (.func f) first caps => do
  if first.size ≠ 0 then bad "makeFunc: first" else
  let vs ← rds caps.toList
  if vs.all light then putD o.dst (.clos f vs) else bad "makeFunc: a capture"
 | .makeSlice t l c => match und P t with
  | some (.slice e) => do
   let ts ← opt (elemTs P t)
   let z ← opt (zeroRow P e)
   let n ← opt (asI (← raw l))
   let m ← opt (asI (← raw c))
   chk (decide (0 ≤ n ∧ n ≤ m ∧ m ≤ rowMax))
   putD o.dst (.own ts (List.replicate n.toNat z))
  | _ => bad "makeSlice"
 | .slice t x lo hi mx => do
  let k ← opt (kIfSlice P t)
  let v ← sliceV k (← rd x) lo hi mx
  putD o.dst v
 | .fieldAddr t x i => do
  let (off, ft) ← opt (fieldOff P t i)
  if (sz P ft).getD 0 = 0 then bad "fieldAddr: no cell" else
  let v ← opt (shiftRef (← rd x) off)
  putD o.dst v
 | .field t x i => do
  let (off, ft) ← opt (fieldOff P t i)
  match x, ← raw x with
  | .tmp t, .agg xs => do
   bif xs.any hasOwn then goneSlot t else pure ()
   let v ← opt (partV P ft (xs.map fzLeaf) off)
   bif freeV v then putD o.dst v else bad "field"
  | _, .agg xs => do
   let v ← opt (partV P ft xs off)
   bif freeV v then putD o.dst v else bad "field"
  | _, _ => bad "field: of no struct"
 | .indexAddr t x i => do
  let v ← indexAddrV P t (← rd x) (← raw i)
  putD o.dst v
 | .index t x i => do
  let v ← indexV P t (← rd x) (← raw i)
  bif freeV v then putD o.dst v else bad "index: what is owned"
 | .extract (.tmp t) i => do
  match ← slotM t with
  | .tup xs => match xs[i]? with
   | some (.own ts rows) => putD o.dst (bif isMp ts then mx ⟨t, some i⟩ ts rows else .lent ⟨t, some i⟩ ts.length rows.length)
   | some (.agg ys) => do
    bif ys.any hasOwn then upd [.leaf t i .undef] else pure ()
    putD o.dst (.agg ys)
   | some (.obj row) => do
    upd [.leaf t i .undef]
    putD o.dst (.obj row)
   | some (.f x) => putD o.dst (.f x)
   | _ => bad "extract"
  | _ => bad "extract: no tuple"
 | .makeMap t none => do
  let (mts, _) ← opt (mapTs P t)
  putD o.dst (.own mts [])
 | .lookup t m k ok => do
  let v ← lookupV P t (← rd m) (← raw k) ok
  putD o.dst v
 | .mapUpdate t m k x => match o.dst with
  | some _ => bad "mapUpdate: a value"
  | none => do
   let m ← rd m
   let k ← raw k
   let v ← takeOp false x
   mapSet P t m k v
 | .insert t m k x => match o.dst with
  | some _ => bad "insert: a value"
  | none => do
   let m ← rd m
   let k ← raw k
   let v ← takeOp false x
   mapSet P t m k v
 | .makeInterface t x => do
  match ← raw x with
  | .f (.lit v) => if plainD (und P t) then putD o.dst (.f (.lit (.iface t v))) else bad "makeInterface: type"
  | _ => bad "makeInterface"
 | .call c => match c.callee with
  | .builtin b => builtinV P c o.dst b c.args.toList
  | _ => bad "call"
 | _ => bad "op"

/-- - -/
def prepM [Globs] (fo : Operand) (args : List Operand) : M (FuncId × List V × List Back) := do
 match ← raw fo with
 | .clos f caps => do
  let fn ← opt (P.funcs[f]?)
  let tk ← takeArgs P (H.mode f) 0 fn.params.toList args
  let (vs, bs, rs) ← readArgs P (H.mode f) 0 fn.params.toList args tk
  let (ws, cs, ss) ← readHelds (H.mode f) args.length caps
  if distinct (handed (bs ++ cs)) && (rs ++ ss).all (fun s => !(handed (bs ++ cs)).contains s) then do
   upd (killsB (bs ++ cs) (vs ++ ws))
   pure (f, vs ++ ws, bs ++ cs)
  else bad "call: what is handed over is lent too"
 | .undef => bad "call: undef"
 | _ => bad "call: what"
def finM (dst : Option Tmp) (bs : List Back) (r : V) (outs : List V) : M Unit := do
 backAll bs outs
 putD dst r
end exec

/-- - -/
def passed : V := .f (.lit (.tuple #[]))

/-! ### the whole, each way of it to be seen -/
def Tbl : Type 1 := (R : Type) → FuncId → List V → (V → List V → Option R) → Option R

def runChecks {R : Type} : List Bool → Option R → Option R
 | [], k => k
 | c :: cs, k => bif c then runChecks cs k else none
def guardSlots (ops : List Oper) (all : Array Oper) : List Nat := ops.filterMap fun o => match o.guard with
 | some (j, _) => (all[j]?).bind (·.dst)
 | none => none
def wantedV (all : Array Oper) (env : Env) (o : Oper) : Option Bool :=
 match o.guard with
 | none => some true
 | some (j, want) => match (all[j]?).bind (·.dst) with
  | some t => match getS env t with
   | .f (.lit (.bool b)) => some (b == want)
   | .f (.lit (.tuple _)) => some false
   | _ => fail "guard"
  | none => fail "guard"
def slotsOf (o : Oper) : List Nat := o.op.operands.toList.filterMap fun | .tmp t => some t | _ => none
/-- - -/
def bareOp : Op → Bool
 | .move _ => true
 | .nilCheck _ => true
 | .fieldAddr _ _ _ => true
 | .indexAddr _ _ _ => true
 | .slice _ _ _ _ _ => true
 | _ => false
/-- - -/
def guardSlot (all : Array Oper) (o : Oper) : List Nat := match o.guard with
 | some (j, _) => ((all[j]?).bind (·.dst)).toList
 | none => []
/-- - -/
def readsOf (env : Env) (all : Array Oper) (o : Oper) : List Nat :=
 guardSlot all o ++ bif bareOp o.op then slotsOf o else slotsOf o ++ (slotsOf o).flatMap fun t => (mentsV (getS env t)).map Loc.slot
def restrictTo (R : List Nat) : Nat → Env → Env
 | _, [] => []
 | j, v :: vs => (bif hasN R j then v else .undef) :: restrictTo R (j + 1) vs
def killsOf : List Upd → List KQ
 | [] => []
 | .kill q :: us => q :: killsOf us
 | _ :: us => killsOf us
def layOf : List Upd → List Loc
 | [] => []
 | .set _ v :: us => mentsV v ++ layOf us
 | .leaf _ _ v :: us => mentsV v ++ layOf us
 | _ :: us => layOf us
/-- - -/
def turnsOf (st : Bool) : List Upd → List Nat
 | [] => []
 | .set t _ :: us => t :: turnsOf st us
 | .rows l _ :: us => bif st then turnsOf st us else l.slot :: turnsOf st us
 | _ :: us => turnsOf st us
/-- - -/
def fillsOf (st : Bool) : List Upd → List Nat
 | [] => []
 | .leaf s _ _ :: us => s :: fillsOf st us
 | .rows l _ :: us => bif st then l.slot :: fillsOf st us else fillsOf st us
 | _ :: us => fillsOf st us
def noRows : List Upd → Bool
 | [] => true
 | .rows _ _ :: _ => false
 | _ :: us => noRows us
def isStore : Op → Bool
 | .store _ _ _ => true
 | _ => false
/-- - -/
structure Foot where
 i : Nat
 bare : Bool
 reads : List Nat
 turns : List Nat
 fills : List Nat
 ments : List Loc
 kills : List KQ
def noHole : V → Bool
 | .agg xs => !xs.any isUndef
 | .clos _ xs => !xs.any isUndef
 | _ => true
def footOf (env : Env) (i : Nat) (st bare : Bool) (rds : List Nat) (us : List Upd) : Option Foot :=
 bif rds.all fun t => noHole (getS env t) then
  some ⟨i, bare && rds.all fun t => !isTup (getS env t), rds, turnsOf st us, fillsOf st us, (rds.flatMap fun t => mentsV (getS env t)) ++ layOf us, killsOf us⟩
 else fail "a hole"
def disj (xs ys : List Nat) : Bool := xs.all fun x => !hasN ys x
def noHit (qs : List KQ) (ls : List Loc) : Bool := qs.all fun q => ls.all fun l => !q.hits l
def oneWay (a b : Foot) : Bool :=
 disj a.turns b.reads && (b.bare || disj a.fills b.reads) && noHit a.kills b.ments
def apartF (a b : Foot) : Bool :=
 disj a.turns b.turns && disj a.turns b.fills && disj a.fills b.turns && disj a.fills b.fills && oneWay a b && oneWay b a
def footsOk (bef : Array Nat) : List Foot → Bool
 | [] => true
 | a :: rest => rest.all (fun b => (bef.getD b.i 0).testBit a.i || apartF a b || (fail (toString a.i ++ " and " ++ toString b.i)).getD false) && footsOk bef rest

/-- - -/
def edgesOk : Nat → List Oper → Bool
 | _, [] => true
 | i, o :: os => o.after.toList.all (fun e => !Region.binds .any e || Nat.blt e.on i) && edgesOk (i + 1) os

section run
variable (P : Program) (H : Hints) (tbl : Tbl) (me : FuncId)
/-- - -/
def stepK [Globs] {R : Type} (o : Oper) (env : Env) (k : Env → Option R) : Option R :=
 match o.op with
 | .call ⟨.value fo, args, _⟩ => match prepM P H fo args.toList env with
  | none => fail ("  prep at " ++ o.pos)
  | some (cs, us, (f, vs, p)) => runChecks cs (tbl R f vs fun r outs =>
   match finM o.dst p r outs (applyU us env) with
   | none => fail ("  fin at " ++ o.pos)
   | some (cs', us', _) => runChecks cs' (k (applyU us' (applyU us env))))
 | _ => match opM P H me o env with
  | none => fail ("  at " ++ o.pos)
  | some (cs, us, _) => runChecks cs (k (applyU us env))
/-- - -/
def seeK {R : Type} (gs : List Nat) (d : Option Tmp) (env : Env) (k : Env → Option R) : Option R :=
 match d with
 | some t => if hasN gs t then
   match getS env t with
   | .f (.lit (.bool b)) => bif b then k (env.set t (vBool true)) else k (env.set t (vBool false))
   | _ => k env
  else k env
 | none => k env
def opsK [Globs] {R : Type} (all : Array Oper) : List Oper → Env → (Env → Option R) → Option R
 | [], env, k => k env
 | o :: rest, env, k => match wantedV all env o with
  | some true => stepK P H tbl me o env fun env => seeK (guardSlots rest all) o.dst env fun env => opsK all rest env k
  | some false => match putD o.dst passed env with
   | some (_, us, _) => opsK all rest (applyU us env) k
   | none => none
  | none => none
/-- - -/
def stepD [Globs] {R : Type} (all : Array Oper) (i : Nat) (o : Oper) (env : Env) (k : Env → Foot → Option R) : Option R :=
 let rds := readsOf env all o
 let env0 := restrictTo rds 0 env
 match o.op with
 | .call ⟨.value fo, args, _⟩ => match prepM P H fo args.toList env0 with
  | none => fail ("  prepD at " ++ o.pos)
  | some (cs, us, (f, vs, p)) => runChecks cs (tbl R f vs fun r outs =>
   match finM o.dst p r outs (applyU us env0) with
   | none => fail ("  finD at " ++ o.pos)
   | some (cs', us', _) => runChecks cs' (match footOf env i false false rds (us ++ us') with
    | some f => k (applyU (us ++ us') env) f
    | none => none))
 | _ => match opM P H me o env0 with
  | none => fail ("  at " ++ o.pos)
  | some (cs, us, _) => runChecks cs (match footOf env i (isStore o.op && noRows us.dropLast) (bareOp o.op) rds us with
   | some f => k (applyU us env) f
   | none => none)
def opsD [Globs] {R : Type} (all : Array Oper) : Nat → List Oper → Env → List Foot → (Env → List Foot → Option R) → Option R
 | _, [], env, fs, k => k env fs
 | i, o :: rest, env, fs, k => match wantedV all env o with
  | some true => stepD P H tbl me all i o env fun env f => seeK (guardSlots rest all) o.dst env fun env => opsD all (i + 1) rest env (f :: fs) k
  | some false => match putD o.dst passed env with
   | some (_, us, _) => match footOf env i false false (guardSlot all o) us with
    | some f => opsD all (i + 1) rest (applyU us env) (f :: fs) k
    | none => none
   | none => none
  | none => none

inductive Ex where | normal | exit (id : Nat) | ret
 deriving DecidableEq, Repr, Inhabited
def slotOf : List Nat → List V → Nat → V
 | t' :: l, v :: vs, t => bif Nat.beq t' t then v else slotOf l vs t
 | _, _, _ => .undef
/-- - -/
def mkEnv (l : List Nat) (vs : List V) : Nat → Nat → Env
 | _, 0 => []
 | j, n + 1 => slotOf l vs j :: mkEnv l vs (j + 1) n
/-- - -/
def vals (l : List Nat) (env : Env) : List V := l.map fun t => killV (.others l) (getS env t)
/-- - -/
def LTbl : Type 1 := (R : Type) → FuncId → Nat → List V → (Ex → List V → Option R) → Option R
def loopsOf : Code → List (Bool × Code)
 | .seq a b => loopsOf a ++ ((false, b) :: loopsOf b)
 | .cond _ a b => loopsOf a ++ loopsOf b
 | .block _ a => loopsOf a
 | .loop a => (true, a) :: loopsOf a
 | .scope a => loopsOf a
 | _ => []
def nLoops : Code → Nat
 | .seq a b => nLoops a + (nLoops b + 1)
 | .cond _ a b => nLoops a + nLoops b
 | .block _ a => nLoops a
 | .loop a => nLoops a + 1
 | .scope a => nLoops a
 | _ => 0
def ltN (a b : Nat) : Bool := decide (a < b)
def okOpnd (n : Nat) : Operand → Bool
 | .tmp t => ltN t n
 | _ => true
def okDst (n : Nat) : Option Tmp → Bool
 | some d => ltN d n
 | none => true
def okOper (n : Nat) (o : Oper) : Bool := o.op.operands.toList.all (okOpnd n) && okDst n o.dst
/-- - -/
def okCode (n : Nat) : Code → Bool
 | .region _ ops _ => ops.toList.all (okOper n)
 | .seq a b => okCode n a && okCode n b
 | .cond c a b => okOpnd n c && (okCode n a && okCode n b)
 | .block _ a => okCode n a
 | .loop a => okCode n a
 | .scope a => okCode n a
 | _ => true
def okRV (n : Nat) : ResultVar → Bool
 | .tmp s => ltN s n
 | .cell a _ => ltN a n
def seeB (c : Operand) (b : Bool) (env : Env) : Env := match c with
 | .tmp t => env.set t (vBool b)
 | _ => env
/-! what stands in the slots is made plain, so that it is reckoned once -/
section force
variable {α : Type}
mutual
def forceT : LT → (LT → α) → α
 | .lst ts, c => forceTs ts fun ts => c (.lst ts)
 | .int k, c => c (.int k)
 | .bool, c => c .bool
 | .str, c => c .str
 | .any, c => c .any
 | .mp true, c => c (.mp true)
 | .mp false, c => c (.mp false)
 | .nx h mk, c => match h with
  | none => c (.nx none mk)
  | some (i, j) => c (.nx (some (i, j)) mk)
def forceTs : List LT → (List LT → α) → α
 | [], c => c []
 | t :: ts, c => forceT t fun t => forceTs ts fun ts => c (t :: ts)
end
def forceF : F → (F → α) → α
 | .lit v, c => match v with
  | .int k n => c (.lit (.int k n))
  | .bool b => c (.lit (.bool b))
  | .string s => c (.lit (.string s))
  | v => c (.lit v)
 | .lst ts rows, c => forceTs ts fun ts => c (.lst ts rows)
def forceL : Loc → (Loc → α) → α
 | ⟨s, l⟩, c => match l with
  | none => c ⟨s, none⟩
  | some j => c ⟨s, some j⟩
def forceV1 : V → (V → α) → α
 | .f x, c => forceF x fun x => c (.f x)
 | .bor ts rows, c => forceTs ts fun ts => c (.bor ts rows)
 | .own ts rows, c => forceTs ts fun ts => c (.own ts rows)
 | .lent l k n, c => forceL l fun l => c (.lent l k n)
 | .lsub l k o n, c => forceL l fun l => c (.lsub l k o n)
 | .eref l i j, c => forceL l fun l => c (.eref l i j)
 | .iref ts rows i j, c => forceTs ts fun ts => c (.iref ts rows i j)
 | .mref l, c => forceL l fun l => c (.mref l)
 | .xl l k n, c => forceL l fun l => c (.xl l k n)
 | v, c => c v
def forceVs : List V → (List V → α) → α
 | [], c => c []
 | v :: vs, c => forceV1 v fun v => forceVs vs fun vs => c (v :: vs)
def forceV : V → (V → α) → α
 | .agg xs, c => forceVs xs fun xs => c (.agg xs)
 | .tup xs, c => forceVs xs fun xs => c (.tup xs)
 | .obj xs, c => forceVs xs fun xs => c (.obj xs)
 | .clos f xs, c => forceVs xs fun xs => c (.clos f xs)
 | v, c => forceV1 v c
def forceK : Env → (Env → α) → α
 | [], c => c []
 | v :: vs, c => forceV v fun v => forceK vs fun vs => c (v :: vs)
end force
/-! a struct that is loaded and stored in one open region: its lists are frozen ahead of it -/
def ownLeaves (a : Nat) : Nat → List V → List Loc
 | _, [] => []
 | j, .own ts _ :: vs => bif isMp ts then ownLeaves a (j + 1) vs else ⟨a, some j⟩ :: ownLeaves a (j + 1) vs
 | j, _ :: vs => ownLeaves a (j + 1) vs
def storesTmp (d : Nat) (o : Oper) : Bool := match o.op with
 | .store _ _ (.tmp s) => Nat.beq s d
 | _ => false
def preLocs (ops : List Oper) (env : Env) : List Loc := ops.flatMap fun o => match o.op, o.dst with
 | .load _ (.tmp a), some d => bif ops.any (storesTmp d) then (match getS env a with
  | .obj row => ownLeaves a 0 row
  | _ => []) else []
 | _, _ => []
def preGo : List Loc → M Unit
 | [] => pure ()
 | l :: ls => do
  let _ ← takeLoc false l
  preGo ls
/-- - -/
def codeK [Globs] {R : Type} (lt : LTbl) : Nat → Code → Env → (Ex → Env → Option R) → Option R
 | _, .skip, env, k => k .normal env
 | _, .label _, env, k => k .normal env
 | _, .region _ ops draw, env, k =>
  if draw then match preGo (preLocs ops.toList env) env with
   | some (_, us, _) => opsD P H tbl me ops 0 ops.toList (applyU us env) [] fun env fs => if footsOk (Region.before ops) fs.reverse && edgesOk 0 ops.toList then forceK env (k .normal) else fail "an order that matters"
   | none => none
  else opsK P H tbl me ops ops.toList env fun env => forceK env (k .normal)
 | i, .seq a b, env, k => codeK lt i a env fun e env => match e with
  | .normal => match H.live me (i + nLoops a) with
   | none => codeK lt (i + nLoops a + 1) b env k
   | some l => lt R me (i + nLoops a) (vals l env) fun e vs => k e (mkEnv l vs 0 (H.len me))
  | e => k e env
 | i, .cond c a b, env, k => match raw c env with
  | some (_, _, v) => match asB v with
   | some t => bif t then codeK lt i a (seeB c true env) k else codeK lt (i + nLoops a) b (seeB c false env) k
   | none => none
  | none => none
 | i, .block id b, env, k => codeK lt i b env fun e env => match e with
  | .exit j => if j = id then k .normal env else k (.exit j) env
  | e => k e env
 | i, .loop _, env, k => match H.live me i with
  | some l => lt R me i (vals l env) fun e vs => k e (mkEnv l vs 0 (H.len me))
  | none => fail "a loop without a list"
 | _, .exit id, env, k => k (.exit id) env
 | i, .scope b, env, k => codeK lt i b env k
 | _, .ret, env, k => k .ret env
 | _, .goto _, _, _ => fail "goto"
 | _, .rangeFunc .., _, _ => fail "rangeFunc"
 | _, .refuse _, _, _ => fail "refuse"
def outsOf (env : Env) (nt : Nat) : Nat → List V
 | 0 => []
 | n + 1 => getS env nt :: outsOf env (nt + 1) n
def tupOf : List V → V
 | [r] => r
 | rs => .tup rs
end run
def runK [Globs] (P : Program) (H : Hints) (tbl : Tbl) (lt : LTbl) {R : Type} (f : FuncId) (args : List V) (k : V → List V → Option R) : Option R :=
 match P.funcs[f]? with
 | none => none
 | some fn => match fn.body with
  | none => fail ("no body " ++ fn.name)
  | some body => bif fn.name == "runtime.NumGoroutine" || !(okCode fn.ntmps body && fn.results.toList.all (okRV fn.ntmps) && Nat.ble args.length fn.ntmps && Nat.beq (fn.ntmps + args.length) (H.len f)) then fail "slots" else
   codeK P H tbl f lt 0 body (enter (H.mode f) fn.ntmps args) fun e env =>
   match e with
   | .exit _ => none
   | _ => match retAll P (H.keep f) fn.results.toList fn.resultTypes.toList env with
    | none => fail ("ret in " ++ fn.name)
    | some (cs, us, rs) => runChecks cs (k (tupOf rs) (outsOf (applyU us env) fn.ntmps args.length))
/-- - -/
def loopBody (P : Program) (f : FuncId) (i : Nat) : Code := match P.funcs[f]? with
 | none => .skip
 | some fn => match fn.body with
  | none => .skip
  | some body => ((loopsOf body).getD i (true, .skip)).2
/-! of lists that are copied, and of bytes that are looked for -/
abbrev rows0 : Rows := []
def lenOk (rows : Rows) : Bool := decide (rows.length ≤ rowMax)
/-- - -/
def idxByte (s : ByteArray) (c : Int) : Int := match (List.range s.size).find? fun i => s[i]! == c.toNat.toUInt8 with
 | some i => i
 | none => -1
end Go.Abs
end
section
set_option linter.unusedVariables false
set_option linter.unusedSimpArgs false
set_option linter.unusedSectionVars false
namespace Go.Abs
open Go

/-! ### how values lie in memory -/
abbrev GH := Nat → Option Obj
abbrev OM := Nat → Option (List Nat)
def GH.le (h h' : GH) : Prop := ∀ b o, h b = some o → h' b = some o
theorem GH.le_refl (h : GH) : h.le h := fun _ _ x => x
theorem GH.le_trans {a b c : GH} (h : a.le b) (k : b.le c) : a.le c := fun x o e => k x o (h x o e)

def TyF : LT → F → Prop
 | .int k, x => ∃ n, x = .lit (.int k n)
 | .bool, x => ∃ b, x = .lit (.bool b)
 | .str, x => ∃ s, x = .lit (.string s)
 | .lst ts, x => ∃ rows, x = .lst ts rows
 | .any, x => cellF x = true
 | .mp _, _ => False
 | .nx _ _, _ => False
inductive TyRow : List LT → List F → Prop
 | nil : TyRow [] []
 | cons {t ts x xs} (h : TyF t x) (hs : TyRow ts xs) : TyRow (t :: ts) (x :: xs)
theorem TyF.re {t : LT} {x : F} (h : TyF t x) : F.re t x = x := by
 cases t with
 | int k => obtain ⟨n, rfl⟩ := h; rfl
 | bool => obtain ⟨n, rfl⟩ := h; rfl
 | str => obtain ⟨n, rfl⟩ := h; rfl
 | lst ts => obtain ⟨n, rfl⟩ := h; rfl
 | any => rfl
 | mp => exact h.elim
 | nx => exact h.elim
theorem TyRow.re {ts : List LT} {xs : List F} (h : TyRow ts xs) : reRow ts xs = xs := by
 induction h with
 | nil => rfl
 | cons h _ ih => simp [reRow, h.re, ih]
theorem TyRow.len {ts : List LT} {xs : List F} (h : TyRow ts xs) : xs.length = ts.length := by
 induction h with
 | nil => rfl
 | cons _ _ ih => simp [ih]
theorem TyRow.get {ts : List LT} {xs : List F} (h : TyRow ts xs) : ∀ {j : Nat} {x : F}, xs[j]? = some x → ∃ t, ts[j]? = some t ∧ TyF t x := by
 induction h with
 | nil => intro j x e; simp at e
 | cons h _ ih =>
  intro j x e
  cases j with
  | zero => simp at e; subst e; exact ⟨_, rfl, h⟩
  | succ j => exact ih (by simpa using e)

inductive RepF (h : GH) : F → Value → Prop
 | lit (v : Value) : RepF h (.lit v) v
 | nil (ts : List LT) (a : Option Addr) (cap : Nat) : RepF h (.lst ts []) (.slice a 0 cap)
 | lst {ts : List LT} {rows : Rows} {blk off cap : Nat} {arr : Array Value} {t : TypeId} {fr : Nat × Nat}
   (hb : h blk = some (.cells arr t fr)) (hcap : rows.length ≤ cap) (hsz : off + rows.length * ts.length ≤ arr.size) (hty : ∀ row ∈ rows, TyRow ts row)
   (hc : ∀ (i j : Nat) (row : List F) (x : F), rows[i]? = some row → row[j]? = some x → RepF h x (arr.getD (off + i * ts.length + j) undef)) :
   RepF h (.lst ts rows) (.slice (some ⟨blk, off, none⟩) rows.length cap)
theorem RepF.mono {h h' : GH} (hl : h.le h') {x : F} {c : Value} (r : RepF h x c) : RepF h' x c := by
 induction r with
 | lit v => exact .lit v
 | nil ts a cap => exact .nil ts a cap
 | lst hb hcap hsz hty _ ih => exact .lst (hl _ _ hb) hcap hsz hty fun i j row x h1 h2 => ih i j row x h1 h2

/-- - -/
def RepB (hz hb : GH) (ts : List LT) (rows : Rows) (c : Value) : Prop :=
 (∀ row ∈ rows, TyRow ts row) ∧ ∃ a cap, c = .slice a rows.length cap ∧ (rows = [] ∨ ∃ blk off arr t fr, a = some ⟨blk, off, none⟩ ∧ hb blk = some (.cells arr t fr) ∧ rows.length ≤ cap ∧
  off + rows.length * ts.length ≤ arr.size ∧ ∀ (i j : Nat) (row : List F) (x : F), rows[i]? = some row → row[j]? = some x → RepF hz x (arr.getD (off + i * ts.length + j) undef))
theorem RepB.mono {hz hb hz' hb' : GH} (h1 : hz.le hz') (h2 : hb.le hb') {ts : List LT} {rows : Rows} {c : Value} (h : RepB hz hb ts rows c) : RepB hz' hb' ts rows c := by
 obtain ⟨hty, a, cap, rfl, h⟩ := h
 refine ⟨hty, a, cap, rfl, h.imp id ?_⟩
 rintro ⟨blk, off, arr, t, fr, rfl, hb, hc, hs, hl⟩
 exact ⟨blk, off, arr, t, fr, rfl, h2 _ _ hb, hc, hs, fun i j row x a b => (hl i j row x a b).mono h1⟩
theorem RepF.b {hz hb : GH} (h1 : hz.le hb) {ts : List LT} {rows : Rows} {c : Value} (h : RepF hz (.lst ts rows) c) : RepB hz hb ts rows c := by
 cases h with
 | nil => exact ⟨by simp, _, _, rfl, .inl rfl⟩
 | lst hb hcap hsz hty hc => exact ⟨hty, _, _, rfl, .inr ⟨_, _, _, _, _, rfl, h1 _ _ hb, hcap, hsz, hc⟩⟩

/-- - -/
def Free (arr : Array Value) (fr : Nat × Nat) : Prop := fr.1 = fr.2 ∨ arr.size ≤ fr.1
theorem Free.no {arr : Array Value} {fr : Nat × Nat} (h : Free arr fr) : ∀ o, o < arr.size → ¬ (fr.1 ≤ o ∧ o < fr.2) := fun o ho => by unfold Free at h; omega
/-- - -/
def OwnL (hz : GH) (O : OM) (w : World) (p : List Nat) (ts : List LT) (rows : Rows) (c : Value) : Prop :=
 (∀ row ∈ rows, TyRow ts row) ∧ ∃ a cap, c = .slice a rows.length cap ∧ rows.length ≤ cap ∧
  (cap = 0 ∨ ∃ blk off arr t fr, a = some ⟨blk, off, none⟩ ∧ O blk = some p ∧ w.heap[blk]? = some (.cells arr t fr) ∧ Free arr fr ∧
   off + cap * ts.length ≤ arr.size ∧
   ∀ (i j : Nat) (row : List F) (x : F), rows[i]? = some row → row[j]? = some x → RepF hz x (arr.getD (off + i * ts.length + j) undef))

/-- - -/
def entryCell (ag : Bool) (e : MapEntry) : Nat → Value
 | 0 => e.key
 | j + 1 => match ag, e.val with
  | true, .agg cs => cs.getD j undef
  | _, v => v
/-- - -/
def EntryOk (hz : GH) (ag : Bool) (ts : List LT) (i : Nat) (row : List F) (e : MapEntry) : Prop :=
 TyRow ts row ∧ e.born = i ∧ (if ag then ∃ cs, e.val = .agg cs ∧ cs.size + 1 = ts.length else ts.length = 2 ∧ ∀ cs, e.val ≠ .agg cs) ∧ ∀ j x, row[j]? = some x → RepF hz x (entryCell ag e j)
/-- - -/
def OwnM (hz : GH) (O : OM) (w : World) (p : List Nat) (ts : List LT) (rows : Rows) (c : Value) : Prop :=
 ∃ ag ks blk es, ts = .mp ag :: ks ∧ c = .map (some blk) ∧ O blk = some p ∧ w.heap[blk]? = some (.map es rows.length) ∧ es.size = rows.length ∧
  ∀ (i : Nat) (row : List F) (e : MapEntry), rows[i]? = some row → es[i]? = some e → EntryOk hz ag ks i row e
/-- - -/
def anyK (mk : List Nat) : Nat → List LT → List LT
 | _, [] => []
 | j, t :: ts => (bif hasN mk j then .any else t) :: anyK mk (j + 1) ts
/-- - -/
def LeafX (hz : GH) (O : OM) (w : World) (p : List Nat) (h : Option (Nat × Nat)) (mk : List Nat) (n i j : Nat) (x y : F) : Prop :=
 if hasN mk j = true then ∃ v, y = .lit v ∧ (h = some (i, j) ∨ ∃ ts rs, x = .lst ts rs ∧ isMp ts = false ∧ OwnL hz O w (p ++ [i * n + j]) ts rs v) else y = x
def NestX (hz : GH) (O : OM) (w : World) (p : List Nat) (h : Option (Nat × Nat)) (mk : List Nat) (n : Nat) (rows sk : Rows) : Prop :=
 sk.length = rows.length ∧ ∀ (i j : Nat) (row srow : List F) (x : F), rows[i]? = some row → sk[i]? = some srow → row[j]? = some x → ∃ y, srow[j]? = some y ∧ LeafX hz O w p h mk n i j x y
/-- - -/
def OwnX (hz : GH) (O : OM) (w : World) (p : List Nat) (ts : List LT) (rows : Rows) (c : Value) : Prop :=
 ∃ h mk ks sk, ts = .nx h mk :: ks ∧ isMp ks = false ∧ (∀ row ∈ rows, TyRow ks row) ∧ OwnL hz O w p (anyK mk 0 ks) sk c ∧ NestX hz O w p h mk ks.length rows sk
/-- - -/
def Own (hz : GH) (O : OM) (w : World) (p : List Nat) (ts : List LT) (rows : Rows) (c : Value) : Prop :=
 (isMp ts = false ∧ OwnL hz O w p ts rows c) ∨ (isMap ts = true ∧ OwnM hz O w p ts rows c) ∨ (isNx ts = true ∧ OwnX hz O w p ts rows c)
theorem map_mp {ts : List LT} (h : isMap ts = true) : isMp ts = true ∧ isNx ts = false := by
 unfold isMap at h
 split at h
 ·exact ⟨rfl, rfl⟩
 ·cases h
theorem nx_mp {ts : List LT} (h : isNx ts = true) : isMp ts = true ∧ isMap ts = false := by
 unfold isNx at h
 split at h
 ·exact ⟨rfl, rfl⟩
 ·cases h
theorem mp_cases {ts : List LT} (h : isMp ts = true) : isMap ts = true ∨ isNx ts = true := by
 unfold isMp at h
 split at h
 ·exact .inl rfl
 ·exact .inr rfl
 ·cases h
theorem no_mp {ts : List LT} (h : isMp ts = false) : isMap ts = false ∧ isNx ts = false := by
 refine ⟨?_, ?_⟩
 ·cases hm : isMap ts with
  | false => rfl
  | true => rw [(map_mp hm).1] at h; cases h
 ·cases hm : isNx ts with
  | false => rfl
  | true => rw [(nx_mp hm).1] at h; cases h
theorem ksOf_no {ts : List LT} (h : isNx ts = false) : ksOf ts = ts := by
 unfold ksOf
 split
 ·cases h
 ·rfl
theorem kN_no {ts : List LT} (h : isNx ts = false) : kN ts = ts.length := by unfold kN; rw [ksOf_no h]
theorem Own.lst {hz : GH} {O : OM} {w : World} {p : List Nat} {ts : List LT} {rows : Rows} {c : Value} (h : Own hz O w p ts rows c) (hn : isMp ts = false) : OwnL hz O w p ts rows c := by
 rcases h with ⟨_, h⟩ | ⟨h1, _⟩ | ⟨h1, _⟩
 ·exact h
 ·rw [(no_mp hn).1] at h1; cases h1
 ·rw [(no_mp hn).2] at h1; cases h1
theorem Own.map {hz : GH} {O : OM} {w : World} {p : List Nat} {ts : List LT} {rows : Rows} {c : Value} (h : Own hz O w p ts rows c) (hn : isMap ts = true) : OwnM hz O w p ts rows c := by
 rcases h with ⟨h1, _⟩ | ⟨_, h⟩ | ⟨h1, _⟩
 ·rw [(map_mp hn).1] at h1; cases h1
 ·exact h
 ·rw [(nx_mp h1).2] at hn; cases hn
theorem Own.nx {hz : GH} {O : OM} {w : World} {p : List Nat} {ts : List LT} {rows : Rows} {c : Value} (h : Own hz O w p ts rows c) (hn : isNx ts = true) : OwnX hz O w p ts rows c := by
 rcases h with ⟨h1, _⟩ | ⟨h1, _⟩ | ⟨_, h⟩
 ·rw [(nx_mp hn).1] at h1; cases h1
 ·rw [(map_mp h1).2] at hn; cases hn
 ·exact h
theorem Own.len {hz : GH} {O : OM} {w : World} {p : List Nat} {ts : List LT} {rows : Rows} {c : Value} (h : Own hz O w p ts rows c) (hn : isMap ts = false) : ∃ a cap, c = .slice a rows.length cap := by
 rcases h with ⟨_, _, a, cap, rfl, _⟩ | ⟨h1, _⟩ | ⟨_, _, _, _, sk, _, _, _, ⟨_, a, cap, rfl, _⟩, h2, _⟩
 ·exact ⟨a, cap, rfl⟩
 ·rw [hn] at h1; cases h1
 ·exact ⟨a, cap, by rw [h2]⟩
theorem OwnL.re {hz : GH} {O O' : OM} {w : World} {p q : List Nat} {ts : List LT} {rows : Rows} {c : Value} (hO : ∀ b, O b = some p → O' b = some q) (h : OwnL hz O w p ts rows c) : OwnL hz O' w q ts rows c := by
 obtain ⟨hty, a, cap, rfl, hl, h⟩ := h
 refine ⟨hty, a, cap, rfl, hl, ?_⟩
 rcases h with h | ⟨blk, off, arr, ty, fr, rfl, h1, hw, hf, hs, hc⟩
 ·exact .inl h
 ·exact .inr ⟨blk, off, arr, ty, fr, rfl, hO _ h1, hw, hf, hs, hc⟩
theorem LeafX.re {hz : GH} {O O' : OM} {w : World} {p q : List Nat} {h : Option (Nat × Nat)} {mk : List Nat} {n i j : Nat} {x y : F} (hO : ∀ b r, O b = some (p ++ r) → O' b = some (q ++ r))
  (hc : LeafX hz O w p h mk n i j x y) : LeafX hz O' w q h mk n i j x y := by
 unfold LeafX at hc ⊢
 split
 ·rename_i hm
  rw [if_pos hm] at hc
  obtain ⟨v, rfl, hc⟩ := hc
  refine ⟨v, rfl, ?_⟩
  rcases hc with hc | ⟨ts, rs, rfl, h1, h2⟩
  ·exact .inl hc
  ·exact .inr ⟨ts, rs, rfl, h1, h2.re fun b => hO b _⟩
 ·rename_i hm
  rw [if_neg hm] at hc
  exact hc
theorem NestX.imp {hz hz' : GH} {O O' : OM} {w w' : World} {p q : List Nat} {h : Option (Nat × Nat)} {mk : List Nat} {n : Nat} {rows sk : Rows}
  (hl : ∀ i j x y, LeafX hz O w p h mk n i j x y → LeafX hz' O' w' q h mk n i j x y) (hc : NestX hz O w p h mk n rows sk) : NestX hz' O' w' q h mk n rows sk :=
 ⟨hc.1, fun i j row srow x a b c => let ⟨y, h1, h2⟩ := hc.2 i j row srow x a b c; ⟨y, h1, hl _ _ _ _ h2⟩⟩
theorem Own.re {hz : GH} {O O' : OM} {w : World} {p q : List Nat} {ts : List LT} {rows : Rows} {c : Value} (hO : ∀ b r, O b = some (p ++ r) → O' b = some (q ++ r)) (h : Own hz O w p ts rows c) : Own hz O' w q ts rows c := by
 have hO0 : ∀ b, O b = some p → O' b = some q := fun b e => by simpa using hO b [] (by simpa using e)
 rcases h with ⟨hn, h⟩ | ⟨hn, h⟩ | ⟨hn, h⟩
 ·exact .inl ⟨hn, h.re hO0⟩
 ·obtain ⟨ag, ks, blk, es, rfl, rfl, h1, hw, hs, hc⟩ := h
  exact .inr (.inl ⟨hn, ag, ks, blk, es, rfl, rfl, hO0 _ h1, hw, hs, hc⟩)
 ·obtain ⟨h0, mk, ks, sk, rfl, hk, hty, hl, hx⟩ := h
  exact .inr (.inr ⟨hn, h0, mk, ks, sk, rfl, hk, hty, hl.re hO0, hx.imp fun _ _ _ _ h => h.re hO⟩)
theorem EntryOk.mono {hz hz' : GH} (hl : hz.le hz') {ag : Bool} {ts : List LT} {i : Nat} {row : List F} {e : MapEntry} (h : EntryOk hz ag ts i row e) : EntryOk hz' ag ts i row e :=
 ⟨h.1, h.2.1, h.2.2.1, fun j x hj => (h.2.2.2 j x hj).mono hl⟩

/-- - -/
structure Keeps (hz hb : GH) (O : OM) (w : World) (hz' hb' : GH) (O' : OM) (w' : World) (p : List Nat) : Prop where
 z : hz.le hz'
 b : hb.le hb'
 own : ∀ b q, O b = some (p ++ q) → O' b = some (p ++ q) ∧ w'.heap[b]? = w.heap[b]?
theorem Keeps.sub {hz hb : GH} {O : OM} {w : World} {hz' hb' : GH} {O' : OM} {w' : World} {p : List Nat} (k : Keeps hz hb O w hz' hb' O' w' p) (q : List Nat) :
  Keeps hz hb O w hz' hb' O' w' (p ++ q) :=
 ⟨k.z, k.b, fun b r h => by rw [List.append_assoc] at h ⊢; exact k.own b _ h⟩
theorem Keeps.here {hz hb : GH} {O : OM} {w : World} {hz' hb' : GH} {O' : OM} {w' : World} {p : List Nat} (k : Keeps hz hb O w hz' hb' O' w' p) {b : Nat}
  (h : O b = some p) : O' b = some p ∧ w'.heap[b]? = w.heap[b]? := by
 have := k.own b [] (by simpa using h)
 simpa using this
theorem OwnL.keep {hz hb : GH} {O : OM} {w : World} {hz' hb' : GH} {O' : OM} {w' : World} {p : List Nat} (k : Keeps hz hb O w hz' hb' O' w' p)
  {ts : List LT} {rows : Rows} {c : Value} (h : OwnL hz O w p ts rows c) : OwnL hz' O' w' p ts rows c := by
 obtain ⟨hty, a, cap, rfl, hl, h⟩ := h
 refine ⟨hty, a, cap, rfl, hl, ?_⟩
 rcases h with h | ⟨blk, off, arr, t, fr, rfl, hO, hw, hf, hs, hc⟩
 ·exact .inl h
 ·obtain ⟨h1, h2⟩ := k.here hO
  exact .inr ⟨blk, off, arr, t, fr, rfl, h1, h2.trans hw, hf, hs, fun i j row x a b => (hc i j row x a b).mono k.z⟩
theorem LeafX.keep {hz hb : GH} {O : OM} {w : World} {hz' hb' : GH} {O' : OM} {w' : World} {p : List Nat} (k : Keeps hz hb O w hz' hb' O' w' p)
  {h : Option (Nat × Nat)} {mk : List Nat} {n i j : Nat} {x y : F} (hc : LeafX hz O w p h mk n i j x y) : LeafX hz' O' w' p h mk n i j x y := by
 unfold LeafX at hc ⊢
 split
 ·rename_i hm
  rw [if_pos hm] at hc
  obtain ⟨v, rfl, hc⟩ := hc
  refine ⟨v, rfl, ?_⟩
  rcases hc with hc | ⟨ts, rs, rfl, h1, h2⟩
  ·exact .inl hc
  ·exact .inr ⟨ts, rs, rfl, h1, h2.keep (k.sub _)⟩
 ·rename_i hm
  rw [if_neg hm] at hc
  exact hc
theorem Own.keep {hz hb : GH} {O : OM} {w : World} {hz' hb' : GH} {O' : OM} {w' : World} {p : List Nat} (k : Keeps hz hb O w hz' hb' O' w' p)
  {ts : List LT} {rows : Rows} {c : Value} (h : Own hz O w p ts rows c) : Own hz' O' w' p ts rows c := by
 rcases h with ⟨hn, h⟩ | ⟨hn, h⟩ | ⟨hn, h⟩
 ·exact .inl ⟨hn, h.keep k⟩
 ·refine .inr (.inl ⟨hn, ?_⟩)
  obtain ⟨ag, ks, blk, es, rfl, rfl, hO, hw, hs, hc⟩ := h
  obtain ⟨h1, h2⟩ := k.here hO
  exact ⟨ag, ks, blk, es, rfl, rfl, h1, h2.trans hw, hs, fun i row e a b => (hc i row e a b).mono k.z⟩
 ·obtain ⟨h0, mk, ks, sk, rfl, hk, hty, hl, hx⟩ := h
  exact .inr (.inr ⟨hn, h0, mk, ks, sk, rfl, hk, hty, hl.keep k, hx.imp fun _ _ _ _ h => h.keep k⟩)

/-- - -/
def RepL (hz hb : GH) (O : OM) (w : World) (p : List Nat) : V → Value → Prop
 | .f x, c => RepF hz x c
 | .bor ts rows, c => RepB hz hb ts rows c
 | .own ts rows, c => Own hz O w p ts rows c
 | .undef, _ => True
 | _, _ => False
theorem RepL.keep {hz hb : GH} {O : OM} {w : World} {hz' hb' : GH} {O' : OM} {w' : World} {p : List Nat} (k : Keeps hz hb O w hz' hb' O' w' p)
  {v : V} {c : Value} (h : RepL hz hb O w p v c) : RepL hz' hb' O' w' p v c := by
 cases v <;> simp only [RepL] at h ⊢
 ·exact h.mono k.z
 ·exact h.mono k.z k.b
 ·exact h.keep k

/-- - -/
def RepObj (hz hb : GH) (O : OM) (w : World) (p : List Nat) (row : List V) (c : Value) : Prop :=
 ∃ blk cells t fr, c = .pointer (some ⟨blk, 0, none⟩) ∧ O blk = some p ∧ w.heap[blk]? = some (.cells cells t fr) ∧ Free cells fr ∧ cells.size = row.length ∧
  ∀ (j : Nat) (v : V), row[j]? = some v → RepL hz hb O w (p ++ [j]) v (cells.getD j undef)
theorem RepObj.keep {hz hb : GH} {O : OM} {w : World} {hz' hb' : GH} {O' : OM} {w' : World} {p : List Nat} (k : Keeps hz hb O w hz' hb' O' w' p)
  {row : List V} {c : Value} (h : RepObj hz hb O w p row c) : RepObj hz' hb' O' w' p row c := by
 obtain ⟨blk, cells, t, fr, rfl, hO, hw, hf, hs, hc⟩ := h
 obtain ⟨h1, h2⟩ := k.here hO
 exact ⟨blk, cells, t, fr, rfl, h1, h2.trans hw, hf, hs, fun j v a => (hc j v a).keep (k.sub [j])⟩
def RepAgg (hz hb : GH) (O : OM) (w : World) (p : List Nat) (xs : List V) (c : Value) : Prop :=
 ∃ cs : Array Value, c = .agg cs ∧ cs.size = xs.length ∧ ∀ (j : Nat) (v : V), xs[j]? = some v → RepL hz hb O w (p ++ [j]) v (cs.getD j undef)
theorem RepAgg.keep {hz hb : GH} {O : OM} {w : World} {hz' hb' : GH} {O' : OM} {w' : World} {p : List Nat} (k : Keeps hz hb O w hz' hb' O' w' p)
  {row : List V} {c : Value} (h : RepAgg hz hb O w p row c) : RepAgg hz' hb' O' w' p row c := by
 obtain ⟨cs, rfl, hs, hc⟩ := h
 exact ⟨cs, rfl, hs, fun j v a => (hc j v a).keep (k.sub [j])⟩
/-- - -/
def RepP (hz hb : GH) : V → Value → Prop
 | .f x, c => RepF hz x c
 | .bor ts rows, c => RepB hz hb ts rows c
 | .iref ts rows i j, c => ∃ blk off n cap, RepB hz hb ts rows (.slice (some ⟨blk, off, none⟩) n cap) ∧ i < rows.length ∧
   c = .pointer (some ⟨blk, off + i * ts.length + j, none⟩)
 | _, _ => False
theorem RepP.mono {hz hb hz' hb' : GH} (h1 : hz.le hz') (h2 : hb.le hb') {v : V} {c : Value} (h : RepP hz hb v c) : RepP hz' hb' v c := by
 cases v <;> simp only [RepP] at h ⊢
 ·exact h.mono h1
 ·exact h.mono h1 h2
 ·obtain ⟨blk, off, n, cap, h3, h4, h5⟩ := h
  exact ⟨blk, off, n, cap, h3.mono h1 h2, h4, h5⟩
/-- - -/
def RepClosP (hz hb : GH) (f : FuncId) (caps : List V) (c : Value) : Prop :=
 ∃ cs : Array Value, c = .func (.func f) #[] cs ∧ cs.size = caps.length ∧ ∀ (j : Nat) (v : V), caps[j]? = some v → RepP hz hb v (cs.getD j undef)
theorem RepClosP.mono {hz hb hz' hb' : GH} (h1 : hz.le hz') (h2 : hb.le hb') {f : FuncId} {caps : List V} {c : Value} (h : RepClosP hz hb f caps c) : RepClosP hz' hb' f caps c := by
 obtain ⟨cs, rfl, hs, hc⟩ := h
 exact ⟨cs, rfl, hs, fun j v e => (hc j v e).mono h1 h2⟩
/-- - -/
def RepC (hz hb : GH) (O : OM) (w : World) (p : List Nat) : V → Value → Prop
 | .agg xs, c => RepAgg hz hb O w p xs c
 | .obj row, c => RepObj hz hb O w p row c
 | .clos f caps, c => RepClosP hz hb f caps c
 | .iref ts rows i j, c => RepP hz hb (.iref ts rows i j) c
 | v, c => RepL hz hb O w p v c
theorem RepC.keep {hz hb : GH} {O : OM} {w : World} {hz' hb' : GH} {O' : OM} {w' : World} {p : List Nat} (k : Keeps hz hb O w hz' hb' O' w' p)
  {v : V} {c : Value} (h : RepC hz hb O w p v c) : RepC hz' hb' O' w' p v c := by
 cases v <;> simp only [RepC] at h ⊢
 case agg => exact h.keep k
 case obj => exact h.keep k
 case clos => exact h.mono k.z k.b
 case iref => exact h.mono k.z k.b
 all_goals exact h.keep k
def RepTup (hz hb : GH) (O : OM) (w : World) (p : List Nat) (xs : List V) (c : Value) : Prop :=
 ∃ cs : Array Value, c = .tuple cs ∧ cs.size = xs.length ∧ ∀ (j : Nat) (v : V), xs[j]? = some v → RepC hz hb O w (p ++ [j]) v (cs.getD j undef)
theorem RepTup.keep {hz hb : GH} {O : OM} {w : World} {hz' hb' : GH} {O' : OM} {w' : World} {p : List Nat} (k : Keeps hz hb O w hz' hb' O' w' p)
  {row : List V} {c : Value} (h : RepTup hz hb O w p row c) : RepTup hz' hb' O' w' p row c := by
 obtain ⟨cs, rfl, hs, hc⟩ := h
 exact ⟨cs, rfl, hs, fun j v a => (hc j v a).keep (k.sub [j])⟩

/-! ### places -/
/-- - -/
def LocIs (env : Env) (tm : Nat → Value) (w : World) (l : Loc) (v : V) (c : Value) : Prop :=
 match l.leaf with
 | none => getS env l.slot = v ∧ tm l.slot = c
 | some j => partOf (getS env l.slot) j = v ∧ match getS env l.slot with
  | .obj _ => ∃ blk cells t fr, tm l.slot = .pointer (some ⟨blk, 0, none⟩) ∧ w.heap[blk]? = some (.cells cells t fr) ∧ cells.getD j undef = c
  | .tup _ => ∃ cs : Array Value, tm l.slot = .tuple cs ∧ cs.getD j undef = c
  | _ => False
/-- - -/
def LstAt (env : Env) (tm : Nat → Value) (w : World) (l : Loc) (ts : List LT) (rows : Rows) (c : Value) : Prop :=
 ∃ v, LocIs env tm w l v c ∧ rowsOf v = some (ts, rows)
def shiftA (a : Option Addr) (d : Nat) : Option Addr := a.map (·.add d)
def SubOf (k off len : Nat) (c' c : Value) : Prop :=
 ∃ a n cap b, c' = .slice a n cap ∧ off + len ≤ n ∧ c = .slice b len (cap - off) ∧ ((off = cap ∧ len = 0) ∨ b = shiftA a (off * k))
/-- - -/
def RepE (hz hb : GH) (env : Env) (tm : Nat → Value) (w : World) : V → Value → Prop
 | .lent l k n, c => ∃ ts rows, LstAt env tm w l ts rows c ∧ rows.length = n ∧ ts.length = k ∧ isMp ts = false
 | .mref l, c => ∃ ts rows, LstAt env tm w l ts rows c ∧ isMap ts = true
 | .xl l k n, c => ∃ ts rows, LstAt env tm w l ts rows c ∧ rows.length = n ∧ kN ts = k ∧ isNx ts = true
 | .lsub l k off len, c => ∃ ts rows c', LstAt env tm w l ts rows c' ∧ off + len ≤ rows.length ∧ SubOf ts.length off len c' c ∧ ts.length = k ∧ isMp ts = false
 | .ref s j, c => ∃ row blk, getS env s = .obj row ∧ tm s = .pointer (some ⟨blk, 0, none⟩) ∧ c = .pointer (some ⟨blk, j, none⟩)
 | .eref l i j, c => ∃ ts rows blk off n cap, LstAt env tm w l ts rows (.slice (some ⟨blk, off, none⟩) n cap) ∧ i < rows.length ∧
   c = .pointer (some ⟨blk, off + i * kN ts + j, none⟩) ∧ isMap ts = false
 | .iref ts rows i j, c => ∃ blk off n cap, RepB hz hb ts rows (.slice (some ⟨blk, off, none⟩) n cap) ∧ i < rows.length ∧
   c = .pointer (some ⟨blk, off + i * ts.length + j, none⟩)
 | .cref s, c => ∃ f caps, getS env s = .clos f caps ∧ tm s = c
 | _, _ => False
/-- - -/
def RepA (hz hb : GH) (O : OM) (env : Env) (tm : Nat → Value) (w : World) (p : List Nat) (v : V) (c : Value) : Prop :=
 RepL hz hb O w p v c ∨ RepE hz hb env tm w v c
def RepAggE (hz hb : GH) (O : OM) (env : Env) (tm : Nat → Value) (w : World) (p : List Nat) (xs : List V) (c : Value) : Prop :=
 ∃ cs : Array Value, c = .agg cs ∧ cs.size = xs.length ∧ ∀ (j : Nat) (v : V), xs[j]? = some v → RepA hz hb O env tm w (p ++ [j]) v (cs.getD j undef)
/-- - -/
def RepCap (hz hb : GH) (O : OM) (env : Env) (tm : Nat → Value) (w : World) (p : List Nat) (v : V) (c : Value) : Prop :=
 RepC hz hb O w p v c ∨ RepE hz hb env tm w v c
def RepClos (hz hb : GH) (O : OM) (env : Env) (tm : Nat → Value) (w : World) (p : List Nat) (f : FuncId) (caps : List V) (c : Value) : Prop :=
 ∃ cs : Array Value, c = .func (.func f) #[] cs ∧ cs.size = caps.length ∧ ∀ (j : Nat) (v : V), caps[j]? = some v → RepCap hz hb O env tm w (p ++ [j]) v (cs.getD j undef)
/-- - -/
def RepS (hz hb : GH) (O : OM) (env : Env) (tm : Nat → Value) (w : World) (p : List Nat) : V → Value → Prop
 | .agg xs, c => RepAggE hz hb O env tm w p xs c
 | .tup xs, c => RepTup hz hb O w p xs c
 | .clos f caps, c => RepClos hz hb O env tm w p f caps c
 | .obj row, c => RepObj hz hb O w p row c
 | v, c => RepL hz hb O w p v c ∨ RepE hz hb env tm w v c

/-- - -/
def GlobOk [Globs] (hz : GH) : Prop := ∀ g ts rows, Globs.view g = some (ts, rows) → 0 < rows.length ∧ RepF hz (.lst ts rows) (.slice (some ⟨g, 0, none⟩) rows.length rows.length)
theorem GlobOk.mono [Globs] {hz hz' : GH} (h : GlobOk hz) (hl : hz.le hz') : GlobOk hz' := fun g ts rows e => ⟨(h g ts rows e).1, (h g ts rows e).2.mono hl⟩
/-- - -/
structure Inv [Globs] (A : Nat → Prop) (hz hb : GH) (O : OM) (env : Env) (tm : Nat → Value) (w : World) : Prop where
 sub : hz.le hb
 agree : ∀ b o, hb b = some o → w.heap[b]? = some o
 owned : ∀ b p, O b = some p → A b ∧ hb b = none ∧ b < w.heap.size
 fresh : ∀ b, w.heap.size ≤ b → A b
 glob : GlobOk hz
 rep : ∀ t, RepS hz hb O env tm w [t] (getS env t) (tm t)
end Go.Abs
end
section
set_option linter.unusedVariables false
set_option linter.unusedSimpArgs false
set_option linter.unusedSectionVars false
namespace Go.Abs
open Go
variable [Globs]

theorem getS_set (env : Env) (t u : Nat) (v : V) : getS (env.set t v) u = if t = u ∧ t < env.length then v else getS env u := by
 unfold getS
 simp only [List.getD_eq_getElem?_getD, List.getElem?_set]
 by_cases h : t = u
 ·subst h
  by_cases h2 : t < env.length
  ·simp [h2]
  ·simp [h2, List.getElem?_eq_none (Nat.le_of_not_lt h2)]
 ·simp [h]
theorem getS_set_ne {env : Env} {t u : Nat} {v : V} (h : t ≠ u) : getS (env.set t v) u = getS env u := by rw [getS_set]; simp [h]
theorem getS_ge {env : Env} {t : Nat} (h : env.length ≤ t) : getS env t = .undef := by
 unfold getS; simp [List.getD_eq_getElem?_getD, List.getElem?_eq_none h]
theorem getS_kill (q : KQ) (env : Env) (t : Nat) : getS (env.map (killV q)) t = killV q (getS env t) := by
 unfold getS
 simp only [List.getD_eq_getElem?_getD, List.getElem?_map]
 cases env[t]? <;> simp [killV, killV1]

/-- - -/
def Like (ts ts' : List LT) : Prop := ts' = ts ∨ (isNx ts = true ∧ isNx ts' = true ∧ kN ts' = kN ts)
theorem Like.refl (ts : List LT) : Like ts ts := .inl rfl
theorem Like.no {ts ts' : List LT} (h : Like ts ts') (hn : isNx ts = false) : ts' = ts := by
 rcases h with h | ⟨h, _⟩
 ·exact h
 ·rw [hn] at h; cases h
theorem Like.trans {a b c : List LT} (h : Like a b) (k : Like b c) : Like a c := by
 rcases h with rfl | ⟨h1, h2, h3⟩
 ·exact k
 ·rcases k with rfl | ⟨k1, k2, k3⟩
  ·exact .inr ⟨h1, h2, h3⟩
  ·exact .inr ⟨h1, k2, k3.trans h3⟩
theorem Like.kN {ts ts' : List LT} (h : Like ts ts') : Abs.kN ts' = Abs.kN ts := by
 rcases h with rfl | ⟨_, _, h⟩
 ·rfl
 ·exact h
theorem Like.map {ts ts' : List LT} (h : Like ts ts') : isMap ts' = isMap ts := by
 rcases h with rfl | ⟨h1, h2, _⟩
 ·rfl
 ·rw [(nx_mp h1).2, (nx_mp h2).2]
theorem Like.nx {ts ts' : List LT} (h : Like ts ts') : isNx ts' = isNx ts := by
 rcases h with rfl | ⟨h1, h2, _⟩
 ·rfl
 ·rw [h1, h2]
/-- - -/
structure Pass (env : Env) (tm : Nat → Value) (w : World) (env' : Env) (tm' : Nat → Value) (w' : World) (l : Loc) : Prop where
 lst : ∀ ts rows c, LstAt env tm w l ts rows c → ∃ (ts' : List LT) (rows' : Rows), LstAt env' tm' w' l ts' rows' c ∧ Like ts ts' ∧ (isMap ts = false → rows'.length = rows.length)
 obj : l.leaf = none → ∀ row, getS env l.slot = .obj row → ∃ row', getS env' l.slot = .obj row' ∧ row'.length = row.length ∧ tm' l.slot = tm l.slot
 clos : l.leaf = none → ∀ f caps, getS env l.slot = .clos f caps → ∃ f' caps', getS env' l.slot = .clos f' caps' ∧ tm' l.slot = tm l.slot
theorem RepE.pass {hz hb hz' hb' : GH} {env env' : Env} {tm tm' : Nat → Value} {w w' : World} {v : V} {c : Value} (hlz : hz.le hz') (hl : hb.le hb')
  (hp : ∀ l ∈ mentsV1 v, Pass env tm w env' tm' w' l) (h : RepE hz hb env tm w v c) : RepE hz' hb' env' tm' w' v c := by
 cases v <;> simp only [RepE, mentsV1, List.mem_singleton, forall_eq] at h hp ⊢
 case lent l k n =>
  obtain ⟨ts, rows, h1, rfl, hk, hn⟩ := h
  obtain ⟨ts', rows', h2, h4, h3⟩ := hp.lst _ _ _ h1
  have := h4.no (no_mp hn).2
  subst this
  exact ⟨ts', rows', h2, h3 (no_mp hn).1, hk, hn⟩
 case lsub l k off len =>
  obtain ⟨ts, rows, c', h1, h2, h3, hk, hn⟩ := h
  obtain ⟨ts', rows', h4, h6, h5⟩ := hp.lst _ _ _ h1
  have := h6.no (no_mp hn).2
  subst this
  exact ⟨ts', rows', c', h4, by rw [h5 (no_mp hn).1]; exact h2, h3, hk, hn⟩
 case ref s j =>
  obtain ⟨row, blk, h1, h2, h3⟩ := h
  obtain ⟨row', h5, h6, h7⟩ := hp.obj rfl _ h1
  exact ⟨row', blk, h5, h7.trans h2, h3⟩
 case mref l =>
  obtain ⟨ts, rows, h1, hk⟩ := h
  obtain ⟨ts', rows', h2, h4, h3⟩ := hp.lst _ _ _ h1
  exact ⟨ts', rows', h2, by rw [h4.map]; exact hk⟩
 case xl l k n =>
  obtain ⟨ts, rows, h1, rfl, hk, hn⟩ := h
  obtain ⟨ts', rows', h2, h4, h3⟩ := hp.lst _ _ _ h1
  exact ⟨ts', rows', h2, h3 (nx_mp hn).2, by rw [h4.kN]; exact hk, by rw [h4.nx]; exact hn⟩
 case eref l i j =>
  obtain ⟨ts, rows, blk, off, n, cap, h1, h2, h3, hn⟩ := h
  obtain ⟨ts', rows', h5, h7, h6⟩ := hp.lst _ _ _ h1
  exact ⟨ts', rows', blk, off, n, cap, h5, by rw [h6 hn]; exact h2, by rw [h7.kN]; exact h3, by rw [h7.map]; exact hn⟩
 case iref ts rows i j =>
  obtain ⟨blk, off, n, cap, h1, h2, h3⟩ := h
  exact ⟨blk, off, n, cap, h1.mono hlz hl, h2, h3⟩
 case cref s =>
  obtain ⟨f, caps, h1, h2⟩ := h
  obtain ⟨f', caps', h3, h4⟩ := hp.clos rfl _ _ h1
  exact ⟨f', caps', h3, h4.trans h2⟩

theorem bif_cases (b : Bool) (v : V) (ls : List Loc) (q : KQ) (h : ∀ l ∈ ls, q.hits l = b) : (bif b then V.undef else v) = .undef ∨ ((bif b then V.undef else v) = v ∧ ∀ l ∈ ls, q.hits l = false) := by
 cases b with
 | true => exact .inl rfl
 | false => exact .inr ⟨rfl, h⟩
theorem killV1_cases (q : KQ) (v : V) : killV1 q v = .undef ∨ (killV1 q v = v ∧ ∀ l ∈ mentsV1 v, q.hits l = false) := by
 cases v <;> first
  | exact .inr ⟨rfl, fun l hl => by simp [mentsV1] at hl⟩
  | exact bif_cases _ _ _ q (fun l hl => by simp only [mentsV1, List.mem_singleton] at hl; rw [hl])
theorem RepL.undef (hz hb : GH) (O : OM) (w : World) (p : List Nat) (c : Value) : RepL hz hb O w p .undef c := trivial
theorem RepL.nk {hz hb : GH} {O : OM} {w : World} {p : List Nat} {v : V} {c : Value} (q : KQ) (h : RepL hz hb O w p v c) : RepL hz hb O w p (killV1 q v) c := by
 rcases killV1_cases q v with h1 | ⟨h1, _⟩
 ·rw [h1]; trivial
 ·rw [h1]; exact h

/-- - -/
theorem RepS.keep {hz hb : GH} {O : OM} {env : Env} {tm : Nat → Value} {w : World} {hz' hb' : GH} {O' : OM} {env' : Env} {tm' : Nat → Value} {w' : World} {p : List Nat}
  (k : Keeps hz hb O w hz' hb' O' w' p) {v : V} {c : Value} (hp : ∀ l ∈ mentsV v, Pass env tm w env' tm' w' l)
  (h : RepS hz hb O env tm w p v c) : RepS hz' hb' O' env' tm' w' p v c := by
 have one : ∀ (v : V) (c : Value), (∀ l ∈ mentsV1 v, Pass env tm w env' tm' w' l) → RepL hz hb O w p v c ∨ RepE hz hb env tm w v c →
   RepL hz' hb' O' w' p v c ∨ RepE hz' hb' env' tm' w' v c := fun v c hp h => h.imp (·.keep k) (·.pass k.z k.b hp)
 cases v
 case agg xs =>
  obtain ⟨cs, rfl, hs, hc⟩ := h
  refine ⟨cs, rfl, hs, fun j v a => ?_⟩
  refine (hc j v a).imp (·.keep (k.sub [j])) (·.pass k.z k.b fun l hl => hp l ?_)
  simp only [mentsV, List.mem_flatMap]
  exact ⟨v, List.mem_of_getElem? a, hl⟩
 case tup xs => exact RepTup.keep k h
 case clos f caps =>
  obtain ⟨cs, rfl, hs, hc⟩ := h
  refine ⟨cs, rfl, hs, fun j v a => ?_⟩
  refine (hc j v a).imp (·.keep (k.sub [j])) (·.pass k.z k.b fun l hl => hp l ?_)
  simp only [mentsV, List.mem_flatMap]
  exact ⟨v, List.mem_of_getElem? a, hl⟩
 case obj row => exact RepObj.keep k h
 all_goals exact one _ _ hp h

theorem mentsV1_kill {q : KQ} {v : V} {l : Loc} (h : l ∈ mentsV1 (killV1 q v)) : l ∈ mentsV1 v ∧ q.hits l = false := by
 rcases killV1_cases q v with h1 | ⟨h1, h2⟩
 ·rw [h1] at h; simp [mentsV1] at h
 ·rw [h1] at h; exact ⟨h, h2 l h⟩
theorem mentsV_kill {q : KQ} {v : V} {l : Loc} (h : l ∈ mentsV (killV q v)) : l ∈ mentsV v ∧ q.hits l = false := by
 cases v <;> simp only [killV, mentsV, List.mem_flatMap, List.mem_map] at h ⊢
 case agg xs =>
  obtain ⟨x, ⟨y, hy, rfl⟩, hl⟩ := h
  exact ⟨⟨y, hy, (mentsV1_kill hl).1⟩, (mentsV1_kill hl).2⟩
 case clos f xs =>
  obtain ⟨x, ⟨y, hy, rfl⟩, hl⟩ := h
  exact ⟨⟨y, hy, (mentsV1_kill hl).1⟩, (mentsV1_kill hl).2⟩
 all_goals
  rcases killV1_cases q _ with h1 | ⟨h1, h2⟩
  ·rw [h1] at h; simp [mentsV1] at h
  ·rw [h1] at h; exact ⟨h, h2 l h⟩
theorem RepE.nk {hz hb : GH} {env : Env} {tm : Nat → Value} {w : World} {v : V} {c : Value} (q : KQ) (h : RepE hz hb env tm w v c) : killV1 q v = .undef ∨ RepE hz hb env tm w (killV1 q v) c := by
 rcases killV1_cases q v with h1 | ⟨h1, _⟩
 ·exact .inl h1
 ·rw [h1]; exact .inr h
theorem RepC.nk {hz hb : GH} {O : OM} {w : World} {p : List Nat} {v : V} {c : Value} (q : KQ) (h : RepC hz hb O w p v c) : RepC hz hb O w p (killV1 q v) c := by
 rcases killV1_cases q v with h1 | ⟨h1, _⟩
 ·rw [h1]; trivial
 ·rw [h1]; exact h
theorem RepS.nk {hz hb : GH} {O : OM} {env : Env} {tm : Nat → Value} {w : World} {p : List Nat} {v : V} {c : Value} (q : KQ)
  (h : RepS hz hb O env tm w p v c) : RepS hz hb O env tm w p (killV q v) c := by
 have one : ∀ v : V, (RepL hz hb O w p v c ∨ RepE hz hb env tm w v c) → RepL hz hb O w p (killV1 q v) c ∨ RepE hz hb env tm w (killV1 q v) c := by
  intro v h
  rcases h with h | h
  ·exact .inl (h.nk q)
  ·rcases h.nk q with h1 | h1
   ·rw [h1]; exact .inl trivial
   ·exact .inr h1
 cases v
 case agg xs =>
  obtain ⟨cs, rfl, hs, hc⟩ := h
  refine ⟨cs, rfl, by simpa using hs, fun j v a => ?_⟩
  simp only [List.getElem?_map, Option.map_eq_some_iff] at a
  obtain ⟨x, hx, rfl⟩ := a
  rcases hc j x hx with h | h
  ·exact .inl (h.nk q)
  ·rcases h.nk q with h1 | h1
   ·rw [h1]; exact .inl trivial
   ·exact .inr h1
 case clos f xs =>
  obtain ⟨cs, rfl, hs, hc⟩ := h
  refine ⟨cs, rfl, by simpa using hs, fun j v a => ?_⟩
  simp only [List.getElem?_map, Option.map_eq_some_iff] at a
  obtain ⟨x, hx, rfl⟩ := a
  rcases hc j x hx with h | h
  ·exact .inl (h.nk q)
  ·rcases h.nk q with h1 | h1
   ·rw [h1]; exact .inl trivial
   ·exact .inr h1
 case tup xs => exact h
 case obj row => exact h
 all_goals first
  | exact one _ h
  | (have := one _ h; revert this; simp only [killV, killV1]; cases q.hits _ <;> simp [RepS])
/-- - -/
theorem Pass.kill (env : Env) (tm : Nat → Value) (w : World) (q : KQ) (l : Loc) : Pass env tm w (env.map (killV q)) tm w l := by
 constructor
 ·intro ts rows c h
  obtain ⟨v, h1, h2⟩ := h
  refine ⟨ts, rows, ⟨v, ?_, h2⟩, Like.refl _, fun _ => rfl⟩
  unfold LocIs at h1 ⊢
  cases hl : l.leaf with
  | none =>
   rw [hl] at h1
   obtain ⟨h1, h3⟩ := h1
   refine ⟨?_, h3⟩
   rw [getS_kill, h1]
   cases v with
   | own ts rows => rfl
   | f x => rfl
   | _ => simp [rowsOf, fail] at h2
  | some j =>
   rw [hl] at h1
   simp only at h1 ⊢
   rw [getS_kill]
   cases hg : getS env l.slot with
   | obj row => rw [hg] at h1; exact h1
   | tup row => rw [hg] at h1; exact h1
   | _ => rw [hg] at h1; exact h1.2.elim
 ·intro _ row h
  exact ⟨row, by rw [getS_kill, h]; rfl, rfl, rfl⟩
 ·intro _ f caps h
  exact ⟨f, caps.map (killV1 q), by rw [getS_kill, h]; rfl, rfl⟩
theorem Keeps.refl (hz hb : GH) (O : OM) (w : World) (p : List Nat) : Keeps hz hb O w hz hb O w p := ⟨GH.le_refl _, GH.le_refl _, fun _ _ h => ⟨h, rfl⟩⟩
theorem Inv.kill {A : Nat → Prop} {hz hb : GH} {O : OM} {env : Env} {tm : Nat → Value} {w : World} (I : Inv A hz hb O env tm w) (q : KQ) :
  Inv A hz hb O (env.map (killV q)) tm w :=
 ⟨I.sub, I.agree, I.owned, I.fresh, I.glob, fun t => by
  rw [getS_kill]
  exact (I.rep t).nk q |>.keep (Keeps.refl _ _ _ _ _) fun l _ => Pass.kill env tm w q l⟩
end Go.Abs
end
section
set_option linter.unusedVariables false
set_option linter.unusedSimpArgs false
set_option linter.unusedSectionVars false
namespace Go.Abs
open Go
variable [Globs]

/-! ### the steps' monad, read backwards -/
theorem applyU_append (us vs : List Upd) (env : Env) : applyU (us ++ vs) env = applyU vs (applyU us env) := by
 induction us generalizing env with
 | nil => rfl
 | cons u us ih => exact ih _
theorem bind_inv {α β : Type} {m : M α} {f : α → M β} {env : Env} {cs : List Bool} {us : List Upd} {b : β} (h : (m >>= f) env = some (cs, us, b)) :
  ∃ c1 u1 a c2 u2, m env = some (c1, u1, a) ∧ f a (applyU u1 env) = some (c2, u2, b) ∧ cs = c1 ++ c2 ∧ us = u1 ++ u2 := by
 change M.bind m f env = _ at h
 unfold M.bind at h
 split at h
 ·cases h
 ·rename_i c1 u1 a h1
  split at h
  ·cases h
  ·rename_i c2 u2 b' h2
   simp only [Option.some.injEq, Prod.mk.injEq] at h
   obtain ⟨rfl, rfl, rfl⟩ := h
   exact ⟨c1, u1, a, c2, u2, h1, h2, rfl, rfl⟩
theorem pure_inv {α : Type} {a b : α} {env : Env} {cs : List Bool} {us : List Upd} (h : (pure a : M α) env = some (cs, us, b)) : cs = [] ∧ us = [] ∧ b = a := by
 change M.ret a env = _ at h
 simp only [M.ret, Option.some.injEq, Prod.mk.injEq] at h
 exact ⟨h.1.symm, h.2.1.symm, h.2.2.symm⟩
theorem upd_inv {vs : List Upd} {env : Env} {cs : List Bool} {us : List Upd} {u : Unit} (h : upd vs env = some (cs, us, u)) : cs = [] ∧ us = vs := by
 simp only [upd, Option.some.injEq, Prod.mk.injEq] at h
 exact ⟨h.1.symm, h.2.1.symm⟩
theorem chk_inv {b : Bool} {env : Env} {cs : List Bool} {us : List Upd} {u : Unit} (h : chk b env = some (cs, us, u)) : cs = [b] ∧ us = [] := by
 simp only [chk, Option.some.injEq, Prod.mk.injEq] at h
 exact ⟨h.1.symm, h.2.1.symm⟩
theorem checks_inv {bs : List Bool} {env : Env} {cs : List Bool} {us : List Upd} {u : Unit} (h : checks bs env = some (cs, us, u)) : cs = bs ∧ us = [] := by
 simp only [checks, Option.some.injEq, Prod.mk.injEq] at h
 exact ⟨h.1.symm, h.2.1.symm⟩
theorem opt_inv {α : Type} {x : Option α} {env : Env} {cs : List Bool} {us : List Upd} {a : α} (h : opt x env = some (cs, us, a)) : cs = [] ∧ us = [] ∧ x = some a := by
 unfold opt at h
 cases x with
 | none => cases h
 | some b =>
  simp only [Option.some.injEq, Prod.mk.injEq] at h
  exact ⟨h.1.symm, h.2.1.symm, by rw [h.2.2]⟩
theorem bad_inv {α : Type} {s : String} {env : Env} {cs : List Bool} {us : List Upd} {a : α} (h : bad s env = some (cs, us, a)) : False := by
 simp [bad, fail] at h
theorem slotM_inv {t : Nat} {env : Env} {cs : List Bool} {us : List Upd} {v : V} (h : slotM t env = some (cs, us, v)) : cs = [] ∧ us = [] ∧ getS env t = v ∧ v ≠ .undef := by
 unfold slotM at h
 cases hu : isUndef (getS env t) with
 | true => simp [hu, fail] at h
 | false =>
  simp only [hu, cond_false, Option.some.injEq, Prod.mk.injEq] at h
  refine ⟨h.1.symm, h.2.1.symm, h.2.2, ?_⟩
  rintro rfl
  rw [h.2.2] at hu
  cases hu
theorem locM_inv {l : Loc} {env : Env} {cs : List Bool} {us : List Upd} {v : V} (h : locM l env = some (cs, us, v)) : cs = [] ∧ us = [] ∧ getLoc env l = v ∧ v ≠ .undef := by
 unfold locM at h
 unfold getLoc
 cases hl : l.leaf with
 | none => rw [hl] at h; exact slotM_inv h
 | some j =>
  rw [hl] at h
  obtain ⟨c1, u1, a, c2, u2, h1, h2, rfl, rfl⟩ := bind_inv h
  obtain ⟨rfl, rfl, rfl, _⟩ := slotM_inv h1
  cases hu : isUndef (partOf (getS env l.slot) j) with
  | true => rw [hu] at h2; exact (bad_inv (α := V) (env := applyU [] env) h2).elim
  | false =>
   rw [hu] at h2
   obtain ⟨rfl, rfl, rfl⟩ := pure_inv h2
   refine ⟨rfl, rfl, rfl, ?_⟩
   intro h0
   rw [h0] at hu
   cases hu

/-! ### what a place holds -/
def locPath (l : Loc) : List Nat := match l.leaf with | none => [l.slot] | some j => [l.slot, j]
/-- - -/
theorem Inv.own_at {A : Nat → Prop} {hz hb : GH} {O : OM} {env : Env} {tm : Nat → Value} {w : World} (I : Inv A hz hb O env tm w) {l : Loc} {ts : List LT} {rows : Rows}
  (h : getLoc env l = .own ts rows) : ∃ c, LocIs env tm w l (.own ts rows) c ∧ Own hz O w (locPath l) ts rows c := by
 unfold getLoc at h
 unfold LocIs locPath
 have hr := I.rep l.slot
 cases hl : l.leaf with
 | none =>
  rw [hl] at h
  simp only at h
  rw [h] at hr
  rcases hr with hr | hr
  ·exact ⟨_, ⟨h, rfl⟩, hr⟩
  ·exact hr.elim
 | some j =>
  rw [hl] at h
  simp only at h ⊢
  cases hg : getS env l.slot with
  | obj row =>
   rw [hg] at h hr
   obtain ⟨blk, cells, t, fr, h1, h2, h3, h4, h5, h6⟩ := hr
   have hj : row[j]? = some (.own ts rows) := by
    simp only [partOf, List.getD_eq_getElem?_getD] at h
    cases hx : row[j]? with
    | none => rw [hx] at h; cases h
    | some y => rw [hx] at h; simp at h; rw [h]
   exact ⟨cells.getD j undef, ⟨h, blk, cells, t, fr, h1, h3, rfl⟩, h6 j _ hj⟩
  | tup row =>
   rw [hg] at h hr
   obtain ⟨cs, h1, h2, h3⟩ := hr
   have hj : row[j]? = some (.own ts rows) := by
    simp only [partOf, List.getD_eq_getElem?_getD] at h
    cases hx : row[j]? with
    | none => rw [hx] at h; cases h
    | some y => rw [hx] at h; simp at h; rw [h]
   exact ⟨cs.getD j undef, ⟨h, cs, h1, rfl⟩, h3 j _ hj⟩
  | _ => rw [hg] at h; cases h
theorem LocIs.part {env : Env} {tm : Nat → Value} {w : World} {l : Loc} {v : V} {c : Value} (h : LocIs env tm w l v c) : getLoc env l = v := by
 unfold LocIs at h
 unfold getLoc
 cases hl : l.leaf with
 | none => rw [hl] at h; exact h.1
 | some j => rw [hl] at h; exact h.1
theorem LocIs.det {env : Env} {tm : Nat → Value} {w : World} {l : Loc} {v v' : V} {c c' : Value} (h : LocIs env tm w l v c) (h' : LocIs env tm w l v' c') : v = v' ∧ c = c' := by
 refine ⟨h.part.symm.trans h'.part, ?_⟩
 unfold LocIs at h h'
 cases hl : l.leaf with
 | none => rw [hl] at h h'; exact h.2.symm.trans h'.2
 | some j =>
  rw [hl] at h h'
  cases hg : getS env l.slot with
  | obj row =>
   simp only [hg] at h h'
   obtain ⟨_, blk, cells, t, fr, h1, h2, rfl⟩ := h
   obtain ⟨_, blk', cells', t', fr', h1', h2', rfl⟩ := h'
   rw [h1] at h1'
   simp only [Value.pointer.injEq, Option.some.injEq, Addr.mk.injEq] at h1'
   obtain ⟨rfl, _⟩ := h1'
   rw [h2] at h2'
   simp only [Option.some.injEq, Obj.cells.injEq] at h2'
   rw [h2'.1]
  | tup row =>
   simp only [hg] at h h'
   obtain ⟨_, cs, h1, rfl⟩ := h
   obtain ⟨_, cs', h1', rfl⟩ := h'
   rw [h1] at h1'
   simp only [Value.tuple.injEq] at h1'
   rw [h1']
  | _ => simp only [hg] at h; exact h.2.elim

/-- - -/
def chLoc (env : Env) (l : Loc) (v : V) : Env := match l.leaf with
 | none => env.set l.slot v
 | some j => env.set l.slot (putLeaf (getS env l.slot) j v)
theorem setLoc_inv {l : Loc} {v : V} {env : Env} {cs : List Bool} {us : List Upd} {u : Unit} (h : setLoc l v env = some (cs, us, u)) : cs = [] ∧ applyU us env = chLoc env l v := by
 unfold setLoc at h
 unfold chLoc
 cases hl : l.leaf with
 | none => rw [hl] at h; obtain ⟨rfl, rfl⟩ := upd_inv h; exact ⟨rfl, rfl⟩
 | some j => rw [hl] at h; obtain ⟨rfl, rfl⟩ := upd_inv h; exact ⟨rfl, rfl⟩
theorem getS_chLoc_ne {env : Env} {l : Loc} {v : V} {t : Nat} (h : l.slot ≠ t) : getS (chLoc env l v) t = getS env t := by
 unfold chLoc
 cases l.leaf <;> exact getS_set_ne h
theorem length_chLoc (env : Env) (l : Loc) (v : V) : (chLoc env l v).length = env.length := by
 unfold chLoc
 cases l.leaf <;> simp
theorem partOf_putLeaf {v : V} {i j : Nat} {x : V} (h : i ≠ j) : partOf (putLeaf v i x) j = partOf v j := by
 cases v <;> simp [putLeaf, partOf, List.getD_eq_getElem?_getD, List.getElem?_set, h]
/-- - -/
theorem LocIs.other {env : Env} {tm : Nat → Value} {w : World} {l m : Loc} {v x : V} {c : Value} (h : LocIs env tm w m v c) (hne : l.slot = m.slot → l.leaf ≠ none ∧ m.leaf ≠ none ∧ l.leaf ≠ m.leaf) :
  LocIs (chLoc env l x) tm w m v c := by
 by_cases hs : l.slot = m.slot
 ·obtain ⟨h1, h2, h3⟩ := hne hs
  cases hl : l.leaf with
  | none => exact (h1 hl).elim
  | some i =>
   cases hm : m.leaf with
   | none => exact (h2 hm).elim
   | some j =>
    have hij : i ≠ j := by rintro rfl; exact h3 (hl.trans hm.symm)
    unfold LocIs at h ⊢
    rw [hm] at h ⊢
    simp only at h ⊢
    have hg : getS (chLoc env l x) m.slot = putLeaf (getS env m.slot) i x ∨ getS (chLoc env l x) m.slot = getS env m.slot := by
     unfold chLoc
     rw [hl]
     simp only
     rw [getS_set, hs]
     split
     ·exact .inl rfl
     ·exact .inr rfl
    rcases hg with hg | hg
    ·rw [hg]
     refine ⟨(partOf_putLeaf hij).trans h.1, ?_⟩
     have h4 := h.2
     cases hv : getS env m.slot with
     | obj row => rw [hv] at h4; exact h4
     | tup row => rw [hv] at h4; exact h4
     | _ => rw [hv] at h4; exact h4.elim
    ·rw [hg]; exact h
 ·unfold LocIs at h ⊢
  rw [getS_chLoc_ne hs]
  exact h

/-! ### freezing and going away -/
theorem path_ne {s t : Nat} {l : Loc} (h : l.slot ≠ t) (r : List Nat) : locPath l ≠ [t] ++ r := by
 unfold locPath
 cases l.leaf <;> simp [h]
/-- - -/
theorem Pass.ofLocK {env env' : Env} {tm : Nat → Value} {w : World} {m : Loc}
  (h : ∀ v c, LocIs env tm w m v c → ∃ v', LocIs env' tm w m v' c ∧ ∀ ts rows, rowsOf v = some (ts, rows) → ∃ (ts' : List LT) (rows' : Rows), rowsOf v' = some (ts', rows') ∧ Like ts ts' ∧ (isMap ts = false → rows'.length = rows.length))
  (ho : m.leaf = none → ∀ row, getS env m.slot = .obj row → ∃ row', getS env' m.slot = .obj row' ∧ row'.length = row.length)
  (hc : m.leaf = none → ∀ f caps, getS env m.slot = .clos f caps → ∃ f' caps', getS env' m.slot = .clos f' caps') : Pass env tm w env' tm w m :=
 ⟨fun ts rows c ⟨v, h1, h2⟩ => let ⟨v', h3, h4⟩ := h v c h1; let ⟨ts', rows', h5, h7, h6⟩ := h4 ts rows h2; ⟨ts', rows', ⟨v', h3, h5⟩, h7, h6⟩,
  fun hl row hr => let ⟨row', h1, h2⟩ := ho hl row hr; ⟨row', h1, h2, rfl⟩,
  fun hl f caps hr => let ⟨f', caps', h1⟩ := hc hl f caps hr; ⟨f', caps', h1, rfl⟩⟩
theorem Pass.ofLoc {env env' : Env} {tm : Nat → Value} {w : World} {m : Loc}
  (h : ∀ v c, LocIs env tm w m v c → ∃ v', LocIs env' tm w m v' c ∧ ∀ ts rows, rowsOf v = some (ts, rows) → ∃ rows' : Rows, rowsOf v' = some (ts, rows') ∧ (isMap ts = false → rows'.length = rows.length))
  (ho : m.leaf = none → ∀ row, getS env m.slot = .obj row → ∃ row', getS env' m.slot = .obj row' ∧ row'.length = row.length)
  (hc : m.leaf = none → ∀ f caps, getS env m.slot = .clos f caps → ∃ f' caps', getS env' m.slot = .clos f' caps') : Pass env tm w env' tm w m :=
 Pass.ofLocK (fun v c h1 => let ⟨v', h3, h4⟩ := h v c h1; ⟨v', h3, fun ts rows hr => let ⟨rows', h5, h6⟩ := h4 ts rows hr; ⟨ts, rows', h5, Like.refl _, h6⟩⟩) ho hc
theorem putLeaf_obj (row : List V) (j : Nat) (x : V) : putLeaf (.obj row) j x = .obj (row.set j x) := rfl
/-- - -/
theorem Pass.chLoc {env : Env} {tm : Nat → Value} {w : World} {l m : Loc} {x : V} (hne : l ≠ m) (hg : ∀ row, l.leaf = none → m.leaf = none → l.slot = m.slot → getS env m.slot ≠ .obj row)
  (hown : ∃ ts rows, getLoc env l = .own ts rows) :
  Pass env tm w (chLoc env l x) tm w m := by
 obtain ⟨ts0, rows0, hown⟩ := hown
 by_cases hs : l.slot = m.slot
 ·cases hl : l.leaf with
  | none =>
   have ho : getS env m.slot = .own ts0 rows0 := by
    unfold getLoc at hown; rw [hl, hs] at hown; exact hown
   cases hm : m.leaf with
   | none => exact (hne (by cases l; cases m; simp_all)).elim
   | some j =>
    refine Pass.ofLoc (fun v c h => ?_) (by simp [hm]) (by simp [hm])
    unfold LocIs at h
    rw [hm, ho] at h
    exact h.2.elim
  | some i =>
   cases hm : m.leaf with
   | none =>
    have hcase : (∃ row, getS env m.slot = .obj row ∧ getS (Abs.chLoc env l x) m.slot = .obj (row.set i x)) ∨ (∃ row, getS env m.slot = .tup row) := by
     unfold getLoc at hown
     rw [hl, hs] at hown
     simp only at hown
     cases hv : getS env m.slot with
     | obj row =>
      left
      refine ⟨row, rfl, ?_⟩
      unfold Abs.chLoc
      rw [hl]
      simp only
      rw [getS_set, hs, hv]
      have hlt : m.slot < env.length := by
       rcases Nat.lt_or_ge m.slot env.length with h | h
       ·exact h
       ·rw [getS_ge h] at hv; cases hv
      simp [hlt, putLeaf]
     | tup row => right; exact ⟨row, rfl⟩
     | _ => rw [hv] at hown; cases hown
    rcases hcase with ⟨row, h1, h2⟩ | ⟨row, h1⟩
    ·refine Pass.ofLoc (fun v c h => ?_) (fun _ row' hr => ?_) (fun _ f caps hr => ?_)
     ·unfold LocIs at h ⊢
      rw [hm] at h ⊢
      simp only at h ⊢
      refine ⟨_, ⟨rfl, h.2⟩, fun ts rows hr => ?_⟩
      rw [← h.1, h1] at hr
      simp [rowsOf, fail] at hr
     ·rw [h1] at hr
      cases hr
      exact ⟨_, h2, by simp⟩
     ·rw [h1] at hr; cases hr
    ·refine Pass.ofLoc (fun v c h => ?_) (fun _ row' hr => ?_) (fun _ f caps hr => ?_)
     ·unfold LocIs at h ⊢
      rw [hm] at h ⊢
      simp only at h ⊢
      refine ⟨_, ⟨rfl, h.2⟩, fun ts rows hr => ?_⟩
      rw [← h.1, h1] at hr
      simp [rowsOf, fail] at hr
     ·rw [h1] at hr; cases hr
     ·rw [h1] at hr; cases hr
   | some j =>
    have hij : l.leaf ≠ m.leaf := by
     intro e; exact hne (by cases l; cases m; simp_all)
    refine Pass.ofLoc (fun v c h => ⟨v, h.other fun _ => ⟨by simp [hl], by simp [hm], hij⟩, fun ts rows hr => ⟨rows, hr, fun _ => rfl⟩⟩) (by simp [hm]) (by simp [hm])
 ·refine Pass.ofLoc (fun v c h => ⟨v, h.other fun e => (hs e).elim, fun ts rows hr => ⟨rows, hr, fun _ => rfl⟩⟩) (fun _ row hr => ⟨row, by rw [getS_chLoc_ne hs]; exact hr, rfl⟩)
   (fun _ f caps hr => ⟨f, caps, by rw [getS_chLoc_ne hs]; exact hr⟩)
end Go.Abs
end
section
set_option linter.unusedVariables false
set_option linter.unusedSimpArgs false
set_option linter.unusedSectionVars false
namespace Go.Abs
open Go
variable [Globs]

theorem getS_lt {env : Env} {t : Nat} {v : V} (h : getS env t = v) (hv : v ≠ .undef) : t < env.length := by
 rcases Nat.lt_or_ge t env.length with h1 | h1
 ·exact h1
 ·exact (hv (h.symm.trans (getS_ge h1))).elim
theorem getD_ne {row : List V} {j : Nat} {v : V} (h : row.getD j .undef = v) (hv : v ≠ .undef) : row[j]? = some v ∧ j < row.length := by
 rw [List.getD_eq_getElem?_getD] at h
 cases hx : row[j]? with
 | none => rw [hx] at h; exact (hv h.symm).elim
 | some y =>
  rw [hx] at h
  simp at h
  exact ⟨by rw [h], (List.getElem?_eq_some_iff.1 hx).1⟩
theorem LocIs.self {env : Env} {tm : Nat → Value} {w : World} {l : Loc} {v : V} {c : Value} (h : LocIs env tm w l v c) (hv : v ≠ .undef) (x : V) :
  LocIs (chLoc env l x) tm w l x c := by
 unfold LocIs at h ⊢
 unfold chLoc
 cases hl : l.leaf with
 | none =>
  rw [hl] at h
  simp only at h ⊢
  refine ⟨?_, h.2⟩
  rw [getS_set]
  simp [getS_lt h.1 hv]
 | some j =>
  rw [hl] at h
  simp only at h ⊢
  have hlt : l.slot < env.length := by
   rcases Nat.lt_or_ge l.slot env.length with h1 | h1
   ·exact h1
   ·rw [getS_ge h1] at h; exact h.2.elim
  rw [getS_set]
  simp only [hlt, and_self, if_true]
  cases hg : getS env l.slot with
  | obj row =>
   rw [hg] at h
   obtain ⟨_, hj⟩ := getD_ne h.1 hv
   exact ⟨by simp [putLeaf, partOf, List.getD_eq_getElem?_getD, List.getElem?_set, hj], h.2⟩
  | tup row =>
   rw [hg] at h
   obtain ⟨_, hj⟩ := getD_ne h.1 hv
   exact ⟨by simp [putLeaf, partOf, List.getD_eq_getElem?_getD, List.getElem?_set, hj], h.2⟩
  | _ => rw [hg] at h; exact h.2.elim
theorem Pass.selfK {env : Env} {tm : Nat → Value} {w : World} {l : Loc} {ts ts' : List LT} {rows rows' : Rows} {x : V} (h : getLoc env l = .own ts rows) (hx : rowsOf x = some (ts', rows')) (hk : Like ts ts') (hlen : isMap ts = false → rows'.length = rows.length) :
  Pass env tm w (Abs.chLoc env l x) tm w l := by
 have hn : l.leaf = none → getS env l.slot = .own ts rows := fun hl => by unfold getLoc at h; rw [hl] at h; exact h
 refine Pass.ofLocK (fun v c h1 => ?_) (fun hl row hr => by rw [hn hl] at hr; cases hr) (fun hl f caps hr => by rw [hn hl] at hr; cases hr)
 have hv : v = .own ts rows := h1.part.symm.trans h
 subst hv
 refine ⟨x, h1.self (by simp) x, fun ts0 rows0 h2 => ?_⟩
 simp only [rowsOf, Option.some.injEq, Prod.mk.injEq] at h2
 obtain ⟨rfl, rfl⟩ := h2
 exact ⟨ts', rows', hx, hk, hlen⟩
theorem Pass.self {env : Env} {tm : Nat → Value} {w : World} {l : Loc} {ts : List LT} {rows rows' : Rows} {x : V} (h : getLoc env l = .own ts rows) (hx : rowsOf x = some (ts, rows')) (hlen : isMap ts = false → rows'.length = rows.length) :
  Pass env tm w (Abs.chLoc env l x) tm w l := Pass.selfK h hx (Like.refl _) hlen

/-- - -/
def FzExt (A : Nat → Prop) (hz hb hz' hb' : GH) : Prop := hz.le hz' ∧ hb.le hb' ∧ (∀ b o, hb' b = some o → hb b = some o ∨ (A b ∧ hz' b = some o)) ∧ (∀ b o, hz' b = some o → hz b = some o ∨ A b)
theorem FzExt.refl (A : Nat → Prop) (hz hb : GH) : FzExt A hz hb hz hb := ⟨GH.le_refl _, GH.le_refl _, fun _ _ h => .inl h, fun _ _ h => .inl h⟩
theorem FzExt.trans {A : Nat → Prop} {a b c d e f : GH} (h : FzExt A a b c d) (k : FzExt A c d e f) : FzExt A a b e f :=
 ⟨GH.le_trans h.1 k.1, GH.le_trans h.2.1 k.2.1, fun x o e => by
  rcases k.2.2.1 x o e with h1 | h1
  ·rcases h.2.2.1 x o h1 with h2 | h2
   ·exact .inl h2
   ·exact .inr ⟨h2.1, k.1 _ _ h2.2⟩
  ·exact .inr h1, fun x o e => by
  rcases k.2.2.2 x o e with h1 | h1
  ·exact h.2.2.2 x o h1
  ·exact .inr h1⟩

/-- - -/
theorem rep_chLoc {hz hb hz' hb' : GH} {O O' : OM} {env : Env} {tm : Nat → Value} {w : World} {l : Loc} {x : V}
  (hr : ∀ t, RepS hz hb O env tm w [t] (getS env t) (tm t))
  (k : ∀ t, t ≠ l.slot → Keeps hz hb O w hz' hb' O' w [t])
  (kl : ∀ j i, l.leaf = some j → i ≠ j → Keeps hz hb O w hz' hb' O' w [l.slot, i])
  (kb : ∀ j b, l.leaf = some j → O b = some [l.slot] → O' b = some [l.slot])
  (hp : ∀ t, ∀ m ∈ mentsV (getS (chLoc env l x) t), Pass env tm w (chLoc env l x) tm w m)
  {v : V} {c : Value} (hv : v ≠ .undef) (h : LocIs env tm w l v c) (hx : RepL hz' hb' O' w (locPath l) x c)
  (hx1 : l.leaf = none → RepS hz' hb' O' (chLoc env l x) tm w [l.slot] x c) :
  ∀ t, RepS hz' hb' O' (chLoc env l x) tm w [t] (getS (chLoc env l x) t) (tm t) := by
 intro t
 by_cases ht : l.slot = t
 ·subst ht
  have h0 := h
  have hp0 := hp l.slot
  unfold LocIs at h
  unfold chLoc at hp0 hx1 ⊢
  cases hl : l.leaf with
  | none =>
   rw [hl] at h hp0
   simp only at h hp0 ⊢
   simp only [hl, true_implies] at hx1
   rw [getS_set] at *
   simp only [getS_lt h.1 hv, and_self, if_true] at *
   rw [h.2]
   exact hx1
  | some j =>
   rw [hl] at h
   simp only at h ⊢
   have hlt : l.slot < env.length := by
    rcases Nat.lt_or_ge l.slot env.length with h1 | h1
    ·exact h1
    ·rw [getS_ge h1] at h; exact h.2.elim
   rw [getS_set]
   simp only [hlt, and_self, if_true]
   have hrs := hr l.slot
   have hpath : locPath l = [l.slot] ++ [j] := by unfold locPath; rw [hl]; rfl
   rw [hpath] at hx
   cases hg : getS env l.slot with
   | obj row =>
    rw [hg] at h hrs
    obtain ⟨blk, cells, t, fr, h1, h2, h3, h4, h5, h6⟩ := hrs
    obtain ⟨_, blk', cells', t', fr', h1', h3', rfl⟩ := h
    rw [h1] at h1'
    simp only [Value.pointer.injEq, Option.some.injEq, Addr.mk.injEq] at h1'
    obtain ⟨rfl, _⟩ := h1'
    rw [h3] at h3'
    simp only [Option.some.injEq, Obj.cells.injEq] at h3'
    obtain ⟨rfl, rfl, rfl⟩ := h3'
    refine ⟨blk, cells, t, fr, h1, kb j blk hl h2, h3, h4, by simpa using h5, fun i u hu => ?_⟩
    rw [List.getElem?_set] at hu
    by_cases hij : j = i
    ·subst hij
     simp only [if_true] at hu
     split at hu
     ·cases hu; exact hx
     ·cases hu
    ·simp only [hij, if_false] at hu
     exact (h6 i u hu).keep (kl j i hl (Ne.symm hij))
   | tup row =>
    rw [hg] at h hrs
    obtain ⟨cs, h1, h5, h6⟩ := hrs
    obtain ⟨_, cs', h1', rfl⟩ := h
    rw [h1] at h1'
    simp only [Value.tuple.injEq] at h1'
    subst h1'
    refine ⟨cs, h1, by simpa using h5, fun i u hu => ?_⟩
    rw [List.getElem?_set] at hu
    by_cases hij : j = i
    ·subst hij
     simp only [if_true] at hu
     split at hu
     ·cases hu
      cases x <;> first | exact hx | exact hx.elim
     ·cases hu
    ·simp only [hij, if_false] at hu
     exact (h6 i u hu).keep (kl j i hl (Ne.symm hij))
   | _ => rw [hg] at h; exact h.2.elim
 ·have := hp t
  rw [getS_chLoc_ne ht] at this ⊢
  exact (hr t).keep (k t (Ne.symm ht)) this

theorem locPath_inj_slot {l : Loc} {s : Nat} {r : List Nat} (h : locPath l = [s] ++ r) : l.slot = s := by
 unfold locPath at h
 cases hl : l.leaf <;> rw [hl] at h <;> simp at h
 ·exact h.1
 ·exact h.1
theorem locPath_leaf {l : Loc} {s i : Nat} {r : List Nat} (h : locPath l = [s, i] ++ r) : l.leaf = some i := by
 unfold locPath at h
 cases hl : l.leaf <;> rw [hl] at h <;> simp at h
 rw [h.2.1]
theorem locPath_one {l : Loc} {s : Nat} (h : locPath l = [s]) : l.leaf = none := by
 unfold locPath at h
 cases hl : l.leaf <;> rw [hl] at h <;> simp at h

theorem Inv.freeze {A : Nat → Prop} {hz hb : GH} {O : OM} {env : Env} {tm : Nat → Value} {w : World} (I : Inv A hz hb O env tm w) {l : Loc} {ts : List LT} {rows : Rows}
  (h : getLoc env l = .own ts rows) (hn : isMp ts = false) : ∃ hz' hb' O' c, FzExt A hz hb hz' hb' ∧ Inv A hz' hb' O' (chLoc env l (.f (.lst ts rows))) tm w ∧
   LocIs env tm w l (.own ts rows) c ∧ RepF hz' (.lst ts rows) c ∧ (∀ b p, O b = some p → p ≠ locPath l → O' b = some p) ∧ (∀ b p, O' b = some p → O b = some p) := by
 obtain ⟨c, hl, hown⟩ := I.own_at h
 have hpass : ∀ t, ∀ m ∈ mentsV (getS (chLoc env l (.f (.lst ts rows))) t), Pass env tm w (chLoc env l (.f (.lst ts rows))) tm w m := by
  intro t m _
  by_cases hm : l = m
  ·subst hm; exact Pass.self h rfl (fun _ => rfl)
  ·refine Pass.chLoc hm (fun row h1 h2 h3 h4 => ?_) ⟨ts, rows, h⟩
   exact hm (by cases l; cases m; simp_all)
 obtain ⟨hty, a, cap, rfl, hcap, hd⟩ := hown.lst hn
 rcases hd with h0 | ⟨blk, off, arr, t, fr, rfl, hO, hw, hfr, hsz, hc⟩
 ·have hr0 : rows = [] := List.eq_nil_of_length_eq_zero (by omega)
  subst hr0
  refine ⟨hz, hb, O, _, FzExt.refl _ _ _, ⟨I.sub, I.agree, I.owned, I.fresh, I.glob, ?_⟩, hl, .nil _ _ _, fun _ _ h _ => h, fun _ _ h => h⟩
  exact rep_chLoc I.rep (fun t _ => Keeps.refl _ _ _ _ _) (fun _ _ _ _ => Keeps.refl _ _ _ _ _) (fun _ _ _ h => h) hpass (by simp) hl (.nil _ _ _) (fun _ => .inl (.nil _ _ _))
 ·obtain ⟨hA, hbn, hlt⟩ := I.owned _ _ hO
  have hzn : hz blk = none := by
   cases hx : hz blk with
   | none => rfl
   | some o => rw [I.sub _ _ hx] at hbn; cases hbn
  let hz' : GH := fun b => if b = blk then some (.cells arr t fr) else hz b
  let hb' : GH := fun b => if b = blk then some (.cells arr t fr) else hb b
  let O' : OM := fun b => if b = blk then none else O b
  have lez : hz.le hz' := fun b o e => by
   by_cases hb : b = blk
   ·subst hb; rw [hzn] at e; cases e
   ·simp only [hz', hb, if_false]; exact e
  have leb : hb.le hb' := fun b o e => by
   by_cases hb : b = blk
   ·subst hb; rw [hbn] at e; cases e
   ·simp only [hb', hb, if_false]; exact e
  have kp : ∀ p, (∀ r, locPath l ≠ p ++ r) → Keeps hz hb O w hz' hb' O' w p := fun p hp => ⟨lez, leb, fun b q e => by
   have : b ≠ blk := by rintro rfl; rw [hO] at e; exact hp q (Option.some.inj e)
   exact ⟨by simp only [O', this, if_false]; exact e, rfl⟩⟩
  have hrep : RepF hz' (.lst ts rows) (.slice (some ⟨blk, off, none⟩) rows.length cap) := by
   refine .lst (arr := arr) (t := t) (fr := fr) (by simp [hz']) hcap ?_ hty fun i j row x h1 h2 => (hc i j row x h1 h2).mono lez
   exact Nat.le_trans (Nat.add_le_add_left (Nat.mul_le_mul_right _ hcap) _) hsz
  refine ⟨hz', hb', O', _, ⟨lez, leb, fun b o e => ?_, fun b o e => (by
   by_cases hb : b = blk
   ·subst hb; exact .inr hA
   ·simp only [hz', hb, if_false] at e; exact .inl e)⟩, ⟨?_, ?_, ?_, I.fresh, I.glob.mono lez, ?_⟩, hl, hrep, fun b p e hp => ?_, fun b p e => ?_⟩
  ·by_cases hb : b = blk
   ·subst hb; right; simp only [hb', if_true] at e; exact ⟨hA, by simp only [hz', if_true]; exact e⟩
   ·simp only [hb', hb, if_false] at e; exact .inl e
  ·intro b o e
   by_cases hb : b = blk
   ·simp only [hz', hb, if_true] at e; simp only [hb', hb, if_true]; exact e
   ·simp only [hz', hb, if_false] at e; simp only [hb', hb, if_false]; exact I.sub _ _ e
  ·intro b o e
   by_cases hb : b = blk
   ·simp only [hb', hb, if_true] at e; rw [hb, hw]; exact e
   ·simp only [hb', hb, if_false] at e; exact I.agree _ _ e
  ·intro b p e
   by_cases hb : b = blk
   ·simp only [O', hb, if_true] at e; cases e
   ·simp only [O', hb, if_false] at e
    simp only [hb', hb, if_false]
    exact I.owned _ _ e
  ·exact rep_chLoc I.rep (fun t ht => kp _ fun r e => ht (locPath_inj_slot e).symm) (fun j i hj hi => kp _ fun r e => hi (by have := locPath_leaf e; rw [hj] at this; exact (Option.some.inj this).symm))
    (fun j b hj e => by
     have : b ≠ blk := by rintro rfl; rw [hO] at e; have := locPath_one (Option.some.inj e); rw [hj] at this; cases this
     simp only [O', this, if_false]; exact e) hpass (by simp) hl hrep (fun _ => .inl hrep)
  ·have : b ≠ blk := by rintro rfl; rw [hO] at e; exact hp (Option.some.inj e).symm
   simp only [O', this, if_false]; exact e
  ·by_cases hb : b = blk
   ·simp only [O', hb, if_true] at e; cases e
   ·simp only [O', hb, if_false] at e; exact e
end Go.Abs
end
section
set_option linter.unusedVariables false
set_option linter.unusedSimpArgs false
set_option linter.unusedSectionVars false
namespace Go.Abs
open Go
variable [Globs]

def ren (p q : List Nat) (O : OM) : OM := fun b => match O b with
 | some x => if x.take p.length = p then some (q ++ x.drop p.length) else some x
 | none => none
theorem ren_ne {p q : List Nat} {O : OM} {b : Nat} {r : List Nat} (h : O b = some r) (hr : ∀ s, r ≠ p ++ s) : ren p q O b = some r := by
 unfold ren
 rw [h]
 simp only
 rw [if_neg]
 intro e
 refine hr (r.drop p.length) ?_
 have := List.take_append_drop p.length r
 rw [e] at this
 exact this.symm
theorem ren_eq {p q s : List Nat} {O : OM} {b : Nat} (h : O b = some (p ++ s)) : ren p q O b = some (q ++ s) := by
 unfold ren
 rw [h]
 simp
theorem ren_owned {A : Nat → Prop} {hb : GH} {O : OM} {w : World} (p q : List Nat) (h : ∀ b p, O b = some p → A b ∧ hb b = none ∧ b < w.heap.size) :
  ∀ b r, ren p q O b = some r → A b ∧ hb b = none ∧ b < w.heap.size := by
 intro b r e
 unfold ren at e
 cases h0 : O b with
 | none => rw [h0] at e; cases e
 | some x => exact h _ _ h0
theorem Keeps.ren {hz hb : GH} {O : OM} {w : World} {p : List Nat} (p0 q0 : List Nat) (h : ∀ r s, p0 ++ s ≠ p ++ r) : Keeps hz hb O w hz hb (ren p0 q0 O) w p :=
 ⟨GH.le_refl _, GH.le_refl _, fun b r e => ⟨ren_ne e (fun s e => h r s e.symm), rfl⟩⟩
theorem Own.ren {hz : GH} {O : OM} {w : World} {p q : List Nat} {ts : List LT} {rows : Rows} {c : Value} (h : Own hz O w p ts rows c) : Own hz (ren p q O) w q ts rows c := h.re fun _ _ => ren_eq
theorem locPath_head (l : Loc) : ∃ r, locPath l = l.slot :: r := by
 unfold locPath
 cases l.leaf with
 | none => exact ⟨_, rfl⟩
 | some j => exact ⟨_, rfl⟩
theorem locPath_slotA {l : Loc} {t : Nat} {r s : List Nat} (h : locPath l ++ s = [t] ++ r) : l.slot = t := by
 obtain ⟨r', h'⟩ := locPath_head l
 rw [h'] at h
 simp at h
 exact h.1
theorem locPath_leafA {l : Loc} {i j : Nat} {r s : List Nat} (hj : l.leaf = some j) (h : locPath l ++ s = [l.slot, i] ++ r) : i = j := by
 unfold locPath at h
 rw [hj] at h
 simp at h
 exact h.1.symm

/-- - -/
def Sh (env env' : Env) (tm : Nat → Value) (w : World) : Prop :=
 ∀ l v c, LocIs env tm w l v c → getLoc env' l = .undef ∨ ∃ v', LocIs env' tm w l v' c ∧ ∀ x, rowsOf v = some x → rowsOf v' = some x
theorem Sh.refl (env : Env) (tm : Nat → Value) (w : World) : Sh env env tm w := fun _ v _ h => .inr ⟨v, h, fun _ h => h⟩
theorem LocIs.undef_stays {env : Env} {tm : Nat → Value} {w : World} {l : Loc} {c : Value} (h : getLoc env l = .undef) : True := trivial

/-- - -/
def WeakAt (env : Env) (tm : Nat → Value) (w : World) (l : Loc) (ts : List LT) (rows : Rows) (c : Value) : Prop := getLoc env l = .undef ∨ LstAt env tm w l ts rows c
def RepW (env : Env) (tm : Nat → Value) (w : World) : V → Value → Prop
 | .lent l _ _, c => ∃ ts rows, WeakAt env tm w l ts rows c
 | .mref l, c => ∃ ts rows, WeakAt env tm w l ts rows c
 | .xl l _ _, c => ∃ ts rows, WeakAt env tm w l ts rows c
 | .lsub l _ off len, c => ∃ ts rows c', WeakAt env tm w l ts rows c' ∧ off + len ≤ rows.length ∧ SubOf ts.length off len c' c ∧ isMp ts = false
 | .ref _ _, _ => True
 | .eref _ _ _, _ => True
 | .iref _ _ _ _, _ => True
 | .cref _, _ => True
 | _, _ => False
theorem RepE.weak {hz hb : GH} {env : Env} {tm : Nat → Value} {w : World} {v : V} {c : Value} (h : RepE hz hb env tm w v c) (hv : (∃ l k n, v = .lent l k n) ∨ (∃ l k a b, v = .lsub l k a b)) : RepW env tm w v c := by
 rcases hv with ⟨l, k, n, rfl⟩ | ⟨l, k, a, b, rfl⟩
 ·obtain ⟨ts, rows, h1, _⟩ := h
  exact ⟨ts, rows, .inr h1⟩
 ·obtain ⟨ts, rows, c', h1, h2, h3, _, h4⟩ := h
  exact ⟨ts, rows, c', .inr h1, h2, h3, h4⟩
theorem RepE.weakM {hz hb : GH} {env : Env} {tm : Nat → Value} {w : World} {l : Loc} {c : Value} (h : RepE hz hb env tm w (.mref l) c) : RepW env tm w (.mref l) c := by
 obtain ⟨ts, rows, h1, _⟩ := h
 exact ⟨ts, rows, .inr h1⟩
theorem RepE.weakX {hz hb : GH} {env : Env} {tm : Nat → Value} {w : World} {l : Loc} {k n : Nat} {c : Value} (h : RepE hz hb env tm w (.xl l k n) c) : RepW env tm w (.xl l k n) c := by
 obtain ⟨ts, rows, h1, _⟩ := h
 exact ⟨ts, rows, .inr h1⟩
/-- - -/
structure Gh (env env' : Env) (tm : Nat → Value) (w : World) : Prop where
 sh : Sh env env' tm w
 gone : ∀ l, getLoc env l = .undef → getLoc env' l = .undef
 len : env'.length = env.length
theorem Gh.refl (env : Env) (tm : Nat → Value) (w : World) : Gh env env tm w := ⟨Sh.refl _ _ _, fun _ h => h, rfl⟩
theorem Gh.trans {a b c : Env} {tm : Nat → Value} {w : World} (h : Gh a b tm w) (k : Gh b c tm w) : Gh a c tm w :=
 ⟨fun l v x hl => by
  rcases h.sh l v x hl with h1 | ⟨v', h1, h2⟩
  ·exact .inl (k.gone l h1)
  ·rcases k.sh l v' x h1 with h3 | ⟨v'', h3, h4⟩
   ·exact .inl h3
   ·exact .inr ⟨v'', h3, fun y hy => h4 y (h2 y hy)⟩, fun l hl => k.gone l (h.gone l hl), k.len.trans h.len⟩
theorem WeakAt.gh {env env' : Env} {tm : Nat → Value} {w : World} (g : Gh env env' tm w) {l : Loc} {ts : List LT} {rows : Rows} {c : Value} (h : WeakAt env tm w l ts rows c) : WeakAt env' tm w l ts rows c := by
 rcases h with h | ⟨v, h1, h2⟩
 ·exact .inl (g.gone l h)
 ·rcases g.sh l v c h1 with h3 | ⟨v', h3, h4⟩
  ·exact .inl h3
  ·exact .inr ⟨v', h3, h4 _ h2⟩
theorem RepW.gh {env env' : Env} {tm : Nat → Value} {w : World} (g : Gh env env' tm w) {v : V} {c : Value} (h : RepW env tm w v c) : RepW env' tm w v c := by
 cases v <;> simp only [RepW] at h ⊢
 ·obtain ⟨ts, rows, h⟩ := h; exact ⟨ts, rows, h.gh g⟩
 ·obtain ⟨ts, rows, c', h, h2⟩ := h; exact ⟨ts, rows, c', h.gh g, h2⟩
 ·obtain ⟨ts, rows, h⟩ := h; exact ⟨ts, rows, h.gh g⟩
 ·obtain ⟨ts, rows, h⟩ := h; exact ⟨ts, rows, h.gh g⟩

theorem killV_undef {q : KQ} {v : V} : v = .undef → killV q v = .undef := by rintro rfl; rfl
theorem partOf_kill (q : KQ) (v : V) (j : Nat) : partOf (killV q v) j = partOf v j := by
 cases v <;> first
  | rfl
  | (simp only [killV, killV1]; cases q.hits _ <;> rfl)
theorem getLoc_kill_leaf (q : KQ) (env : Env) (l : Loc) (j : Nat) (h : l.leaf = some j) : getLoc (env.map (killV q)) l = getLoc env l := by
 unfold getLoc; rw [h]; simp only; rw [getS_kill, partOf_kill]
theorem Gh.kill (q : KQ) (env : Env) (tm : Nat → Value) (w : World) : Gh env (env.map (killV q)) tm w := by
 refine ⟨fun l v c h => ?_, fun l h => ?_, by simp⟩
 ·unfold LocIs at h ⊢
  cases hl : l.leaf with
  | none =>
   rw [hl] at h
   simp only at h ⊢
   refine .inr ⟨_, ⟨rfl, h.2⟩, fun x hx => ?_⟩
   rw [getS_kill, h.1]
   cases v <;> first
    | exact hx
    | (simp [rowsOf, fail] at hx)
  | some j =>
   rw [hl] at h
   simp only at h ⊢
   rw [getS_kill]
   refine .inr ⟨v, ?_, fun x hx => hx⟩
   cases hg : getS env l.slot with
   | obj row => rw [hg] at h; exact h
   | tup row => rw [hg] at h; exact h
   | _ => rw [hg] at h; exact h.2.elim
 ·unfold getLoc at h ⊢
  cases hl : l.leaf with
  | none => rw [hl] at h; simp only at h ⊢; rw [getS_kill]; exact killV_undef h
  | some j => rw [hl] at h; simp only at h ⊢; rw [getS_kill, partOf_kill]; exact h
theorem getLoc_chLoc_self {env : Env} {l : Loc} {x : V} (h : getLoc env l ≠ .undef) : getLoc (chLoc env l x) l = x := by
 unfold getLoc at h ⊢
 unfold chLoc
 cases hl : l.leaf with
 | none =>
  rw [hl] at h
  simp only at h ⊢
  rw [getS_set]; simp [getS_lt rfl h]
 | some j =>
  rw [hl] at h
  simp only at h ⊢
  have hlt : l.slot < env.length := by
   rcases Nat.lt_or_ge l.slot env.length with h1 | h1
   ·exact h1
   ·rw [getS_ge h1] at h; exact (h rfl).elim
  rw [getS_set]
  simp only [hlt, and_self, if_true]
  cases hg : getS env l.slot with
  | obj row =>
   rw [hg] at h
   obtain ⟨_, hj⟩ := getD_ne (rfl : row.getD j .undef = _) h
   simp [putLeaf, partOf, List.getD_eq_getElem?_getD, List.getElem?_set, hj]
  | tup row =>
   rw [hg] at h
   obtain ⟨_, hj⟩ := getD_ne (rfl : row.getD j .undef = _) h
   simp [putLeaf, partOf, List.getD_eq_getElem?_getD, List.getElem?_set, hj]
  | _ => rw [hg] at h; exact (h rfl).elim
/-- - -/
theorem Gh.chLoc {env : Env} {tm : Nat → Value} {w : World} {l : Loc} {ts : List LT} {rows : Rows} {x : V} (h : getLoc env l = .own ts rows) (hx : x = .undef ∨ rowsOf x = some (ts, rows)) :
  Gh env (chLoc env l x) tm w := by
 have hnu : getLoc env l ≠ .undef := by rw [h]; simp
 have hself : getLoc (Abs.chLoc env l x) l = x := getLoc_chLoc_self hnu
 refine ⟨fun m v c hm => ?_, fun m hm => ?_, length_chLoc _ _ _⟩
 ·by_cases hlm : l = m
  ·subst hlm
   rcases hx with rfl | hx
   ·exact .inl hself
   ·right
    have hv : v = .own ts rows := hm.part.symm.trans h
    subst hv
    exact ⟨x, hm.self (by simp) x, fun y hy => by rw [hx]; exact hy⟩
  ·by_cases hs : l.slot = m.slot
   ·cases hl : l.leaf with
    | none =>
     have ho : getS env m.slot = .own ts rows := by unfold getLoc at h; rw [hl, hs] at h; exact h
     cases hmf : m.leaf with
     | none => exact (hlm (by cases l; cases m; simp_all)).elim
     | some j => unfold LocIs at hm; rw [hmf, ho] at hm; exact hm.2.elim
    | some i =>
     cases hmf : m.leaf with
     | none =>
      right
      unfold LocIs at hm ⊢
      rw [hmf] at hm ⊢
      simp only at hm ⊢
      refine ⟨_, ⟨rfl, hm.2⟩, fun y hy => ?_⟩
      unfold getLoc at h
      rw [hl, hs] at h
      simp only at h
      rw [hm.1] at h
      cases v <;> simp [rowsOf, fail] at hy <;> simp [partOf] at h
     | some j => exact .inr ⟨v, hm.other fun _ => ⟨by simp [hl], by simp [hmf], fun e => hlm (by cases l; cases m; simp_all)⟩, fun y hy => hy⟩
   ·exact .inr ⟨v, hm.other fun e => (hs e).elim, fun y hy => hy⟩
 ·by_cases hlm : l = m
  ·subst hlm; rw [h] at hm; cases hm
  ·unfold getLoc at hm ⊢
   by_cases hs : l.slot = m.slot
   ·unfold Abs.chLoc
    unfold getLoc at h
    cases hl : l.leaf with
    | none =>
     rw [hl] at h
     simp only at h ⊢
     cases hmf : m.leaf with
     | none => exact (hlm (by cases l; cases m; simp_all)).elim
     | some j =>
      simp only
      rw [getS_set, ← hs]
      split
      ·rcases hx with rfl | hx
       ·rfl
       ·cases x <;> first | rfl | (simp [rowsOf, fail] at hx)
      ·rw [h]; rfl
    | some i =>
     rw [hl] at h
     simp only at h ⊢
     rw [← hs] at hm ⊢
     cases hmf : m.leaf with
     | none => rw [hmf] at hm; simp only at hm; rw [hm] at h; cases h
     | some j =>
      rw [hmf] at hm
      simp only at hm ⊢
      have hij : i ≠ j := fun e => hlm (by cases l; cases m; simp_all)
      rw [getS_set]
      split
      ·rw [partOf_putLeaf hij]; exact hm
      ·exact hm
   ·rw [getS_chLoc_ne hs]; exact hm
theorem Inv.gone {A : Nat → Prop} {hz hb : GH} {O : OM} {env : Env} {tm : Nat → Value} {w : World} (I : Inv A hz hb O env tm w) {l : Loc} {ts : List LT} {rows : Rows}
  (h : getLoc env l = .own ts rows) (hm : ∀ t, ∀ m ∈ mentsV (getS env t), m ≠ l) (q : List Nat) : ∃ c, LocIs env tm w l (.own ts rows) c ∧
   Inv A hz hb (ren (locPath l) q O) (chLoc env l .undef) tm w ∧ Own hz (ren (locPath l) q O) w q ts rows c := by
 obtain ⟨c, hl, hown⟩ := I.own_at h
 refine ⟨c, hl, ⟨I.sub, I.agree, ren_owned _ _ I.owned, I.fresh, I.glob, ?_⟩, hown.ren⟩
 have hpass : ∀ t, ∀ m ∈ mentsV (getS (chLoc env l .undef) t), Pass env tm w (chLoc env l .undef) tm w m := by
  intro t m hmt
  have hml : l ≠ m := by
   by_cases ht : l.slot = t
   ·exfalso
    subst ht
    unfold getLoc at h
    unfold chLoc at hmt
    cases hlf : l.leaf with
    | none =>
     rw [hlf] at h hmt
     simp only at h hmt
     rw [getS_set] at hmt
     simp [getS_lt h (by simp), mentsV, mentsV1] at hmt
    | some j =>
     rw [hlf] at h hmt
     simp only at h hmt
     rw [getS_set] at hmt
     split at hmt
     ·cases hg : getS env l.slot <;> rw [hg] at h hmt <;> simp [partOf] at h <;> simp [putLeaf, mentsV, mentsV1] at hmt
     ·cases hg : getS env l.slot <;> rw [hg] at h hmt <;> simp [partOf] at h <;> simp [mentsV, mentsV1] at hmt
   ·rw [getS_chLoc_ne ht] at hmt
    exact (hm t m hmt).symm
  refine Pass.chLoc hml (fun row h1 h2 h3 h4 => ?_) ⟨ts, rows, h⟩
  exact hml (by cases l; cases m; simp_all)
 exact rep_chLoc I.rep (fun t ht => Keeps.ren _ _ fun r s e => ht (locPath_slotA e).symm) (fun j i hj hi => Keeps.ren _ _ fun r s e => hi (locPath_leafA hj e))
  (fun j b hj e => ren_ne e (by intro s e2; unfold locPath at e2; rw [hj] at e2; simp at e2)) hpass (by simp) hl trivial (fun _ => .inl trivial)
/-- - -/
theorem Inv.ren {A : Nat → Prop} {hz hb : GH} {O : OM} {env : Env} {tm : Nat → Value} {w : World} (I : Inv A hz hb O env tm w) {t : Nat} (h : getS env t = .undef) (r q : List Nat) :
  Inv A hz hb (Abs.ren (t :: r) q O) env tm w :=
 ⟨I.sub, I.agree, ren_owned _ _ I.owned, I.fresh, I.glob, fun u => by
  by_cases hu : u = t
  ·subst hu; rw [h]; exact .inl trivial
  ·exact (I.rep u).keep (Keeps.ren _ _ fun s s' e => hu (by simp at e; exact e.1.symm)) fun l _ => ⟨fun ts rows c h => ⟨ts, rows, h, Like.refl _, fun _ => rfl⟩, fun _ row h => ⟨row, h, rfl, rfl⟩, fun _ f caps h => ⟨f, caps, h, rfl⟩⟩⟩
end Go.Abs
end
section
set_option linter.unusedVariables false
set_option linter.unusedSimpArgs false
set_option linter.unusedSectionVars false
namespace Go.Abs
open Go
variable [Globs]
section
variable {A : Nat → Prop} {hz hb : GH} {O : OM} {env : Env} {tm : Nat → Value} {w : World}

theorem Inv.leaf_at (I : Inv A hz hb O env tm w) {l : Loc} {v : V} {c : Value} (h : LocIs env tm w l v c) (hv : v ≠ .undef) :
  (l.leaf = none ∧ RepS hz hb O env tm w [l.slot] v c) ∨ (l.leaf ≠ none ∧ RepC hz hb O w (locPath l) v c) := by
 have hr := I.rep l.slot
 unfold LocIs at h
 unfold locPath
 cases hl : l.leaf with
 | none =>
  rw [hl] at h
  simp only at h
  left
  rw [h.1, h.2] at hr
  exact ⟨rfl, hr⟩
 | some j =>
  right
  refine ⟨by simp, ?_⟩
  rw [hl] at h
  simp only at h ⊢
  cases hg : getS env l.slot with
  | obj row =>
   rw [hg] at h hr
   obtain ⟨blk, cells, t, fr, h1, h2, h3, h4, h5, h6⟩ := hr
   obtain ⟨hp, blk', cells', t', fr', h1', h3', rfl⟩ := h
   rw [h1] at h1'
   simp only [Value.pointer.injEq, Option.some.injEq, Addr.mk.injEq] at h1'
   obtain ⟨rfl, _⟩ := h1'
   rw [h3] at h3'
   simp only [Option.some.injEq, Obj.cells.injEq] at h3'
   obtain ⟨rfl, rfl, rfl⟩ := h3'
   have := h6 j v (getD_ne hp hv).1
   cases v <;> first | exact this | exact this.elim
  | tup row =>
   rw [hg] at h hr
   obtain ⟨cs, h1, h5, h6⟩ := hr
   obtain ⟨hp, cs', h1', rfl⟩ := h
   rw [h1] at h1'
   simp only [Value.tuple.injEq] at h1'
   subst h1'
   exact h6 j v (getD_ne hp hv).1
  | _ => rw [hg] at h; exact h.2.elim
theorem Inv.f_at (I : Inv A hz hb O env tm w) {l : Loc} {x : F} {c : Value} (h : LocIs env tm w l (.f x) c) : RepF hz x c := by
 rcases I.leaf_at h (by simp) with ⟨_, h⟩ | ⟨_, h⟩
 ·rcases h with h | h
  ·exact h
  ·exact h.elim
 ·exact h
theorem Inv.loc_some (I : Inv A hz hb O env tm w) {l : Loc} {v : V} (h : getLoc env l = v) (hv : v ≠ .undef) : ∃ c, LocIs env tm w l v c := by
 unfold getLoc at h
 unfold LocIs
 have hr := I.rep l.slot
 cases hl : l.leaf with
 | none => rw [hl] at h; exact ⟨_, h, rfl⟩
 | some j =>
  rw [hl] at h
  simp only at h ⊢
  cases hg : getS env l.slot with
  | obj row =>
   rw [hg] at h hr
   obtain ⟨blk, cells, t, fr, h1, h2, h3, h4, h5, h6⟩ := hr
   exact ⟨_, h, blk, cells, t, fr, h1, h3, rfl⟩
  | tup row =>
   rw [hg] at h hr
   obtain ⟨cs, h1, h5, h6⟩ := hr
   exact ⟨_, h, cs, h1, rfl⟩
  | _ => rw [hg] at h; exact (hv h.symm).elim
theorem Keeps.trans {hz hb : GH} {O : OM} {w : World} {hz1 hb1 : GH} {O1 : OM} {w1 : World} {hz2 hb2 : GH} {O2 : OM} {w2 : World} {p : List Nat}
  (h : Keeps hz hb O w hz1 hb1 O1 w1 p) (k : Keeps hz1 hb1 O1 w1 hz2 hb2 O2 w2 p) : Keeps hz hb O w hz2 hb2 O2 w2 p :=
 ⟨GH.le_trans h.z k.z, GH.le_trans h.b k.b, fun b q e => let ⟨h1, h2⟩ := h.own b q e; let ⟨h3, h4⟩ := k.own b q h1; ⟨h3, h4.trans h2⟩⟩
/-- - -/
def Bare (env : Env) (hz hb : GH) (O : OM) (w : World) (hz' hb' : GH) (O' : OM) : Prop := ∀ t r, getS env t = .undef → Keeps hz hb O w hz' hb' O' w (t :: r)
theorem Bare.refl (env : Env) (hz hb : GH) (O : OM) (w : World) : Bare env hz hb O w hz hb O := fun _ _ _ => Keeps.refl _ _ _ _ _
theorem Gh.slot {env' : Env} (g : Gh env env' tm w) {t : Nat} (h : getS env t = .undef) : getS env' t = .undef := by
 have := g.gone ⟨t, none⟩ h
 exact this
theorem Bare.trans {env' : Env} {hz1 hb1 : GH} {O1 : OM} {hz2 hb2 : GH} {O2 : OM} (g : Gh env env' tm w) (h : Bare env hz hb O w hz1 hb1 O1) (k : Bare env' hz1 hb1 O1 w hz2 hb2 O2) :
  Bare env hz hb O w hz2 hb2 O2 := fun t r e => (h t r e).trans (k t r (g.slot e))
theorem own_slot {l : Loc} {ts : List LT} {rows : Rows} (h : getLoc env l = .own ts rows) : getS env l.slot ≠ .undef := by
 unfold getLoc at h
 intro e
 cases hl : l.leaf <;> rw [hl] at h <;> simp only at h <;> rw [e] at h <;> cases h

/-- - -/
structure Step (A : Nat → Prop) (hz hb : GH) (O : OM) (env : Env) (tm : Nat → Value) (w : World) (hz' hb' : GH) (O' : OM) (env' : Env) : Prop where
 ext : FzExt A hz hb hz' hb'
 inv : Inv A hz' hb' O' env' tm w
 gh : Gh env env' tm w
 bare : Bare env hz hb O w hz' hb' O'
theorem Step.refl (I : Inv A hz hb O env tm w) : Step A hz hb O env tm w hz hb O env := ⟨FzExt.refl _ _ _, I, Gh.refl _ _ _, Bare.refl _ _ _ _ _⟩
theorem Step.trans {hz1 hb1 : GH} {O1 : OM} {env1 : Env} {hz2 hb2 : GH} {O2 : OM} {env2 : Env}
  (h : Step A hz hb O env tm w hz1 hb1 O1 env1) (k : Step A hz1 hb1 O1 env1 tm w hz2 hb2 O2 env2) : Step A hz hb O env tm w hz2 hb2 O2 env2 :=
 ⟨h.ext.trans k.ext, k.inv, h.gh.trans k.gh, Bare.trans h.gh h.bare k.bare⟩
theorem Step.kill (I : Inv A hz hb O env tm w) (q : KQ) : Step A hz hb O env tm w hz hb O (env.map (killV q)) :=
 ⟨FzExt.refl _ _ _, I.kill q, Gh.kill q _ _ _, Bare.refl _ _ _ _ _⟩

theorem goneLoc_ok (I : Inv A hz hb O env tm w) {l : Loc} {ts : List LT} {rows : Rows} (h : getLoc env l = .own ts rows) {cs : List Bool} {us : List Upd} {u : Unit}
  (hg : goneLoc l env = some (cs, us, u)) (q : List Nat) : cs = [] ∧ ∃ O' c, Step A hz hb O env tm w hz hb O' (applyU us env) ∧ LocIs env tm w l (.own ts rows) c ∧ Own hz O' w q ts rows c := by
 obtain ⟨c1, u1, a, c2, u2, h1, h2, rfl, rfl⟩ := bind_inv hg
 obtain ⟨rfl, rfl⟩ := upd_inv h1
 obtain ⟨rfl, h3⟩ := setLoc_inv h2
 rw [applyU_append, h3]
 simp only [applyU, apply1]
 have hk : getLoc (env.map (killV (.loc l))) l = .own ts rows := by
  unfold getLoc at h ⊢
  cases hl : l.leaf with
  | none => rw [hl] at h; simp only at h ⊢; rw [getS_kill, h]; rfl
  | some j => rw [hl] at h; simp only at h ⊢; rw [getS_kill, partOf_kill]; exact h
 have S1 := Step.kill I (.loc l)
 obtain ⟨c, hl, I2, ho⟩ := S1.inv.gone hk (fun t m hm => by
  rw [getS_kill] at hm
  have := (mentsV_kill hm).2
  simp only [KQ.hits, beq_eq_false_iff_ne] at this
  exact this) q
 obtain ⟨c0, hc0⟩ := I.loc_some h (by simp)
 have hcc : c0 = c := by
  rcases S1.gh.sh l _ _ hc0 with h4 | ⟨v', h4, _⟩
  ·rw [hk] at h4; cases h4
  ·exact (h4.det hl).2
 subst hcc
 refine ⟨rfl, _, c0, S1.trans ⟨FzExt.refl _ _ _, I2, Gh.chLoc hk (.inl rfl), fun t r e => ?_⟩, hc0, ho⟩
 refine Keeps.ren _ _ fun s s' e2 => ?_
 have : l.slot = t := locPath_slotA (r := r ++ s) (s := s') (by simpa using e2)
 exact own_slot hk (this ▸ e)
theorem freeze_ok (I : Inv A hz hb O env tm w) {l : Loc} {ts : List LT} {rows : Rows} (h : getLoc env l = .own ts rows) (hn : isMp ts = false) {cs : List Bool} {us : List Upd} {u : Unit}
  (hg : setLoc l (.f (.lst ts rows)) env = some (cs, us, u)) : cs = [] ∧ ∃ hz' hb' O' c, Step A hz hb O env tm w hz' hb' O' (applyU us env) ∧ LocIs env tm w l (.own ts rows) c ∧ RepF hz' (.lst ts rows) c := by
 obtain ⟨rfl, h2⟩ := setLoc_inv hg
 rw [h2]
 obtain ⟨hz', hb', O', c, e, I2, hl, hr, ho, _⟩ := I.freeze h hn
 refine ⟨rfl, hz', hb', O', c, ⟨e, I2, Gh.chLoc h (.inr rfl), fun t r et => ⟨e.1, e.2.1, fun b q hq => ⟨ho b _ hq fun e2 => ?_, rfl⟩⟩⟩, hl, hr⟩
 have : l.slot = t := locPath_inj_slot (r := r ++ q) (by simpa using e2.symm)
 exact own_slot h (this ▸ et)
theorem WeakAt.here {l : Loc} {ts : List LT} {rows : Rows} {c c' : Value} {v : V} (h : WeakAt env tm w l ts rows c) (hv : LocIs env tm w l v c') (hn : v ≠ .undef) : c = c' ∧ rowsOf v = some (ts, rows) := by
 rcases h with h | ⟨v', h1, h2⟩
 ·exact (hn (hv.part.symm.trans h)).elim
 ·obtain ⟨rfl, rfl⟩ := h1.det hv
  exact ⟨rfl, h2⟩
theorem takeLoc_ok (I : Inv A hz hb O env tm w) {mv : Bool} {l : Loc} {cs : List Bool} {us : List Upd} {v : V} (h : takeLoc mv l env = some (cs, us, v)) (q : List Nat)
  {ts : List LT} {rows : Rows} {c : Value} (hw : WeakAt env tm w l ts rows c) :
  cs = [] ∧ ∃ hz' hb' O', Step A hz hb O env tm w hz' hb' O' (applyU us env) ∧ RepL hz' hb' O' w q v c := by
 obtain ⟨c1, u1, x, c2, u2, h1, h2, rfl, rfl⟩ := bind_inv h
 obtain ⟨rfl, rfl, hx, hxu⟩ := locM_inv h1
 simp only [applyU, List.nil_append] at h2 ⊢
 obtain ⟨c0, hc0⟩ := I.loc_some hx hxu
 obtain ⟨rfl, hrows⟩ := hw.here hc0 hxu
 cases x with
 | own ts' rows' =>
  simp only at h2
  have gone : ∀ {cs : List Bool} {us : List Upd} {v : V}, (do goneLoc l; pure (V.own ts' rows') : M V) env = some (cs, us, v) →
    cs = [] ∧ ∃ hz' hb' O', Step A hz hb O env tm w hz' hb' O' (applyU us env) ∧ RepL hz' hb' O' w q v c := by
   intro cs us v h3
   obtain ⟨c3, u3, a3, c4, u4, h5, h4, rfl, rfl⟩ := bind_inv h3
   obtain ⟨rfl, rfl, rfl⟩ := pure_inv h4
   obtain ⟨rfl, O', c', S, hl, ho⟩ := goneLoc_ok I hx h5 q
   obtain ⟨_, rfl⟩ := hc0.det hl
   rw [List.append_nil u3]
   exact ⟨rfl, hz, hb, O', S, ho⟩
  have frz : isMp ts' = false → ∀ {cs : List Bool} {us : List Upd} {v : V}, (do setLoc l (.f (.lst ts' rows')); pure (V.f (.lst ts' rows')) : M V) env = some (cs, us, v) →
    cs = [] ∧ ∃ hz' hb' O', Step A hz hb O env tm w hz' hb' O' (applyU us env) ∧ RepL hz' hb' O' w q v c := by
   intro hn cs us v h3
   obtain ⟨c3, u3, a3, c4, u4, h5, h4, rfl, rfl⟩ := bind_inv h3
   obtain ⟨rfl, rfl, rfl⟩ := pure_inv h4
   obtain ⟨rfl, hz', hb', O', c', S, hl, hr⟩ := freeze_ok I hx hn h5
   obtain ⟨_, rfl⟩ := hc0.det hl
   rw [List.append_nil u3]
   exact ⟨rfl, hz', hb', O', S, hr⟩
  obtain ⟨c3, u3, s, c4, u4, h3, h4, rfl, rfl⟩ := bind_inv h2
  obtain ⟨rfl, rfl, _, _⟩ := slotM_inv h3
  simp only [applyU, List.nil_append] at h4 ⊢
  split at h4
  ·exact gone h4
  ·split at h4
   ·exact (bad_inv (α := V) (env := env) h4).elim
   ·rename_i hn
    exact frz (by simpa using hn) h4
 | f x =>
  obtain ⟨rfl, rfl, rfl⟩ := pure_inv h2
  exact ⟨rfl, hz, hb, O, Step.refl I, I.f_at hc0⟩
 | _ => exact (bad_inv (α := V) (env := env) h2).elim
end
end Go.Abs
end
section
set_option linter.unusedVariables false
set_option linter.unusedSimpArgs false
set_option linter.unusedSectionVars false
namespace Go.Abs
open Go
variable [Globs]
section
variable {A : Nat → Prop} {hz hb : GH} {O : OM} {env : Env} {tm : Nat → Value} {w : World}

theorem addr_shift (blk off d : Nat) : (⟨blk, off, none⟩ : Addr).add d = ⟨blk, off + d, none⟩ := by
 unfold Addr.add; split <;> simp_all
theorem part_len {rows : Rows} {off len : Nat} (h : off + len ≤ rows.length) : ((rows.drop off).take len).length = len := by simp; omega
theorem part_get {rows : Rows} {off len i : Nat} {row : List F} (h : ((rows.drop off).take len)[i]? = some row) : rows[off + i]? = some row ∧ i < len := by
 rw [List.getElem?_take] at h
 split at h
 ·rw [List.getElem?_drop] at h; exact ⟨h, by assumption⟩
 ·cases h
theorem part_mem {rows : Rows} {off len : Nat} {row : List F} (h : row ∈ (rows.drop off).take len) : row ∈ rows := List.mem_of_mem_drop (List.mem_of_mem_take h)
theorem RepF.part {h : GH} {ts : List LT} {rows : Rows} {c c' : Value} {off len : Nat} (hr : RepF h (.lst ts rows) c') (hl : off + len ≤ rows.length) (hs : SubOf ts.length off len c' c) :
  RepF h (.lst ts ((rows.drop off).take len)) c := by
 obtain ⟨a, n, cap, b, rfl, h1, rfl, h2⟩ := hs
 rcases Nat.eq_zero_or_pos len with rfl | hp
 ·have : (rows.drop off).take 0 = [] := by simp
  rw [this]
  exact .nil _ _ _
 ·generalize hx : Value.slice a n cap = c' at hr
  cases hr with
  | nil => simp at hl; omega
  | lst hb hcap hsz hty hc =>
   rename_i blk o cap' arr t fr
   simp only [Value.slice.injEq] at hx
   obtain ⟨rfl, rfl, rfl⟩ := hx
   rcases h2 with ⟨_, h2⟩ | h2
   ·omega
   ·subst h2
    have hb2 : shiftA (some (⟨blk, o, none⟩ : Addr)) (off * ts.length) = some ⟨blk, o + off * ts.length, none⟩ := by simp [shiftA, addr_shift]
    rw [hb2]
    have hlen := part_len hl
    have := RepF.lst (h := h) (ts := ts) (rows := (rows.drop off).take len) (off := o + off * ts.length) (cap := cap - off) hb (by rw [hlen]; omega) (by
     rw [hlen]
     have : (off + len) * ts.length ≤ rows.length * ts.length := Nat.mul_le_mul_right _ hl
     rw [Nat.add_mul] at this
     omega) (fun row hr => hty row (part_mem hr)) (fun i j row x h3 h4 => by
     obtain ⟨h5, _⟩ := part_get h3
     have := hc (off + i) j row x h5 h4
     rw [Nat.add_mul] at this
     rw [show o + off * ts.length + i * ts.length + j = o + (off * ts.length + i * ts.length) + j by omega]
     exact this)
    rw [hlen] at this
    exact this
theorem Own.part {ts : List LT} {rows : Rows} {c c' : Value} {off len : Nat} {p : List Nat} (hr : Own hz O w p ts rows c') (hn : isMp ts = false) (hl : off + len ≤ rows.length) (hs : SubOf ts.length off len c' c) :
  Own hz O w p ts ((rows.drop off).take len) c := by
 obtain ⟨a, n, cap, b, rfl, h1, rfl, h2⟩ := hs
 obtain ⟨hty, a', cap', hc', hcap, hd⟩ := hr.lst hn
 simp only [Value.slice.injEq] at hc'
 obtain ⟨rfl, rfl, rfl⟩ := hc'
 have hlen := part_len hl
 refine .inl ⟨hn, fun row hr => hty row (part_mem hr), b, cap - off, by rw [hlen], by omega, ?_⟩
 rcases h2 with ⟨h2, h3⟩ | h2
 ·left; omega
 ·rcases hd with h0 | ⟨blk, o, arr, t, fr, rfl, hO, hw, hf, hsz, hc⟩
  ·left; omega
  ·subst h2
   right
   have hoc : off ≤ cap := by omega
   refine ⟨blk, o + off * ts.length, arr, t, fr, by simp [shiftA, addr_shift], hO, hw, hf, ?_, fun i j row x h3 h4 => ?_⟩
   ·have : (off + (cap - off)) * ts.length = cap * ts.length := by congr 1; omega
    rw [Nat.add_mul] at this
    omega
   ·obtain ⟨h5, _⟩ := part_get h3
    have := hc (off + i) j row x h5 h4
    rw [Nat.add_mul] at this
    rw [show o + off * ts.length + i * ts.length + j = o + (off * ts.length + i * ts.length) + j by omega]
    exact this
theorem takeSub_ok (I : Inv A hz hb O env tm w) {mv : Bool} {l : Loc} {off len : Nat} {cs : List Bool} {us : List Upd} {v : V} (h : takeSub mv l off len env = some (cs, us, v)) (q : List Nat)
  {ts : List LT} {rows : Rows} {c c' : Value} (hw : WeakAt env tm w l ts rows c') (hle : off + len ≤ rows.length) (hs : SubOf ts.length off len c' c) (hn : isMp ts = false) :
  cs = [] ∧ ∃ hz' hb' O', Step A hz hb O env tm w hz' hb' O' (applyU us env) ∧ RepL hz' hb' O' w q v c := by
 obtain ⟨c1, u1, x, c2, u2, h1, h2, rfl, rfl⟩ := bind_inv h
 obtain ⟨rfl, rfl, hx, hxu⟩ := locM_inv h1
 simp only [applyU, List.nil_append] at h2 ⊢
 obtain ⟨c0, hc0⟩ := I.loc_some hx hxu
 obtain ⟨rfl, hrows⟩ := hw.here hc0 hxu
 cases x with
 | own ts' rows' =>
  simp only [rowsOf, Option.some.injEq, Prod.mk.injEq] at hrows
  obtain ⟨rfl, rfl⟩ := hrows
  simp only at h2
  split at h2
  ·obtain ⟨c3, u3, a3, c4, u4, h5, h4, rfl, rfl⟩ := bind_inv h2
   obtain ⟨rfl, rfl, rfl⟩ := pure_inv h4
   obtain ⟨rfl, O', c'', S, hl, ho⟩ := goneLoc_ok I hx h5 q
   obtain ⟨_, rfl⟩ := hc0.det hl
   rw [List.append_nil u3]
   exact ⟨rfl, hz, hb, O', S, ho.part hn hle hs⟩
  ·obtain ⟨c3, u3, a3, c4, u4, h5, h4, rfl, rfl⟩ := bind_inv h2
   obtain ⟨rfl, rfl, rfl⟩ := pure_inv h4
   obtain ⟨rfl, hz', hb', O', c'', S, hl, hr⟩ := freeze_ok I hx hn h5
   obtain ⟨_, rfl⟩ := hc0.det hl
   rw [List.append_nil u3]
   exact ⟨rfl, hz', hb', O', S, hr.part hle hs⟩
 | f x =>
  cases x with
  | lit v => exact (bad_inv (α := V) (env := env) h2).elim
  | lst ts' rows' =>
   simp only [rowsOf, Option.some.injEq, Prod.mk.injEq] at hrows
   obtain ⟨rfl, rfl⟩ := hrows
   obtain ⟨rfl, rfl, rfl⟩ := pure_inv h2
   exact ⟨rfl, hz, hb, O, Step.refl I, (I.f_at hc0).part hle hs⟩
 | _ => exact (bad_inv (α := V) (env := env) h2).elim
/-- - -/
def InHand (hz hb : GH) (O : OM) (env : Env) (tm : Nat → Value) (w : World) (p : List Nat) (v : V) (c : Value) : Prop :=
 RepL hz hb O w p v c ∨ RepW env tm w v c
theorem InHand.step {hz' hb' : GH} {O' : OM} {env' : Env} (S : Step A hz hb O env tm w hz' hb' O' env') {t : Nat} {r : List Nat} (ht : getS env t = .undef) {v : V} {c : Value}
  (h : InHand hz hb O env tm w (t :: r) v c) : InHand hz' hb' O' env' tm w (t :: r) v c :=
 h.imp (·.keep (S.bare t r ht)) (·.gh S.gh)
theorem RepL.step {hz' hb' : GH} {O' : OM} {env' : Env} (S : Step A hz hb O env tm w hz' hb' O' env') {t : Nat} {r : List Nat} (ht : getS env t = .undef) {v : V} {c : Value}
  (h : RepL hz hb O w (t :: r) v c) : RepL hz' hb' O' w (t :: r) v c := h.keep (S.bare t r ht)
theorem RepL.ren {t : Nat} {r q : List Nat} {v : V} {c : Value} (h : RepL hz hb O w (t :: r) v c) : RepL hz hb (Abs.ren (t :: r) q O) w q v c := by
 cases v <;> simp only [RepL] at h ⊢
 ·exact h
 ·exact h
 ·exact h.ren
theorem Step.ren (I : Inv A hz hb O env tm w) {t : Nat} (ht : getS env t = .undef) (r q : List Nat) (hb2 : ∀ t' r', getS env t' = .undef → (t :: r) ≠ t' :: r' → True) :
  Inv A hz hb (Abs.ren (t :: r) q O) env tm w := I.ren ht r q
theorem takeLeaf_ok (I : Inv A hz hb O env tm w) {mv : Bool} {v v' : V} {cs : List Bool} {us : List Upd} (h : takeLeaf mv v env = some (cs, us, v')) {p : List Nat} {c : Value}
  (hv : InHand hz hb O env tm w p v c) :
  cs = [] ∧ ∃ hz' hb' O', Step A hz hb O env tm w hz' hb' O' (applyU us env) ∧ RepL hz' hb' O' w p v' c := by
 cases v <;> simp only [takeLeaf] at h
 case f x =>
  obtain ⟨rfl, rfl, rfl⟩ := pure_inv h
  rcases hv with hv | hv
  ·exact ⟨rfl, hz, hb, O, Step.refl I, hv⟩
  ·exact hv.elim
 case bor ts rows =>
  obtain ⟨rfl, rfl, rfl⟩ := pure_inv h
  rcases hv with hv | hv
  ·exact ⟨rfl, hz, hb, O, Step.refl I, hv⟩
  ·exact hv.elim
 case own ts rows =>
  obtain ⟨rfl, rfl, rfl⟩ := pure_inv h
  rcases hv with hv | hv
  ·exact ⟨rfl, hz, hb, O, Step.refl I, hv⟩
  ·exact hv.elim
 case lent l k n =>
  rcases hv with hv | ⟨ts, rows, hv⟩
  ·exact hv.elim
  ·exact takeLoc_ok I h p hv
 case mref l =>
  rcases hv with hv | ⟨ts, rows, hv⟩
  ·exact hv.elim
  ·exact takeLoc_ok I h p hv
 case xl l k n =>
  rcases hv with hv | ⟨ts, rows, hv⟩
  ·exact hv.elim
  ·exact takeLoc_ok I h p hv
 case lsub l k off len =>
  rcases hv with hv | ⟨ts, rows, c', h1, h2, h3, h4⟩
  ·exact hv.elim
  ·exact takeSub_ok I h p h1 h2 h3 h4
 all_goals exact (bad_inv h).elim
/-- - -/
theorem takeLeaves_ok {mv : Bool} {t : Nat} {r : List Nat} : ∀ {xs ys : List V} {k : Nat} {hz hb : GH} {O : OM} {env : Env} {cs : List Bool} {us : List Upd} (_ : Inv A hz hb O env tm w)
  (_ : getS env t = .undef) (_ : takeLeaves mv xs env = some (cs, us, ys)) {g : Nat → Value} (_ : ∀ j v, xs[j]? = some v → InHand hz hb O env tm w (t :: (r ++ [k + j])) v (g (k + j))),
  cs = [] ∧ ∃ hz' hb' O', Step A hz hb O env tm w hz' hb' O' (applyU us env) ∧ ys.length = xs.length ∧ ∀ j v, ys[j]? = some v → RepL hz' hb' O' w (t :: (r ++ [k + j])) v (g (k + j))
 | [], ys, k, hz, hb, O, env, cs, us, I, ht, h, g, hx => by
  obtain ⟨rfl, rfl, rfl⟩ := pure_inv h
  exact ⟨rfl, hz, hb, O, Step.refl I, rfl, fun j v e => by simp at e⟩
 | x :: xs, ys, k, hz, hb, O, env, cs, us, I, ht, h, g, hx => by
  obtain ⟨c1, u1, y, c2, u2, h1, h2, rfl, rfl⟩ := bind_inv h
  obtain ⟨c3, u3, zs, c4, u4, h3, h4, rfl, rfl⟩ := bind_inv h2
  obtain ⟨rfl, rfl, rfl⟩ := pure_inv h4
  obtain ⟨rfl, hz1, hb1, O1, S1, hy⟩ := takeLeaf_ok I h1 (hx 0 x rfl)
  have ht1 := S1.gh.slot ht
  obtain ⟨rfl, hz2, hb2, O2, S2, hl, hys⟩ := takeLeaves_ok (k := k + 1) (g := g) S1.inv ht1 h3 (fun j v e => by
   have := (hx (j + 1) v (by simpa using e)).step S1 ht
   rw [show k + 1 + j = k + (j + 1) by omega]
   exact this)
  refine ⟨rfl, hz2, hb2, O2, ?_, by simp [hl], fun j v e => ?_⟩
  ·rw [List.append_nil, applyU_append]; exact S1.trans S2
  ·cases j with
   | zero =>
    simp at e
    subst e
    exact hy.step S2 ht1
   | succ j =>
    have := hys j v (by simpa using e)
    rw [show k + 1 + j = k + (j + 1) by omega] at this
    exact this
end
end Go.Abs
end
section
set_option linter.unusedVariables false
set_option linter.unusedSimpArgs false
set_option linter.unusedSectionVars false
namespace Go.Abs
open Go
variable [Globs]
section
variable {A : Nat → Prop} {hz hb : GH} {O : OM} {env : Env} {tm : Nat → Value} {w : World}

/-- - -/
def renH (t : Nat) (q : List Nat) (O : OM) : OM := fun b => match O b with
 | some (u :: r) => if u = t then some (q ++ r) else some (u :: r)
 | o => o
theorem renH_hit {t : Nat} {q r : List Nat} {b : Nat} (h : O b = some (t :: r)) : renH t q O b = some (q ++ r) := by simp [renH, h]
theorem renH_miss {t : Nat} {q : List Nat} {b : Nat} {u : Nat} {r : List Nat} (h : O b = some (u :: r)) (hu : u ≠ t) : renH t q O b = some (u :: r) := by simp [renH, h, hu]
theorem renH_some {t : Nat} {q p : List Nat} {b : Nat} (h : renH t q O b = some p) : ∃ p', O b = some p' := by
 unfold renH at h
 cases hb : O b with
 | none => rw [hb] at h; cases h
 | some p' => exact ⟨p', rfl⟩
theorem Keeps.renH {t u : Nat} {q r : List Nat} (h : u ≠ t) : Keeps hz hb O w hz hb (Abs.renH t q O) w (u :: r) :=
 ⟨GH.le_refl _, GH.le_refl _, fun b s e => ⟨by rw [List.cons_append] at e ⊢; exact renH_miss e h, rfl⟩⟩
theorem Own.renH {t : Nat} {q r : List Nat} {ts : List LT} {rows : Rows} {c : Value} (h : Own hz O w (t :: r) ts rows c) : Own hz (Abs.renH t q O) w (q ++ r) ts rows c := by
 refine h.re fun b s e => ?_
 rw [List.append_assoc]
 exact renH_hit (by simpa using e)
theorem RepL.renH {t : Nat} {q r : List Nat} {v : V} {c : Value} (h : RepL hz hb O w (t :: r) v c) : RepL hz hb (Abs.renH t q O) w (q ++ r) v c := by
 cases v <;> simp only [RepL] at h ⊢
 ·exact h
 ·exact h
 ·exact h.renH
theorem RepAgg.renH {t : Nat} {q r : List Nat} {xs : List V} {c : Value} (h : RepAgg hz hb O w (t :: r) xs c) : RepAgg hz hb (Abs.renH t q O) w (q ++ r) xs c := by
 obtain ⟨cs, rfl, hs, hc⟩ := h
 refine ⟨cs, rfl, hs, fun j v a => ?_⟩
 have := (hc j v a).renH (q := q)
 rw [List.append_assoc] at *
 exact this
theorem RepObj.renH {t : Nat} {q r : List Nat} {xs : List V} {c : Value} (h : RepObj hz hb O w (t :: r) xs c) : RepObj hz hb (Abs.renH t q O) w (q ++ r) xs c := by
 obtain ⟨blk, cells, ty, fr, rfl, hO, hw, hf, hs, hc⟩ := h
 refine ⟨blk, cells, ty, fr, rfl, renH_hit hO, hw, hf, hs, fun j v a => ?_⟩
 have := (hc j v a).renH (q := q)
 rw [List.append_assoc] at *
 exact this
theorem RepC.renH {t : Nat} {q r : List Nat} {v : V} {c : Value} (h : RepC hz hb O w (t :: r) v c) : RepC hz hb (Abs.renH t q O) w (q ++ r) v c := by
 cases v <;> simp only [RepC] at h ⊢
 case agg => exact RepAgg.renH h
 case obj => exact RepObj.renH h
 case clos => exact h
 case iref => exact h
 all_goals exact RepL.renH h
theorem Inv.renH (I : Inv A hz hb O env tm w) {t : Nat} (h : getS env t = .undef) (q : List Nat) : Inv A hz hb (Abs.renH t q O) env tm w :=
 ⟨I.sub, I.agree, fun b p e => let ⟨_, e'⟩ := renH_some e; I.owned _ _ e', I.fresh, I.glob, fun u => by
  by_cases hu : u = t
  ·subst hu; rw [h]; exact .inl trivial
  ·exact (I.rep u).keep (Keeps.renH hu) fun l _ => ⟨fun ts rows c h => ⟨ts, rows, h, Like.refl _, fun _ => rfl⟩, fun _ row h => ⟨row, h, rfl, rfl⟩, fun _ f caps h => ⟨f, caps, h, rfl⟩⟩⟩

/-- - -/
structure StepN (A : Nat → Prop) (hz hb : GH) (O : OM) (env : Env) (tm : Nat → Value) (w : World) (hz' hb' : GH) (O' : OM) (env' : Env) : Prop where
 ext : FzExt A hz hb hz' hb'
 inv : Inv A hz' hb' O' env' tm w
 gh : Gh env env' tm w
 bare : ∀ t r, getS env t = .undef → t ≠ env.length → Keeps hz hb O w hz' hb' O' w (t :: r)
theorem Step.n {hz' hb' : GH} {O' : OM} {env' : Env} (S : Step A hz hb O env tm w hz' hb' O' env') : StepN A hz hb O env tm w hz' hb' O' env' :=
 ⟨S.ext, S.inv, S.gh, fun t r h _ => S.bare t r h⟩
theorem StepN.refl (I : Inv A hz hb O env tm w) : StepN A hz hb O env tm w hz hb O env := (Step.refl I).n
theorem StepN.trans {hz1 hb1 : GH} {O1 : OM} {env1 : Env} {hz2 hb2 : GH} {O2 : OM} {env2 : Env}
  (h : StepN A hz hb O env tm w hz1 hb1 O1 env1) (k : StepN A hz1 hb1 O1 env1 tm w hz2 hb2 O2 env2) : StepN A hz hb O env tm w hz2 hb2 O2 env2 :=
 ⟨h.ext.trans k.ext, k.inv, h.gh.trans k.gh, fun t r e ne => (h.bare t r e ne).trans (k.bare t r (h.gh.slot e) (by rw [h.gh.len]; exact ne))⟩

def evO (tm : Nat → Value) : Operand → Value
 | .tmp t => tm t
 | .const v => v
 | .global g => .pointer (some ⟨g, 0, none⟩)
 | .func f => .func (.func f) #[] #[]
theorem raw_ok (I : Inv A hz hb O env tm w) {x : Operand} {cs : List Bool} {us : List Upd} {v : V} (h : raw x env = some (cs, us, v)) :
  cs = [] ∧ us = [] ∧ v ≠ .undef ∧ ((∃ t, x = .tmp t ∧ v = getS env t ∧ t < env.length ∧ RepS hz hb O env tm w [t] v (evO tm x)) ∨
   ((∀ t, x ≠ .tmp t) ∧ (∀ p, RepS hz hb O env tm w p v (evO tm x)) ∧ ((∃ c, x = .const c ∧ (∀ cs, c ≠ .agg cs) ∧ v = .f (.lit c)) ∨ (∃ cs, x = .const (.agg cs) ∧ v = .agg (cs.toList.map fun c => .f (.lit c))) ∨ (∃ f, x = .func f ∧ v = .clos f []) ∨ ∃ g ts rows, x = .global g ∧ v = .iref ts rows 0 0))) := by
 cases x with
 | tmp t =>
  obtain ⟨rfl, rfl, rfl, hv⟩ := slotM_inv h
  exact ⟨rfl, rfl, hv, .inl ⟨t, rfl, rfl, getS_lt rfl hv, I.rep t⟩⟩
 | const c =>
  by_cases hc : ∃ cs, c = .agg cs
  ·obtain ⟨vs, rfl⟩ := hc
   obtain ⟨rfl, rfl, rfl⟩ := pure_inv h
   refine ⟨rfl, rfl, by simp, .inr ⟨by simp, fun p => ⟨vs, rfl, by simp, fun j v e => .inl ?_⟩, .inr (.inl ⟨vs, rfl, rfl⟩)⟩⟩
   simp only [List.getElem?_map, Option.map_eq_some_iff, Array.getElem?_toList] at e
   obtain ⟨y, hy, rfl⟩ := e
   have : vs.getD j undef = y := by simp [Array.getD_eq_getD_getElem?, hy]
   rw [this]
   exact .lit y
  ·have hc' : ∀ cs, c ≠ .agg cs := fun cs e => hc ⟨cs, e⟩
   have h' : (pure (V.f (.lit c)) : M V) env = some (cs, us, v) := by
    cases c <;> first | exact h | exact (hc' _ rfl).elim
   obtain ⟨rfl, rfl, rfl⟩ := pure_inv h'
   exact ⟨rfl, rfl, by simp, .inr ⟨by simp, fun p => .inl (.lit c), .inl ⟨c, rfl, hc', rfl⟩⟩⟩
 | global g =>
  simp only [raw] at h
  cases hv : Globs.view g with
  | none => rw [hv] at h; exact (bad_inv (α := V) (env := env) h).elim
  | some p =>
   obtain ⟨ts, rows⟩ := p
   rw [hv] at h
   obtain ⟨rfl, rfl, rfl⟩ := pure_inv h
   obtain ⟨h0, hr⟩ := I.glob g ts rows hv
   exact ⟨rfl, rfl, by simp, .inr ⟨by simp, fun p => .inr ⟨g, 0, rows.length, rows.length, hr.b I.sub, h0, by simp [evO]⟩, .inr (.inr (.inr ⟨g, ts, rows, rfl, rfl⟩))⟩⟩
 | func f =>
  obtain ⟨rfl, rfl, rfl⟩ := pure_inv h
  refine ⟨rfl, rfl, by simp, .inr ⟨by simp, fun p => ⟨#[], rfl, rfl, fun j v e => by simp at e⟩, .inr (.inr (.inl ⟨f, rfl, rfl⟩))⟩⟩
theorem goneSlot_ok (I : Inv A hz hb O env tm w) {t : Nat} {cs : List Bool} {us : List Upd} {u : Unit} (h : goneSlot t env = some (cs, us, u)) (ht : t < env.length) :
  cs = [] ∧ Step A hz hb O env tm w hz hb O (applyU us env) ∧ getS (applyU us env) t = .undef := by
 obtain ⟨rfl, rfl⟩ := upd_inv h
 simp only [applyU, apply1]
 have I1 := I.kill (.slot t)
 have hg : getS ((env.map (killV (.slot t))).set t .undef) t = .undef := by rw [getS_set]; simp [ht]
 refine ⟨trivial, ⟨FzExt.refl _ _ _, ⟨I1.sub, I1.agree, I1.owned, I1.fresh, I1.glob, fun u => ?_⟩, ?_, Bare.refl _ _ _ _ _⟩, hg⟩
 ·by_cases hu : t = u
  ·subst hu; rw [hg]; exact .inl trivial
  ·rw [getS_set_ne hu]
   refine (I1.rep u).keep (Keeps.refl _ _ _ _ _) fun l hl => ?_
   rw [getS_kill] at hl
   have hls : l.slot ≠ t := by
    have := (mentsV_kill hl).2
    simpa [KQ.hits] using this
   refine Pass.ofLoc (fun v c h => ⟨v, ?_, fun ts rows h => ⟨rows, h, fun _ => rfl⟩⟩) (fun _ row h => ⟨row, by rw [getS_set_ne (Ne.symm hls)]; exact h, rfl⟩) (fun _ f caps h => ⟨f, caps, by rw [getS_set_ne (Ne.symm hls)]; exact h⟩)
   unfold LocIs at h ⊢
   rw [getS_set_ne (Ne.symm hls)]
   exact h
 ·have g1 := Gh.kill (.slot t) env tm w
  refine g1.trans ⟨fun l v c h => ?_, fun l h => ?_, by simp⟩
  ·by_cases hl : l.slot = t
   ·left
    unfold getLoc
    cases l.leaf <;> simp only <;> rw [hl, hg] <;> rfl
   ·right
    refine ⟨v, ?_, fun _ h => h⟩
    unfold LocIs at h ⊢
    rw [getS_set_ne (Ne.symm hl)]
    exact h
  ·by_cases hl : l.slot = t
   ·unfold getLoc
    cases l.leaf <;> simp only <;> rw [hl, hg] <;> rfl
   ·unfold getLoc at h ⊢
    rw [getS_set_ne (Ne.symm hl)]
    exact h
theorem RepS.selfC {p : List Nat} {v : V} {c : Value} (h : RepS hz hb O env tm w p v c) (hv : (∃ ts rows, v = .own ts rows) ∨ (∃ row, v = .obj row)) : RepC hz hb O w p v c := by
 rcases hv with ⟨ts, rows, rfl⟩ | ⟨row, rfl⟩
 ·rcases h with h | h
  ·exact h
  ·exact h.elim
 ·exact h
theorem takeOp_ok (I : Inv A hz hb O env tm w) {mv : Bool} {x : Operand} {v : V} {cs : List Bool} {us : List Upd} (h : takeOp mv x env = some (cs, us, v)) (q : List Nat) :
  cs = [] ∧ ∃ hz' hb' O', StepN A hz hb O env tm w hz' hb' O' (applyU us env) ∧ RepC hz' hb' O' w q v (evO tm x) := by
 obtain ⟨c1, u1, y, c2, u2, h1, h2, rfl, rfl⟩ := bind_inv h
 obtain ⟨rfl, rfl, hyu, hy⟩ := raw_ok I h1
 simp only [applyU, List.nil_append] at h2 ⊢
 -- a leaf, leaning on a slot or bearing itself
 have leaf : ∀ {y : V} {cs : List Bool} {us : List Upd} {v : V} {c : Value}, takeLeaf mv y env = some (cs, us, v) → (RepL hz hb O w q y c ∨ RepW env tm w y c) →
   cs = [] ∧ ∃ hz' hb' O', StepN A hz hb O env tm w hz' hb' O' (applyU us env) ∧ RepC hz' hb' O' w q v c := by
  intro y cs us v c h hv
  obtain ⟨rfl, hz', hb', O', S, hr⟩ := takeLeaf_ok I h hv
  refine ⟨rfl, hz', hb', O', S.n, ?_⟩
  cases v <;> first | exact hr | exact hr.elim
 have weak : ∀ {y : V} {c : Value} {p : List Nat}, (RepL hz hb O w p y c ∨ RepE hz hb env tm w y c) → (∀ ts rows, y ≠ .own ts rows) → (∃ cs us v, takeLeaf mv y env = some (cs, us, v)) →
   RepL hz hb O w q y c ∨ RepW env tm w y c := by
  intro y c p hr hn ht
  obtain ⟨cs, us, v, ht⟩ := ht
  rcases hr with hr | hr
  ·left
   cases y <;> first | exact hr | exact hr.elim | exact (hn _ _ rfl).elim
  ·right
   cases y <;> first
    | exact hr.weak (.inl ⟨_, _, _, rfl⟩)
    | exact hr.weak (.inr ⟨_, _, _, _, rfl⟩)
    | exact hr.weakM
    | exact hr.weakX
    | exact hr.elim
    | exact (bad_inv (α := V) (env := env) ht).elim
 rcases hy with ⟨t, rfl, rfl, htl, hr⟩ | ⟨hx, hr, hk⟩
 ·cases hg : getS env t with
  | own ts rows =>
   rw [hg] at h2 hr
   obtain ⟨c3, u3, a3, c4, u4, h5, h4, rfl, rfl⟩ := bind_inv h2
   obtain ⟨rfl, rfl, rfl⟩ := pure_inv h4
   obtain ⟨rfl, S, hu⟩ := goneSlot_ok I h5 htl
   rw [List.append_nil u3]
   refine ⟨rfl, hz, hb, renH t q O, ⟨FzExt.refl _ _ _, S.inv.renH hu q, S.gh, fun u r e _ => Keeps.renH (by rintro rfl; rw [hg] at e; cases e)⟩, ?_⟩
   have := (hr.selfC (.inl ⟨_, _, rfl⟩)).renH (q := q)
   simpa using this
  | obj row =>
   rw [hg] at h2 hr
   obtain ⟨c3, u3, a3, c4, u4, h5, h4, rfl, rfl⟩ := bind_inv h2
   obtain ⟨rfl, rfl, rfl⟩ := pure_inv h4
   obtain ⟨rfl, S, hu⟩ := goneSlot_ok I h5 htl
   rw [List.append_nil u3]
   refine ⟨rfl, hz, hb, renH t q O, ⟨FzExt.refl _ _ _, S.inv.renH hu q, S.gh, fun u r e _ => Keeps.renH (by rintro rfl; rw [hg] at e; cases e)⟩, ?_⟩
   have := (hr.selfC (.inr ⟨_, rfl⟩)).renH (q := q)
   simpa using this
  | agg xs =>
   rw [hg] at h2 hr
   simp only at h2
   obtain ⟨vs, hvs, hsz, hlv⟩ := hr
   split at h2
   ·-- some leaf is a list of its own: the slot is left
    obtain ⟨c3, u3, a3, c4, u4, h5, h6, rfl, rfl⟩ := bind_inv h2
    obtain ⟨c7, u7, ys, c8, u8, h7, h8, rfl, rfl⟩ := bind_inv h6
    obtain ⟨rfl, rfl, rfl⟩ := pure_inv h8
    obtain ⟨rfl, S, hu⟩ := goneSlot_ok I h5 htl
    obtain ⟨rfl, hz', hb', O', S2, hlen, hys⟩ := takeLeaves_ok (t := t) (r := []) (k := 0) (g := fun j => vs.getD j undef) S.inv hu h7 (fun j v e => by
     simp only [Nat.zero_add, List.nil_append]
     rcases hlv j v e with h | h
     ·exact .inl h
     ·right
      cases v <;> first
       | exact (h.weak (.inl ⟨_, _, _, rfl⟩)).gh S.gh
       | exact (h.weak (.inr ⟨_, _, _, _, rfl⟩)).gh S.gh
       | exact h.weakM.gh S.gh
       | exact h.weakX.gh S.gh
       | exact h.elim
       | trivial)
    rw [List.append_nil u7, applyU_append]
    refine ⟨rfl, hz', hb', renH t q O', ⟨S2.ext, S2.inv.renH (S2.gh.slot hu) q, S.gh.trans S2.gh, fun u r e ne => ?_⟩, ?_⟩
    ·have hne : u ≠ t := by rintro rfl; rw [hg] at e; cases e
     exact ((S.bare u r e).trans (S2.bare u r (S.gh.slot e))).trans (Keeps.renH hne)
    ·refine ⟨vs, hvs, by rw [hlen]; exact hsz, fun j v e => ?_⟩
     have := (hys j v e).renH (q := q)
     simpa using this
   ·rename_i hno
    obtain ⟨c7, u7, ys, c8, u8, h7, h8, rfl, rfl⟩ := bind_inv h2
    obtain ⟨rfl, rfl, rfl⟩ := pure_inv h8
    have hN : getS env env.length = .undef := getS_ge (Nat.le_refl _)
    obtain ⟨rfl, hz', hb', O', S2, hlen, hys⟩ := takeLeaves_ok (t := env.length) (r := []) (k := 0) (g := fun j => vs.getD j undef) I hN h7 (fun j v e => by
     simp only [Nat.zero_add, List.nil_append]
     have hv : hasOwn v = false := by
      cases hh : hasOwn v with
      | false => rfl
      | true => exact (hno (List.any_eq_true.2 ⟨v, List.mem_of_getElem? e, hh⟩)).elim
     rcases hlv j v e with h | h
     ·left
      cases v <;> first | exact h | exact h.elim | cases hv
     ·right
      cases v <;> first
       | exact h.weak (.inl ⟨_, _, _, rfl⟩)
       | exact h.weak (.inr ⟨_, _, _, _, rfl⟩)
       | exact h.weakM
       | exact h.weakX
       | exact h.elim
       | trivial)
    rw [List.append_nil u7]
    refine ⟨rfl, hz', hb', renH env.length q O', ⟨S2.ext, S2.inv.renH (S2.gh.slot hN) q, S2.gh, fun u r e ne => ?_⟩, ?_⟩
    ·exact (S2.bare u r e).trans (Keeps.renH ne)
    ·refine ⟨vs, hvs, by rw [hlen]; exact hsz, fun j v e => ?_⟩
     have := (hys j v e).renH (q := q)
     simpa using this
  | tup xs => rw [hg] at h2; exact (bad_inv (α := V) (env := env) h2).elim
  | clos f xs => rw [hg] at h2; exact (bad_inv (α := V) (env := env) h2).elim
  | undef => exact (hyu hg).elim
  | _ =>
   rw [hg] at h2 hr
   exact leaf h2 (weak hr (by simp) ⟨_, _, _, h2⟩)
 ·rcases hk with ⟨c, rfl, hc, rfl⟩ | ⟨vs, rfl, rfl⟩ | ⟨f, rfl, rfl⟩ | ⟨g, ts, rows, rfl, rfl⟩
  ·exact leaf h2 (weak (hr []) (by simp) ⟨_, _, _, h2⟩)
  ·obtain ⟨rfl, rfl, rfl⟩ := pure_inv h2
   refine ⟨rfl, hz, hb, O, StepN.refl I, ?_⟩
   obtain ⟨vs', h3, h4, h5⟩ := hr q
   refine ⟨vs', h3, h4, fun j v e => ?_⟩
   rcases h5 j v e with h6 | h6
   ·exact h6
   ·simp only [List.getElem?_map, Option.map_eq_some_iff] at e
    obtain ⟨y, _, rfl⟩ := e
    exact h6.elim
  ·exact (bad_inv (α := V) (env := env) h2).elim
  ·exact (bad_inv (α := V) (env := env) h2).elim
end
end Go.Abs
end
section
set_option linter.unusedVariables false
set_option linter.unusedSimpArgs false
set_option linter.unusedSectionVars false
namespace Go.Abs
open Go
variable [Globs]
section
variable {A : Nat → Prop} {hz hb : GH} {O : OM} {env : Env} {tm : Nat → Value} {w : World}

/-- - -/
theorem Inv.heap (I : Inv A hz hb O env tm w) {w' : World} (h : w'.heap = w.heap) : Inv A hz hb O env tm w' := by
 have k : ∀ p, Keeps hz hb O w hz hb O w' p := fun p => ⟨GH.le_refl _, GH.le_refl _, fun b q e => ⟨e, by rw [h]⟩⟩
 refine ⟨I.sub, fun b o e => by rw [h]; exact I.agree b o e, fun b p e => by rw [h]; exact I.owned b p e, fun b e => I.fresh b (by rw [← h]; exact e), I.glob, fun t => (I.rep t).keep (k _) fun l _ => ?_⟩
 have hloc : ∀ l v c, LocIs env tm w l v c → LocIs env tm w' l v c := by
  intro l v c hl
  unfold LocIs at hl ⊢
  rw [h]; exact hl
 exact ⟨fun ts rows c ⟨v, h1, h2⟩ => ⟨ts, rows, ⟨v, hloc _ _ _ h1, h2⟩, Like.refl _, fun _ => rfl⟩, fun _ row h => ⟨row, h, rfl, rfl⟩, fun _ f caps h => ⟨f, caps, h, rfl⟩⟩
theorem Keeps.heap {w' : World} (h : w'.heap = w.heap) (p : List Nat) : Keeps hz hb O w hz hb O w' p := ⟨GH.le_refl _, GH.le_refl _, fun b q e => ⟨e, by rw [h]⟩⟩
theorem LocIs.alloc {o : Obj} {l : Loc} {v : V} {c : Value} (h : LocIs env tm w l v c) : LocIs env tm (w.alloc o) l v c := by
 unfold LocIs at h ⊢
 cases hl : l.leaf with
 | none => rw [hl] at h; exact h
 | some j =>
  rw [hl] at h
  simp only at h ⊢
  refine ⟨h.1, ?_⟩
  have h2 := h.2
  cases hg : getS env l.slot with
  | obj row =>
   rw [hg] at h2
   obtain ⟨blk, cells, t, fr, h3, h4, h5⟩ := h2
   refine ⟨blk, cells, t, fr, h3, ?_, h5⟩
   have : blk < w.heap.size := (Array.getElem?_eq_some_iff.1 h4).1
   show (w.heap.push o)[blk]? = _
   rw [Array.getElem?_push, if_neg (by omega)]
   exact h4
  | tup row => rw [hg] at h2; exact h2
  | _ => rw [hg] at h2; exact h2.elim
/-- - -/
def newO (O : OM) (n : Nat) (p : List Nat) : OM := fun b => if b = n then some p else O b
theorem Keeps.alloc (I : Inv A hz hb O env tm w) (o : Obj) (p r : List Nat) : Keeps hz hb O w hz hb (newO O w.heap.size p) (w.alloc o) r := by
 refine ⟨GH.le_refl _, GH.le_refl _, fun b q e => ?_⟩
 have hlt := (I.owned _ _ e).2.2
 refine ⟨by unfold newO; rw [if_neg (by omega)]; exact e, ?_⟩
 show (w.heap.push o)[b]? = _
 rw [Array.getElem?_push, if_neg (by omega)]
theorem Inv.alloc (I : Inv A hz hb O env tm w) (o : Obj) (p : List Nat) : Inv A hz hb (newO O w.heap.size p) env tm (w.alloc o) := by
 have hs : (w.alloc o).heap.size = w.heap.size + 1 := by show (w.heap.push o).size = _; exact Array.size_push _
 refine ⟨I.sub, fun b x e => ?_, fun b r e => ?_, fun b e => I.fresh b (by omega), I.glob, fun t => (I.rep t).keep (Keeps.alloc I o p _) fun l _ => ?_⟩
 ·have h := I.agree b x e
  have : b < w.heap.size := (Array.getElem?_eq_some_iff.1 h).1
  show (w.heap.push o)[b]? = _
  rw [Array.getElem?_push, if_neg (by omega)]
  exact h
 ·unfold newO at e
  by_cases hb' : b = w.heap.size
  ·subst hb'
   refine ⟨I.fresh _ (Nat.le_refl _), ?_, by omega⟩
   cases hx : hb w.heap.size with
   | none => rfl
   | some x =>
    have := (Array.getElem?_eq_some_iff.1 (I.agree _ _ hx)).1
    omega
  ·rw [if_neg hb'] at e
   have := I.owned _ _ e
   exact ⟨this.1, this.2.1, by omega⟩
 ·exact ⟨fun ts rows c ⟨v, h1, h2⟩ => ⟨ts, rows, ⟨v, h1.alloc, h2⟩, Like.refl _, fun _ => rfl⟩, fun _ row h => ⟨row, h, rfl, rfl⟩, fun _ f caps h => ⟨f, caps, h, rfl⟩⟩

def setT (tm : Nat → Value) (t : Nat) (c : Value) : Nat → Value := fun u => if u = t then c else tm u
theorem setT_ne {t u : Nat} {c : Value} (h : u ≠ t) : setT tm t c u = tm u := by simp [setT, h]
theorem setT_eq {t : Nat} {c : Value} : setT tm t c t = c := by simp [setT]
theorem put_inv {t : Nat} {v : V} {cs : List Bool} {us : List Upd} {u : Unit} (h : put t v env = some (cs, us, u)) :
  cs = [] ∧ applyU us env = (env.map (killV (.slot t))).set t v ∧ ∀ l ∈ mentsV v, l.slot ≠ t := by
 unfold put at h
 cases hm : (mentsV v).any (fun l => l.slot == t) with
 | true => rw [hm] at h; exact (bad_inv (α := Unit) (env := env) h).elim
 | false =>
  rw [hm] at h
  obtain ⟨rfl, rfl⟩ := upd_inv (env := env) h
  refine ⟨rfl, rfl, fun l hl e => ?_⟩
  have := List.any_eq_false.1 hm l hl
  simp [e] at this
/-- - -/
theorem put_ok (I : Inv A hz hb O env tm w) {t M : Nat} {v : V} {c : Value} {cs : List Bool} {us : List Upd} {u : Unit} (h : put t v env = some (cs, us, u)) (ht : t < env.length) (hM : env.length ≤ M)
  (hv : RepS hz hb O env tm w [M] v c) : cs = [] ∧ Inv A hz hb (renH M [t] O) (applyU us env) (setT tm t c) w := by
 obtain ⟨rfl, h2, hm⟩ := put_inv h
 rw [h2]
 have I1 := I.kill (.slot t)
 have hg : getS ((env.map (killV (.slot t))).set t v) t = v := by rw [getS_set]; simp [ht]
 have hpass : ∀ l : Loc, l.slot ≠ t → Pass env tm w ((env.map (killV (.slot t))).set t v) (setT tm t c) w l := by
  intro l hl
  have p1 := Pass.kill env tm w (.slot t) l
  refine ⟨fun ts rows c' h => ?_, fun h0 row h => ?_, fun h0 f caps h => ?_⟩
  ·obtain ⟨ts', rows', ⟨v', h3, h4⟩, h6, h5⟩ := p1.lst ts rows c' h
   refine ⟨ts', rows', ⟨v', ?_, h4⟩, h6, h5⟩
   unfold LocIs at h3 ⊢
   rw [getS_set_ne (Ne.symm hl), setT_ne hl]
   exact h3
  ·obtain ⟨row', h3, h4, h5⟩ := p1.obj h0 row h
   exact ⟨row', by rw [getS_set_ne (Ne.symm hl)]; exact h3, h4, setT_ne hl⟩
  ·obtain ⟨f', caps', h3, h4⟩ := p1.clos h0 f caps h
   exact ⟨f', caps', by rw [getS_set_ne (Ne.symm hl)]; exact h3, setT_ne hl⟩
 refine ⟨rfl, I.sub, I.agree, fun b p e => let ⟨_, e'⟩ := renH_some e; I.owned _ _ e', I.fresh, I.glob, fun s => ?_⟩
 by_cases hs : s = t
 ·subst hs
  rw [hg, setT_eq]
  -- from the path M to the slot
  have one : ∀ (r : List Nat) (v : V) (c : Value), RepL hz hb O w ([M] ++ r) v c → RepL hz hb (renH M [s] O) w ([s] ++ r) v c := fun r v c h => h.renH
  cases v
  case agg xs =>
   obtain ⟨cs, rfl, hsz, hc⟩ := hv
   refine ⟨cs, rfl, hsz, fun j x e => (hc j x e).imp (one [j] _ _) (·.pass (GH.le_refl _) (GH.le_refl _) fun l hl => hpass l (hm l ?_))⟩
   simp only [mentsV, List.mem_flatMap]
   exact ⟨x, List.mem_of_getElem? e, hl⟩
  case tup xs =>
   obtain ⟨cs, rfl, hsz, hc⟩ := hv
   exact ⟨cs, rfl, hsz, fun j x e => (hc j x e).renH⟩
  case clos f xs =>
   obtain ⟨cs, rfl, hsz, hc⟩ := hv
   refine ⟨cs, rfl, hsz, fun j x e => (hc j x e).imp (·.renH) (·.pass (GH.le_refl _) (GH.le_refl _) fun l hl => hpass l (hm l ?_))⟩
   simp only [mentsV, List.mem_flatMap]
   exact ⟨x, List.mem_of_getElem? e, hl⟩
  case obj row => exact RepObj.renH (r := []) hv
  all_goals exact hv.imp (one [] _ _) (·.pass (GH.le_refl _) (GH.le_refl _) fun l hl => hpass l (hm l hl))
 ·rw [getS_set_ne (Ne.symm hs), setT_ne hs]
  by_cases hsM : s = M
  ·subst hsM
   rw [getS_ge (by simpa using hM)]
   exact .inl trivial
  ·rw [getS_kill]
   refine ((I.rep s).nk (.slot t)).keep (Keeps.renH hsM) fun l hl => hpass l ?_
   have := (mentsV_kill hl).2
   simpa [KQ.hits] using this
end
end Go.Abs
end
section
set_option linter.unusedVariables false
set_option linter.unusedSimpArgs false
set_option linter.unusedSectionVars false
namespace Go.Abs
open Go
variable [Globs]
section
variable {A : Nat → Prop} {hz hb : GH} {O : OM} {env : Env} {tm : Nat → Value} {w : World} {P : Program}

/-- - -/
structure Side (w w' : World) : Prop where
 os : w'.os = w.os
 tape : w'.tape = w.tape
 output : w'.output = w.output
 size : w.heap.size ≤ w'.heap.size
theorem Side.refl (w : World) : Side w w := ⟨rfl, rfl, rfl, Nat.le_refl _⟩
theorem Side.trans {a b c : World} (h : Side a b) (k : Side b c) : Side a c := ⟨k.os.trans h.os, k.tape.trans h.tape, k.output.trans h.output, Nat.le_trans h.size k.size⟩
theorem Side.alloc (w : World) (o : Obj) : Side w (w.alloc o) := ⟨rfl, rfl, rfl, by show _ ≤ (w.heap.push o).size; rw [Array.size_push]; omega⟩
def tmPut (tm : Nat → Value) (d : Option Tmp) (c : Value) : Nat → Value := match d with
 | some t => setT tm t c
 | none => tm
/-- - -/
def Done (A : Nat → Prop) (hz hb : GH) (env' : Env) (tm : Nat → Value) (w : World) (dst : Option Tmp) (r : Result Next) : Prop :=
 ∃ c w' hz' hb' O', FzExt A hz hb hz' hb' ∧ Inv A hz' hb' O' env' (tmPut tm dst c) w' ∧ (r = .ok (.value c) w' ∨ (r = .ok .skip w' ∧ c = undef)) ∧ Side w w'
theorem done_put {hz1 hb1 : GH} {O1 : OM} {env1 : Env} {w1 : World} {dst : Option Tmp} {v : V} {c : Value} {cs : List Bool} {us : List Upd} {u : Unit} {M : Nat} {r : Result Next}
  (I : Inv A hz1 hb1 O1 env1 tm w1) (e : FzExt A hz hb hz1 hb1) (hsz : Side w w1) (hr : r = .ok (.value c) w1)
  (h : putD dst v env1 = some (cs, us, u)) (hd : ∀ d, dst = some d → d < env1.length) (hM : env1.length ≤ M) (hv : RepS hz1 hb1 O1 env1 tm w1 [M] v c) :
  cs = [] ∧ Done A hz hb (applyU us env1) tm w dst r := by
 cases dst with
 | none =>
  obtain ⟨rfl, rfl⟩ := upd_inv (env := env1) h
  exact ⟨rfl, c, w1, hz1, hb1, O1, e, I, .inl hr, hsz⟩
 | some d =>
  obtain ⟨rfl, I2⟩ := put_ok I h (hd d rfl) hM hv
  exact ⟨rfl, c, w1, hz1, hb1, _, e, I2, .inl hr, hsz⟩

theorem light_rep {v : V} {c : Value} {p q : List Nat} (hv : light v = true) (h : RepL hz hb O w p v c ∨ RepE hz hb env tm w v c) : RepL hz hb O w q v c ∨ RepE hz hb env tm w v c := by
 cases v <;> first | exact h | (simp [light] at hv)
theorem light_leaf {v : V} {c : Value} {p : List Nat} (hv : light v = true) (h : RepS hz hb O env tm w p v c) : RepL hz hb O w p v c ∨ RepE hz hb env tm w v c := by
 cases v <;> first | exact h | (simp [light] at hv)
/-- - -/
theorem mx_rep {l : Loc} {ts : List LT} {rows : Rows} {c : Value} (h : LstAt env tm w l ts rows c) (hm : isMp ts = true) (p : List Nat) : RepS hz hb O env tm w p (mx l ts rows) c ∧ light (mx l ts rows) = true := by
 unfold mx
 rcases mp_cases hm with hm | hm
 ·rw [(map_mp hm).2]
  exact ⟨.inr ⟨ts, rows, h, hm⟩, rfl⟩
 ·rw [hm]
  exact ⟨.inr ⟨ts, rows, h, rfl, rfl, hm⟩, rfl⟩
theorem light_S {v : V} {c : Value} {p q : List Nat} (hv : light v = true) (h : RepS hz hb O env tm w p v c) : RepS hz hb O env tm w q v c := by
 cases v <;> first | exact h | (simp [light] at hv)
theorem alias_ok (I : Inv A hz hb O env tm w) {t : Nat} (hv : light (getS env t) = true ∨ (∃ ts rows, getS env t = .own ts rows) ∨ (∃ row, getS env t = .obj row)) (p : List Nat) :
  RepS hz hb O env tm w p (aliasV t (getS env t)) (tm t) ∧ light (aliasV t (getS env t)) = true := by
 have hr := I.rep t
 rcases hv with hv | ⟨ts, rows, hv⟩ | ⟨row, hv⟩
 ·have : aliasV t (getS env t) = getS env t := by
   cases hg : getS env t <;> first | rfl | (rw [hg] at hv; simp [light] at hv)
  rw [this]
  exact ⟨light_S hv hr, hv⟩
 ·rw [hv]
  show RepS hz hb O env tm w p (bif isMp ts then mx ⟨t, none⟩ ts rows else .lent ⟨t, none⟩ ts.length rows.length) (tm t) ∧ light (bif isMp ts then mx ⟨t, none⟩ ts rows else .lent ⟨t, none⟩ ts.length rows.length) = true
  cases hm : isMp ts with
  | true =>
   simp only [cond_true]
   exact mx_rep (ts := ts) (rows := rows) (⟨.own ts rows, ⟨hv, rfl⟩, rfl⟩ : LstAt env tm w ⟨t, none⟩ ts rows (tm t)) hm p
  | false => exact ⟨.inr ⟨ts, rows, ⟨.own ts rows, ⟨hv, rfl⟩, rfl⟩, rfl, rfl, hm⟩, rfl⟩
 ·rw [hv] at hr ⊢
  obtain ⟨blk, cells, ty, fr, h1, _⟩ := hr
  exact ⟨.inr ⟨row, blk, hv, h1, h1⟩, rfl⟩
theorem not_own_light {v : V} {c : Value} {p : List Nat} (h : RepL hz hb O w p v c) (hv : hasOwn v = false) : light v = true := by
 cases v <;> first | rfl | exact h.elim | (simp [hasOwn] at hv)
theorem RepL.light {p q : List Nat} {v : V} {c : Value} (h : RepL hz hb O w p v c) (hv : light v = true) : RepL hz hb O w q v c := by
 cases v <;> first | exact h | (simp [Abs.light] at hv)
theorem aggE_any {xs : List V} {c : Value} {p : List Nat} (h : RepAggE hz hb O env tm w p xs c) (hx : xs.any hasOwn = false) (q : List Nat) : RepAggE hz hb O env tm w q xs c := by
 obtain ⟨cs, rfl, hs, hc⟩ := h
 refine ⟨cs, rfl, hs, fun j v e => ?_⟩
 rcases hc j v e with h1 | h1
 ·have : hasOwn v = false := by
   have := List.any_eq_false.1 hx v (List.mem_of_getElem? e)
   simpa using this
  exact .inl (RepL.light h1 (not_own_light h1 this))
 ·exact .inr h1
theorem clos_any {f : FuncId} {xs : List V} {c : Value} {p : List Nat} (h : RepClos hz hb O env tm w p f xs c) (hx : xs.all plainCap = true) (q : List Nat) : RepClos hz hb O env tm w q f xs c := by
 obtain ⟨cs, rfl, hs, hc⟩ := h
 refine ⟨cs, rfl, hs, fun j v e => ?_⟩
 rcases hc j v e with h1 | h1
 ·have hp := List.all_eq_true.1 hx v (List.mem_of_getElem? e)
  left
  cases v <;> first | exact h1 | exact h1.elim | (simp [plainCap] at hp)
 ·exact .inr h1
theorem free_S {v : V} {c : Value} {p q : List Nat} (hv : freeV v = true) (h : RepS hz hb O env tm w p v c) : RepS hz hb O env tm w q v c := by
 cases v
 case agg xs => exact aggE_any h (by simpa [freeV] using hv) q
 case clos f xs => exact clos_any h hv q
 all_goals first | exact light_S hv h | (simp [freeV, Abs.light] at hv)
end
end Go.Abs
end
section
set_option linter.unusedVariables false
set_option linter.unusedSimpArgs false
set_option linter.unusedSectionVars false
namespace Go.Abs
open Go
variable [Globs]

/-! ### kinds -/
theorem eqN_eq : ∀ {a b : List Nat}, eqN a b = true → a = b
 | [], [], _ => rfl
 | x :: xs, y :: ys, h => by
  unfold eqN at h
  cases hx : Nat.beq x y with
  | false => rw [hx] at h; cases h
  | true =>
   rw [hx] at h
   rw [Nat.eq_of_beq_eq_true hx, eqN_eq (a := xs) (b := ys) h]
 | [], _ :: _, h | _ :: _, [], h => by simp [eqN] at h
theorem eqX_eq {h : Option (Nat × Nat)} {a : List Nat} {h' : Option (Nat × Nat)} {b : List Nat} (e : eqX h a h' b = true) : h = none ∧ h' = none ∧ a = b := by
 unfold eqX at e
 split at e
 ·exact ⟨rfl, rfl, eqN_eq e⟩
 ·cases e
mutual
theorem LT.eq_eq : ∀ {a b : LT}, a.eq b = true → a = b
 | .int k, .int k', h => by simp [LT.eq] at h; rw [h]
 | .bool, .bool, _ => rfl
 | .str, .str, _ => rfl
 | .lst a, .lst b, h => by rw [eqTs_eq (a := a) (b := b) (by simpa [LT.eq] using h)]
 | .any, .any, _ => rfl
 | .mp a, .mp b, h => by simp [LT.eq] at h; rw [h]
 | .nx h a, .nx h' b, e => by
  obtain ⟨rfl, rfl, rfl⟩ := eqX_eq (h := h) (a := a) (h' := h') (b := b) (by simpa [LT.eq] using e)
  rfl
 | .nx _ _, .int _, h | .nx _ _, .bool, h | .nx _ _, .str, h | .nx _ _, .lst _, h | .nx _ _, .any, h | .nx _ _, .mp _, h => by simp [LT.eq] at h
 | .int _, .nx _ _, h | .bool, .nx _ _, h | .str, .nx _ _, h | .lst _, .nx _ _, h | .any, .nx _ _, h | .mp _, .nx _ _, h => by simp [LT.eq] at h
 | .int _, .bool, h | .int _, .str, h | .int _, .lst _, h | .int _, .any, h | .int _, .mp _, h => by simp [LT.eq] at h
 | .bool, .int _, h | .bool, .str, h | .bool, .lst _, h | .bool, .any, h | .bool, .mp _, h => by simp [LT.eq] at h
 | .str, .int _, h | .str, .bool, h | .str, .lst _, h | .str, .any, h | .str, .mp _, h => by simp [LT.eq] at h
 | .lst _, .int _, h | .lst _, .bool, h | .lst _, .str, h | .lst _, .any, h | .lst _, .mp _, h => by simp [LT.eq] at h
 | .any, .int _, h | .any, .bool, h | .any, .str, h | .any, .lst _, h | .any, .mp _, h => by simp [LT.eq] at h
 | .mp _, .int _, h | .mp _, .bool, h | .mp _, .str, h | .mp _, .lst _, h | .mp _, .any, h => by simp [LT.eq] at h
theorem eqTs_eq : ∀ {a b : List LT}, eqTs a b = true → a = b
 | [], [], _ => rfl
 | x :: xs, y :: ys, h => by
  simp only [eqTs, Bool.and_eq_true] at h
  rw [LT.eq_eq h.1, eqTs_eq h.2]
 | [], _ :: _, h | _ :: _, [], h => by simp [eqTs] at h
end
theorem tyF_ty {t : LT} {x : F} (h : tyF t x = true) : TyF t x := by
 cases t with
 | int k =>
  cases x with
  | lit v =>
   cases v <;> simp [tyF] at h
   subst h
   exact ⟨_, rfl⟩
  | lst ts rows => simp [tyF] at h
 | bool =>
  cases x with
  | lit v => cases v <;> simp [tyF] at h; exact ⟨_, rfl⟩
  | lst ts rows => simp [tyF] at h
 | str =>
  cases x with
  | lit v => cases v <;> simp [tyF] at h; exact ⟨_, rfl⟩
  | lst ts rows => simp [tyF] at h
 | lst ts =>
  cases x with
  | lit v => simp [tyF] at h
  | lst ts' rows =>
   have := eqTs_eq (a := ts) (b := ts') (by simpa [tyF] using h)
   subst this
   exact ⟨_, rfl⟩
 | any => exact h
 | mp => simp [tyF] at h
 | nx => simp [tyF] at h
theorem tyFs_ty : ∀ {ts : List LT} {xs : List F}, tyFs ts xs = true → TyRow ts xs
 | [], [], _ => .nil
 | t :: ts, x :: xs, h => by
  simp only [tyFs, Bool.and_eq_true] at h
  exact .cons (tyF_ty h.1) (tyFs_ty h.2)
 | [], _ :: _, h | _ :: _, [], h => by simp [tyFs] at h
theorem toFs_ty : ∀ {ts : List LT} {xs : List V} {ys : List F}, toFs ts xs = some ys → TyRow ts ys ∧ xs.length = ts.length
 | [], [], ys, h => by simp only [toFs, Option.some.injEq] at h; subst h; exact ⟨.nil, rfl⟩
 | t :: ts, x :: xs, ys, h => by
  simp only [toFs] at h
  split at h
  ·rename_i y zs h1 h2
   split at h
   ·rename_i h3
    cases h
    exact ⟨.cons (tyF_ty h3) (toFs_ty h2).1, by simp [(toFs_ty h2).2]⟩
   ·cases h
  ·cases h
 | [], _ :: _, _, h | _ :: _, [], _, h => by simp [toFs, fail] at h
theorem toFs_get : ∀ {ts : List LT} {xs : List V} {ys : List F}, toFs ts xs = some ys → ∀ {j : Nat} {y : F}, ys[j]? = some y → ∃ x, xs[j]? = some x ∧ toF x = some y
 | [], [], ys, h, j, y, e => by simp only [toFs, Option.some.injEq] at h; subst h; simp at e
 | t :: ts, x :: xs, ys, h, j, y, e => by
  simp only [toFs] at h
  split at h
  ·rename_i z zs h1 h2
   split at h
   ·cases h
    cases j with
    | zero => simp at e; subst e; exact ⟨x, rfl, h1⟩
    | succ j => exact toFs_get h2 (by simpa using e)
   ·cases h
  ·cases h
 | [], _ :: _, _, h, _, _, _ | _ :: _, [], _, h, _, _, _ => by simp [toFs, fail] at h

section
variable {A : Nat → Prop} {hz hb : GH} {O : OM} {env : Env} {tm : Nat → Value} {w : World} {P : Program}

/-! ### reading memory -/
theorem cell_at {blk off : Nat} {arr : Array Value} {t : TypeId} {fr : Nat × Nat} (hw : w.heap[blk]? = some (.cells arr t fr)) (h : off < arr.size) :
  w.cell? ⟨blk, off, none⟩ = some (arr.getD off undef) := by
 simp [World.cell?, hw, Array.getD_eq_getD_getElem?, h]
def cut (arr : Array Value) (off n : Nat) : Array Value := ((List.range n).map fun j => arr.getD (off + j) undef).toArray
theorem cut_get {arr : Array Value} {off n j : Nat} (h : j < n) : (cut arr off n).getD j undef = arr.getD (off + j) undef := by
 simp [cut, Array.getD_eq_getD_getElem?, h]
theorem cut_size (arr : Array Value) (off n : Nat) : (cut arr off n).size = n := by simp [cut]
theorem und_info {ty : TypeId} {d : TypeDesc} (h : P.underlying ty = some d) : ∃ i, P.info? ty = some i := by
 unfold Program.underlying at h
 cases hi : P.info? ty with
 | none => rw [hi] at h; cases h
 | some i => exact ⟨i, rfl⟩
theorem sz_info {ty : TypeId} {n : Nat} (h : sz P ty = some n) : ∃ i, P.info? ty = some i ∧ i.size = n := by
 unfold sz at h
 cases hi : P.info? ty with
 | none => rw [hi] at h; cases h
 | some i => rw [hi] at h; exact ⟨i, rfl, by simpa using h⟩
theorem run_isAggT {ty : TypeId} {d : TypeDesc} (h : P.underlying ty = some d) (w : World) : (isAgg ty).run P w = .ok (isAggT P ty) w := by
 unfold isAgg isAggT und
 rw [h]
 simp only [Sem.run_bind, run_underlying h, Result.andThen_ok]
 cases d <;> rfl
theorem run_sz {ty : TypeId} {n : Nat} (h : sz P ty = some n) (w : World) : (sizeOf ty).run P w = .ok n w := by
 obtain ⟨i, hi, rfl⟩ := sz_info h
 unfold sizeOf typeInfo
 simp [hi]
theorem loadVar_ok {blk off n : Nat} {arr : Array Value} {t : TypeId} {fr : Nat × Nat} (hw : w.heap[blk]? = some (.cells arr t fr)) (hb : ∀ j, j < n → off + j < arr.size) {ty : TypeId} {d : TypeDesc}
  (hu : P.underlying ty = some d) (hn : sz P ty = some n) (h1 : isAggT P ty = false → 0 < n) :
  (loadVar ty ⟨blk, off, none⟩).run P w = .ok (if isAggT P ty then .agg (cut arr off n) else arr.getD off undef) w := by
 unfold loadVar
 simp only [Sem.run_bind, run_isAggT hu, Result.andThen_ok, Sem.run_ite]
 by_cases ha : isAggT P ty = true
 ·simp only [ha, if_true, Sem.run_bind, run_sz hn, Result.andThen_ok]
  rw [run_loadCells w ⟨blk, off, none⟩ n (fun j => arr.getD (off + j) undef) (fun j hj => by rw [addr_shift]; exact cell_at hw (hb j hj))]
  rfl
 ·have hf : isAggT P ty = false := by simpa using ha
  have := h1 hf
  have h2 := cell_at hw (show off < arr.size from hb 0 this)
  simp only [hf, Bool.false_eq_true, if_false, run_load, h2]
/-- - -/
theorem pack_ok {ty : TypeId} {xs : List V} {v : V} (h : pack P ty xs = some v) : ∃ d n, P.underlying ty = some d ∧ sz P ty = some n ∧ xs.length = n ∧
  ((isAggT P ty = true ∧ v = .agg xs) ∨ (isAggT P ty = false ∧ 0 < n ∧ xs[0]? = some v)) := by
 unfold pack at h
 split at h
 ·rename_i d n h1 h2
  split at h
  ·rename_i hl
   refine ⟨d, n, h1, h2, hl, ?_⟩
   by_cases ha : isAggT P ty = true
   ·rw [if_pos ha] at h
    exact .inl ⟨ha, (Option.some.inj h).symm⟩
   ·rw [if_neg ha] at h
    right
    cases xs with
    | nil => cases h
    | cons x xs =>
     refine ⟨by simpa using ha, by rw [← hl]; simp, by simpa using h⟩
  ·cases h
 ·cases h
/-- - -/
theorem load_pack {hb' : GH} {blk off : Nat} {arr : Array Value} {t : TypeId} {fr : Nat × Nat} (hw : w.heap[blk]? = some (.cells arr t fr)) {ty : TypeId} {xs : List V} {v : V}
  (h : pack P ty xs = some v) (hb : ∀ j, j < xs.length → off + j < arr.size) (hx : ∀ (j : Nat) (x : V), xs[j]? = some x → ∀ p, RepL hz hb' O w p x (arr.getD (off + j) undef) ∨ RepE hz hb' env tm w x (arr.getD (off + j) undef))
  (hplain : ∀ x ∈ xs, light x = true) :
  ∃ c, (loadVar ty ⟨blk, off, none⟩).run P w = .ok c w ∧ ∀ p, RepS hz hb' O env tm w p v c := by
 obtain ⟨d, n, h1, h2, rfl, h3⟩ := pack_ok h
 rcases h3 with ⟨ha, rfl⟩ | ⟨ha, h0, hv⟩
 ·refine ⟨_, loadVar_ok hw hb h1 h2 (by simp [ha]), fun p => ?_⟩
  rw [if_pos ha]
  exact ⟨_, rfl, cut_size _ _ _, fun j x e => by
   have hj := (List.getElem?_eq_some_iff.1 e).1
   rw [cut_get hj]
   exact hx j x e _⟩
 ·refine ⟨_, loadVar_ok hw hb h1 h2 (fun _ => h0), fun p => ?_⟩
  rw [if_neg (by simp [ha])]
  have := hx 0 v hv p
  have hl := hplain v (List.mem_of_getElem? hv)
  cases v <;> first | exact this | (simp [light] at hl)
end
end Go.Abs
end
section
set_option linter.unusedVariables false
set_option linter.unusedSimpArgs false
set_option linter.unusedSectionVars false
namespace Go.Abs
open Go
variable [Globs]
section
variable {A : Nat → Prop} {hz hb : GH} {O : OM} {env : Env} {tm : Nat → Value} {w : World} {P : Program}

/-- - -/
def RowsIn (hz : GH) (w : World) (ts : List LT) (rows : Rows) (blk off : Nat) : Prop :=
 ∃ arr t fr, w.heap[blk]? = some (.cells arr t fr) ∧ off + rows.length * ts.length ≤ arr.size ∧ (∀ row ∈ rows, TyRow ts row) ∧
  ∀ (i j : Nat) (row : List F) (x : F), rows[i]? = some row → row[j]? = some x → RepF hz x (arr.getD (off + i * ts.length + j) undef)
theorem RepB.rows (I : Inv A hz hb O env tm w) {ts : List LT} {rows : Rows} {a : Option Addr} {n cap : Nat} (h : RepB hz hb ts rows (.slice a n cap)) (h0 : rows ≠ []) :
  n = rows.length ∧ n ≤ cap ∧ ∃ blk off, a = some ⟨blk, off, none⟩ ∧ RowsIn hz w ts rows blk off := by
 obtain ⟨hty, a', cap', h1, h2⟩ := h
 simp only [Value.slice.injEq] at h1
 obtain ⟨rfl, rfl, rfl⟩ := h1
 rcases h2 with h2 | ⟨blk, off, arr, t, fr, rfl, h3, h4, h5, h6⟩
 ·exact (h0 h2).elim
 ·exact ⟨rfl, h4, blk, off, rfl, arr, t, fr, I.agree _ _ h3, h5, hty, h6⟩
theorem LstAt.rows (I : Inv A hz hb O env tm w) {l : Loc} {ts : List LT} {rows : Rows} {c : Value} (h : LstAt env tm w l ts rows c) (hn : isMp ts = false) :
  ∃ a cap, c = .slice a rows.length cap ∧ (∀ row ∈ rows, TyRow ts row) ∧ (rows ≠ [] → rows.length ≤ cap ∧ ∃ blk off, a = some ⟨blk, off, none⟩ ∧ RowsIn hz w ts rows blk off) := by
 obtain ⟨v, h1, h2⟩ := h
 have own : ∀ {p : List Nat}, Own hz O w p ts rows c → ∃ a cap, c = .slice a rows.length cap ∧ (∀ row ∈ rows, TyRow ts row) ∧ (rows ≠ [] → rows.length ≤ cap ∧ ∃ blk off, a = some ⟨blk, off, none⟩ ∧ RowsIn hz w ts rows blk off) := by
  intro p ho
  obtain ⟨hty, a, cap, rfl, hcap, hd⟩ := ho.lst hn
  refine ⟨a, cap, rfl, hty, fun h0 => ⟨hcap, ?_⟩⟩
  rcases hd with hd | ⟨blk, off, arr, t, fr, rfl, hO, hw, hf, hs, hc⟩
  ·exact (h0 (List.eq_nil_of_length_eq_zero (by omega))).elim
  ·exact ⟨blk, off, rfl, arr, t, fr, hw, Nat.le_trans (Nat.add_le_add_left (Nat.mul_le_mul_right _ hcap) _) hs, hty, hc⟩
 have frz : RepF hz (.lst ts rows) c → ∃ a cap, c = .slice a rows.length cap ∧ (∀ row ∈ rows, TyRow ts row) ∧ (rows ≠ [] → rows.length ≤ cap ∧ ∃ blk off, a = some ⟨blk, off, none⟩ ∧ RowsIn hz w ts rows blk off) := by
  intro hr
  cases hr with
  | nil => exact ⟨_, _, rfl, by simp, fun h => (h rfl).elim⟩
  | lst hb' hcap hsz hty hc => exact ⟨_, _, rfl, hty, fun _ => ⟨hcap, _, _, rfl, _, _, _, I.agree _ _ (I.sub _ _ hb'), hsz, hty, hc⟩⟩
 cases v <;> simp [rowsOf, fail] at h2
 case own ts' rows' =>
  obtain ⟨rfl, rfl⟩ := h2
  rcases I.leaf_at h1 (by simp) with ⟨_, h3⟩ | ⟨_, h3⟩
  ·rcases h3 with h3 | h3
   ·exact own h3
   ·exact h3.elim
  ·exact own h3
 case f x =>
  cases x with
  | lit v => simp at h2
  | lst ts' rows' =>
   simp at h2
   obtain ⟨rfl, rfl⟩ := h2
   exact frz (I.f_at h1)
/-- - -/
def RowsK (hz : GH) (w : World) (mk : List Nat) (ts : List LT) (rows : Rows) (blk off : Nat) : Prop :=
 ∃ arr t fr, w.heap[blk]? = some (.cells arr t fr) ∧ off + rows.length * ts.length ≤ arr.size ∧ (∀ row ∈ rows, TyRow ts row) ∧
  ∀ (i j : Nat) (row : List F) (x : F), rows[i]? = some row → row[j]? = some x → hasN mk j = false → RepF hz x (arr.getD (off + i * ts.length + j) undef)
def mkOf : List LT → List Nat
 | .nx _ mk :: _ => mk
 | _ => []
theorem hits_mk {mk : List Nat} : ∀ {n j : Nat}, hitsMk mk j n = false → ∀ m, m < n → hasN mk (j + m) = false
 | 0, j, h, m, hm => by omega
 | n + 1, j, h, m, hm => by
  unfold hitsMk at h
  cases hj : hasN mk j with
  | true => rw [hj] at h; cases h
  | false =>
   rw [hj] at h
   cases m with
   | zero => exact hj
   | succ m =>
    have := hits_mk (n := n) (j := j + 1) h m (by omega)
    rw [show j + 1 + m = j + (m + 1) by omega] at this
    exact this
theorem anyK_len (mk : List Nat) : ∀ (j : Nat) (ks : List LT), (anyK mk j ks).length = ks.length
 | _, [] => rfl
 | j, t :: ts => by simp [anyK, anyK_len mk (j + 1) ts]
theorem hits_nx {ts : List LT} {j n : Nat} (h : hitsNx ts j n = false) : ∀ m, m < n → hasN (mkOf ts) (j + m) = false := by
 intro m hm
 cases ts with
 | nil => rfl
 | cons t ts => cases t <;> first | exact hits_mk h m hm | rfl
theorem LstAt.rowsK (I : Inv A hz hb O env tm w) {l : Loc} {ts : List LT} {rows : Rows} {c : Value} (h : LstAt env tm w l ts rows c) (hn : isMap ts = false) :
  ∃ a cap, c = .slice a rows.length cap ∧ (∀ row ∈ rows, TyRow (ksOf ts) row) ∧ (rows ≠ [] → rows.length ≤ cap ∧ ∃ blk off, a = some ⟨blk, off, none⟩ ∧ RowsK hz w (mkOf ts) (ksOf ts) rows blk off) := by
 cases hm : isMp ts with
 | false =>
  obtain ⟨a, cap, h1, h2, h3⟩ := h.rows I hm
  rw [ksOf_no (no_mp hm).2]
  refine ⟨a, cap, h1, h2, fun h0 => ?_⟩
  obtain ⟨h4, blk, off, h5, arr, t, fr, h6, h7, h8, h9⟩ := h3 h0
  exact ⟨h4, blk, off, h5, arr, t, fr, h6, h7, h8, fun i j row x e1 e2 _ => h9 i j row x e1 e2⟩
 | true =>
  have hx : isNx ts = true := by
   rcases mp_cases hm with h1 | h1
   ·rw [hn] at h1; cases h1
   ·exact h1
  obtain ⟨v, h1, h2⟩ := h
  have own : ∀ {p : List Nat}, Own hz O w p ts rows c → ∃ a cap, c = .slice a rows.length cap ∧ (∀ row ∈ rows, TyRow (ksOf ts) row) ∧ (rows ≠ [] → rows.length ≤ cap ∧ ∃ blk off, a = some ⟨blk, off, none⟩ ∧ RowsK hz w (mkOf ts) (ksOf ts) rows blk off) := by
   intro p ho
   obtain ⟨h0, mk, ks, sk, rfl, hk, hty, ⟨hts, a, cap, rfl, hcap, hd⟩, hlen, hnest⟩ := ho.nx hx
   refine ⟨a, cap, by rw [hlen], hty, fun h0 => ⟨by omega, ?_⟩⟩
   rcases hd with hd | ⟨blk, off, arr, t, fr, rfl, hO, hw, hf, hs, hc⟩
   ·exact (h0 (List.eq_nil_of_length_eq_zero (by omega))).elim
   ·rw [anyK_len] at hs hc
    refine ⟨blk, off, rfl, arr, t, fr, hw, Nat.le_trans (Nat.add_le_add_left (Nat.mul_le_mul_right _ (by omega)) _) hs, hty, fun i j row x e1 e2 e3 => ?_⟩
    have hi := (List.getElem?_eq_some_iff.1 e1).1
    have hsi : sk[i]? = some (sk[i]'(by omega)) := List.getElem?_eq_getElem (by omega)
    obtain ⟨y, h5, h6⟩ := hnest i j row _ x e1 hsi e2
    unfold LeafX at h6
    rw [if_neg (by rw [show hasN mk j = false from e3]; simp)] at h6
    subst h6
    exact hc i j _ y hsi h5
  cases v <;> simp [rowsOf, fail] at h2
  case own ts' rows' =>
   obtain ⟨rfl, rfl⟩ := h2
   rcases I.leaf_at h1 (by simp) with ⟨_, h3⟩ | ⟨_, h3⟩
   ·rcases h3 with h3 | h3
    ·exact own h3
    ·exact h3.elim
   ·exact own h3
  case f x =>
   cases x with
   | lit v => simp at h2
   | lst ts' rows' =>
    simp at h2
    obtain ⟨rfl, rfl⟩ := h2
    have hr := I.f_at h1
    cases hr with
    | nil => exact ⟨_, _, rfl, by simp, fun h => (h rfl).elim⟩
    | lst hb' hcap hsz hty hc =>
     refine ⟨_, _, rfl, fun row hrow => ?_, fun h0 => ?_⟩
     ·exfalso
      have := hty row hrow
      unfold isNx at hx
      split at hx
      ·cases this with
       | cons h3 _ => exact h3
      ·cases hx
     ·obtain ⟨row, hrow⟩ := List.exists_mem_of_ne_nil _ h0
      exfalso
      have := hty row hrow
      unfold isNx at hx
      split at hx
      ·cases this with
       | cons h3 _ => exact h3
      ·cases hx
theorem rowAt_get {rows : Rows} {i : Nat} (h : i < rows.length) : rows[i]? = some (rowAt rows i) := by
 simp [rowAt, List.getD_eq_getElem?_getD, h]
/-- - -/
theorem leaves_ok {ts : List LT} {rows : Rows} {blk off i j n : Nat} (h : RowsIn hz w ts rows blk off) (hi : i < rows.length) (hn : (leavesAt ts rows i j n).length = n) :
  ∃ arr t fr, w.heap[blk]? = some (.cells arr t fr) ∧ off + i * ts.length + j + n ≤ arr.size + (if n = 0 then off + i * ts.length + j else 0) ∧
   ∀ (m : Nat) (x : V), (leavesAt ts rows i j n)[m]? = some x → ∃ y, x = .f y ∧ RepF hz y (arr.getD (off + i * ts.length + j + m) undef) := by
 obtain ⟨arr, t, fr, hw, hs, hty, hc⟩ := h
 have hrow := rowAt_get hi
 have htr := hty _ (List.mem_of_getElem? hrow)
 have hlen := htr.len
 unfold leavesAt at hn ⊢
 rw [htr.re] at hn ⊢
 simp only [List.length_map, List.length_take, List.length_drop] at hn
 refine ⟨arr, t, fr, hw, ?_, fun m x e => ?_⟩
 ·by_cases h0 : n = 0
  ·subst h0; simp
  ·simp only [h0, if_false, Nat.add_zero]
   have : (i + 1) * ts.length ≤ rows.length * ts.length := Nat.mul_le_mul_right _ hi
   rw [Nat.add_mul] at this
   omega
 ·simp only [List.getElem?_map, Option.map_eq_some_iff] at e
  obtain ⟨y, e, rfl⟩ := e
  refine ⟨y, rfl, ?_⟩
  rw [List.getElem?_take] at e
  split at e
  ·rw [List.getElem?_drop] at e
   have := hc i (j + m) _ y hrow e
   rw [show off + i * ts.length + j + m = off + i * ts.length + (j + m) by omega]
   exact this
  ·cases e
theorem leavesK_ok {mk : List Nat} {ts : List LT} {rows : Rows} {blk off i j n : Nat} (h : RowsK hz w mk ts rows blk off) (hi : i < rows.length) (hn : (leavesAt ts rows i j n).length = n) (hh : ∀ m, m < n → hasN mk (j + m) = false) :
  ∃ arr t fr, w.heap[blk]? = some (.cells arr t fr) ∧ off + i * ts.length + j + n ≤ arr.size + (if n = 0 then off + i * ts.length + j else 0) ∧
   ∀ (m : Nat) (x : V), (leavesAt ts rows i j n)[m]? = some x → ∃ y, x = .f y ∧ RepF hz y (arr.getD (off + i * ts.length + j + m) undef) := by
 obtain ⟨arr, t, fr, hw, hs, hty, hc⟩ := h
 have hrow := rowAt_get hi
 have htr := hty _ (List.mem_of_getElem? hrow)
 have hlen := htr.len
 unfold leavesAt at hn ⊢
 rw [htr.re] at hn ⊢
 simp only [List.length_map, List.length_take, List.length_drop] at hn
 refine ⟨arr, t, fr, hw, ?_, fun m x e => ?_⟩
 ·by_cases h0 : n = 0
  ·subst h0; simp
  ·simp only [h0, if_false, Nat.add_zero]
   have : (i + 1) * ts.length ≤ rows.length * ts.length := Nat.mul_le_mul_right _ hi
   rw [Nat.add_mul] at this
   omega
 ·simp only [List.getElem?_map, Option.map_eq_some_iff] at e
  obtain ⟨y, e, rfl⟩ := e
  refine ⟨y, rfl, ?_⟩
  rw [List.getElem?_take] at e
  split at e
  ·rename_i hm
   rw [List.getElem?_drop] at e
   have := hc i (j + m) _ y hrow e (hh m hm)
   rw [show off + i * ts.length + j + m = off + i * ts.length + (j + m) by omega]
   exact this
  ·cases e
theorem aliasLs_len (s : Nat) : ∀ (j : Nat) (xs : List V), (aliasLs s j xs).length = xs.length
 | _, [] => rfl
 | j, x :: xs => by simp [aliasLs, aliasLs_len s (j + 1) xs]
theorem aliasLs_get (s : Nat) : ∀ (j : Nat) (xs : List V) (m : Nat), (aliasLs s j xs)[m]? = (xs[m]?).map (alias1 s (j + m))
 | _, [], m => by simp [aliasLs]
 | j, x :: xs, 0 => by simp [aliasLs]
 | j, x :: xs, m + 1 => by
  have := aliasLs_get s (j + 1) xs m
  simp only [aliasLs, List.getElem?_cons_succ, this]
  rw [show j + 1 + m = j + (m + 1) by omega]
theorem loadV_ok (I : Inv A hz hb O env tm w) {ty : TypeId} {a v : V} {cs : List Bool} {us : List Upd} (h : loadV P ty a env = some (cs, us, v)) {c : Value} (ha : RepE hz hb env tm w a c) :
  cs = [] ∧ us = [] ∧ ∃ blk off c', c = .pointer (some ⟨blk, off, none⟩) ∧ (loadVar ty ⟨blk, off, none⟩).run P w = .ok c' w ∧ ∀ p, RepS hz hb O env tm w p v c' := by
 obtain ⟨c1, u1, n, c2, u2, h1, h2, rfl, rfl⟩ := bind_inv h
 obtain ⟨rfl, rfl, hn⟩ := opt_inv h1
 simp only [applyU, List.nil_append] at h2 ⊢
 cases a with
 | ref s j =>
  obtain ⟨c3, u3, o, c4, u4, h3, h4, rfl, rfl⟩ := bind_inv h2
  obtain ⟨rfl, rfl, ho, _⟩ := slotM_inv h3
  obtain ⟨row, blk, hg, htm, rfl, hj⟩ := ha
  rw [hg] at ho
  subst ho
  simp only [applyU, List.nil_append] at h4 ⊢
  obtain ⟨rfl, rfl, hp⟩ := opt_inv h4
  have hr := I.rep s
  rw [hg] at hr
  obtain ⟨blk', cells, t, fr, h5, hO, hw, hf, hs, hc⟩ := hr
  rw [htm] at h5
  simp only [Value.pointer.injEq, Option.some.injEq, Addr.mk.injEq] at h5
  obtain ⟨rfl, _⟩ := h5
  have hlen : (aliasLs s j ((row.drop j).take n)).length ≤ row.length - j := by
   rw [aliasLs_len]; simp; omega
  have hget : ∀ (m : Nat) (x : V), (aliasLs s j ((row.drop j).take n))[m]? = some x → ∃ y, row[j + m]? = some y ∧ x = alias1 s (j + m) y := by
   intro m x e
   rw [aliasLs_get] at e
   simp only [Option.map_eq_some_iff] at e
   obtain ⟨y, e, rfl⟩ := e
   rw [List.getElem?_take] at e
   split at e
   ·rw [List.getElem?_drop] at e; exact ⟨y, e, rfl⟩
   ·cases e
  have hal : ∀ (m : Nat) (y : V), row[m]? = some y → light (alias1 s m y) = true ∧ (∀ p, RepL hz hb O w p (alias1 s m y) (cells.getD m undef) ∨ RepE hz hb env tm w (alias1 s m y) (cells.getD m undef)) := by
   intro m y e
   have hy := hc m y e
   cases y <;> first
    | exact ⟨rfl, fun p => .inl (RepL.light hy rfl)⟩
    | exact hy.elim
    | skip
   rename_i ts rows
   have hloc : LocIs env tm w ⟨s, some m⟩ (.own ts rows) (cells.getD m undef) := by
    unfold LocIs
    simp only [hg]
    exact ⟨by simp [partOf, List.getD_eq_getElem?_getD, e], blk, cells, t, fr, htm, hw, rfl⟩
   show light (bif isMp ts then mx ⟨s, some m⟩ ts rows else .lent ⟨s, some m⟩ ts.length rows.length) = true ∧ ∀ p, RepL hz hb O w p (bif isMp ts then mx ⟨s, some m⟩ ts rows else .lent ⟨s, some m⟩ ts.length rows.length) _ ∨ RepE hz hb env tm w (bif isMp ts then mx ⟨s, some m⟩ ts rows else .lent ⟨s, some m⟩ ts.length rows.length) _
   cases hm : isMp ts with
   | true =>
    have hx := fun p => mx_rep (hz := hz) (hb := hb) (O := O) (l := ⟨s, some m⟩) (ts := ts) (rows := rows) (⟨.own ts rows, hloc, rfl⟩ : LstAt env tm w ⟨s, some m⟩ ts rows _) hm p
    exact ⟨(hx []).2, fun p => light_leaf (hx []).2 (hx p).1⟩
   | false => exact ⟨rfl, fun p => .inr ⟨ts, rows, ⟨.own ts rows, hloc, rfl⟩, rfl, rfl, hm⟩⟩
  obtain ⟨c', hrun, hrep⟩ := load_pack (O := O) (env := env) (tm := tm) (hb' := hb) hw hp (off := j) (fun m hm => by omega) (fun m x e p => by
   obtain ⟨y, e2, rfl⟩ := hget m x e
   exact (hal _ y e2).2 p) (fun x hx => by
   obtain ⟨m, e⟩ := List.getElem?_of_mem hx
   obtain ⟨y, e2, rfl⟩ := hget m x e
   exact (hal _ y e2).1)
  exact ⟨rfl, rfl, blk, j, c', rfl, hrun, hrep⟩
 | eref l i j =>
  obtain ⟨c3, u3, tr, c4, u4, h3, h4, rfl, rfl⟩ := bind_inv h2
  obtain ⟨c5, u5, v5, c6, u6, h5, h6, rfl, rfl⟩ := bind_inv h3
  obtain ⟨rfl, rfl, hv5, hn5⟩ := locM_inv h5
  obtain ⟨rfl, rfl, hro⟩ := opt_inv h6
  simp only [applyU, List.nil_append] at h4 ⊢
  obtain ⟨ts, rows, blk, off, n', cap, hl, hi, rfl, hnm⟩ := ha
  obtain ⟨c0, hc0⟩ := I.loc_some hv5 hn5
  have hro2 : tr = (ts, rows) := by
   obtain ⟨v', h7, h8⟩ := hl
   obtain ⟨rfl, _⟩ := h7.det hc0
   exact Option.some.inj (hro.symm.trans h8)
  subst hro2
  simp only at h4
  cases hh : hitsNx ts j n with
  | true => rw [hh] at h4; exact (bad_inv (α := V) (env := env) h4).elim
  | false =>
  rw [hh] at h4
  obtain ⟨rfl, rfl, hp⟩ := opt_inv (env := env) h4
  obtain ⟨a', cap', h9, hty, hrows⟩ := hl.rowsK I hnm
  simp only [Value.slice.injEq] at h9
  obtain ⟨rfl, rfl, rfl⟩ := h9
  obtain ⟨_, blk', off', h10, hin⟩ := hrows (by rintro rfl; simp at hi)
  simp only [Option.some.injEq, Addr.mk.injEq] at h10
  obtain ⟨rfl, rfl, _⟩ := h10
  obtain ⟨d, n2, h11, h12, h13, _⟩ := pack_ok hp
  rw [hn] at h12
  obtain rfl : n = n2 := Option.some.inj h12
  obtain ⟨arr, t, fr, hw, hle, hlv⟩ := leavesK_ok hin hi h13 (hits_nx hh)
  obtain ⟨c', hrun, hrep⟩ := load_pack (O := O) (env := env) (tm := tm) (hb' := hb) hw hp (off := off + i * (ksOf ts).length + j) (by
   rw [h13]
   intro m hm
   have h0 : n ≠ 0 := by omega
   simp only [h0, if_false] at hle
   omega) (fun m x e p => by
   obtain ⟨y, rfl, hy⟩ := hlv m x e
   exact .inl hy) (fun x hx => by
   obtain ⟨m, e⟩ := List.getElem?_of_mem hx
   obtain ⟨y, rfl, hy⟩ := hlv m x e
   rfl)
  exact ⟨rfl, rfl, blk, _, c', rfl, hrun, hrep⟩
 | iref ts rows i j =>
  obtain ⟨rfl, rfl, hp⟩ := opt_inv h2
  obtain ⟨blk, off, n', cap, hl, hi, hj, rfl⟩ := ha
  obtain ⟨_, _, blk', off', h10, hin⟩ := hl.rows I (by rintro rfl; simp at hi)
  simp only [Option.some.injEq, Addr.mk.injEq] at h10
  obtain ⟨rfl, rfl, _⟩ := h10
  obtain ⟨d, n2, h11, h12, h13, _⟩ := pack_ok hp
  rw [hn] at h12
  obtain rfl : n = n2 := Option.some.inj h12
  obtain ⟨arr, t, fr, hw, hle, hlv⟩ := leaves_ok hin hi h13
  obtain ⟨c', hrun, hrep⟩ := load_pack (O := O) (env := env) (tm := tm) (hb' := hb) hw hp (off := off + i * ts.length + j) (by
   rw [h13]
   intro m hm
   have h0 : n ≠ 0 := by omega
   simp only [h0, if_false] at hle
   omega) (fun m x e p => by
   obtain ⟨y, rfl, hy⟩ := hlv m x e
   exact .inl hy) (fun x hx => by
   obtain ⟨m, e⟩ := List.getElem?_of_mem hx
   obtain ⟨y, rfl, hy⟩ := hlv m x e
   rfl)
  exact ⟨rfl, rfl, blk, _, c', rfl, hrun, hrep⟩
 | _ => exact (bad_inv (α := V) (env := env) h2).elim
end
end Go.Abs
end
section
set_option linter.unusedVariables false
set_option linter.unusedSimpArgs false
set_option linter.unusedSectionVars false
namespace Go.Abs
open Go
variable [Globs]
section
variable {A : Nat → Prop} {hz hb : GH} {O : OM} {env : Env} {tm : Nat → Value} {w : World} {P : Program}

theorem RepTup.renH {t : Nat} {q r : List Nat} {xs : List V} {c : Value} (h : RepTup hz hb O w (t :: r) xs c) : RepTup hz hb (Abs.renH t q O) w (q ++ r) xs c := by
 obtain ⟨cs, rfl, hs, hc⟩ := h
 refine ⟨cs, rfl, hs, fun j v a => ?_⟩
 have := (hc j v a).renH (q := q)
 rw [List.append_assoc] at *
 exact this
theorem bif_inv {α : Type} {b : Bool} {x y : M α} {r : Env} {z : Option (List Bool × List Upd × α)} (h : (bif b then x else y) r = z) : (b = true ∧ x r = z) ∨ (b = false ∧ y r = z) := by
 cases b
 ·exact .inr ⟨rfl, h⟩
 ·exact .inl ⟨rfl, h⟩
theorem RepE.target {v : V} {c : Value} (h : RepE hz hb env tm w v c) {l : Loc} (hl : l ∈ mentsV1 v) :
  (∃ ts rows, getS env l.slot = .own ts rows) ∨ (∃ x, getS env l.slot = .f x) ∨ (∃ row, getS env l.slot = .obj row) ∨ (∃ xs, getS env l.slot = .tup xs) ∨ ∃ f xs, getS env l.slot = .clos f xs := by
 have lst : ∀ {l : Loc} {ts : List LT} {rows : Rows} {c : Value}, LstAt env tm w l ts rows c →
   (∃ ts rows, getS env l.slot = .own ts rows) ∨ (∃ x, getS env l.slot = .f x) ∨ (∃ row, getS env l.slot = .obj row) ∨ (∃ xs, getS env l.slot = .tup xs) ∨ ∃ f xs, getS env l.slot = .clos f xs := by
  intro l ts rows c ⟨v, h1, h2⟩
  unfold LocIs at h1
  cases hl : l.leaf with
  | none =>
   rw [hl] at h1
   simp only at h1
   rw [h1.1]
   cases v <;> simp [rowsOf, fail] at h2
   ·exact .inr (.inl ⟨_, rfl⟩)
   ·exact .inl ⟨_, _, rfl⟩
  | some j =>
   rw [hl] at h1
   simp only at h1
   cases hg : getS env l.slot with
   | obj row => exact .inr (.inr (.inl ⟨_, rfl⟩))
   | tup row => exact .inr (.inr (.inr (.inl ⟨_, rfl⟩)))
   | _ => rw [hg] at h1; exact h1.2.elim
 cases v <;> simp only [RepE, mentsV1, List.mem_singleton, List.not_mem_nil] at h hl <;> try subst hl
 ·obtain ⟨ts, rows, h, _⟩ := h; exact lst h
 ·obtain ⟨ts, rows, c', h, _⟩ := h; exact lst h
 ·obtain ⟨row, blk, h, _⟩ := h; exact .inr (.inr (.inl ⟨_, h⟩))
 ·obtain ⟨ts, rows, blk, off, n, cap, h, _⟩ := h; exact lst h
 ·obtain ⟨f, xs, h, _⟩ := h; exact .inr (.inr (.inr (.inr ⟨_, _, h⟩)))
 ·obtain ⟨ts, rows, h, _⟩ := h; exact lst h
 ·obtain ⟨ts, rows, h, _⟩ := h; exact lst h
theorem Pass.left {t : Nat} {l : Loc} (hl : l.slot ≠ t) : Pass env tm w ((env.map (killV (.slot t))).set t .undef) tm w l := by
 have p1 := Pass.kill env tm w (.slot t) l
 refine ⟨fun ts rows c' h => ?_, fun h0 row h => ?_, fun h0 f caps h => ?_⟩
 ·obtain ⟨ts', rows', ⟨v', h3, h4⟩, h6, h5⟩ := p1.lst ts rows c' h
  refine ⟨ts', rows', ⟨v', ?_, h4⟩, h6, h5⟩
  unfold LocIs at h3 ⊢
  rw [getS_set_ne (Ne.symm hl)]
  exact h3
 ·obtain ⟨row', h3, h4, h5⟩ := p1.obj h0 row h
  exact ⟨row', by rw [getS_set_ne (Ne.symm hl)]; exact h3, h4, rfl⟩
 ·obtain ⟨f', caps', h3, h4⟩ := p1.clos h0 f caps h
  exact ⟨f', caps', by rw [getS_set_ne (Ne.symm hl)]; exact h3, rfl⟩
theorem move_ok (I : Inv A hz hb O env tm w) {x : Operand} {dst : Option Tmp} (hd : ∀ d, dst = some d → d < env.length) {cs : List Bool} {us : List Upd} {u : Unit}
  (h : moveM x dst env = some (cs, us, u)) : cs = [] ∧ Done A hz hb (applyU us env) tm w dst (.ok (.value (evO tm x)) w) := by
 obtain ⟨c1, u1, y, c2, u2, h1, h2, rfl, rfl⟩ := bind_inv h
 obtain ⟨rfl, rfl, hyu, hy⟩ := raw_ok I h1
 simp only [applyU, List.nil_append] at h2 ⊢
 have fin : ∀ {v : V} {cs : List Bool} {us : List Upd} {u : Unit}, putD dst v env = some (cs, us, u) → (∀ p, RepS hz hb O env tm w p v (evO tm x)) →
   cs = [] ∧ Done A hz hb (applyU us env) tm w dst (.ok (.value (evO tm x)) w) := fun h hv =>
  done_put I (FzExt.refl _ _ _) (Side.refl _) rfl h hd (Nat.le_refl _) (hv _)
 have go : ∀ {t : Nat} {v : V} {cs : List Bool} {us : List Upd} {u : Unit}, getS env t = v → v ≠ .undef → (do goneSlot t; putD dst v : M Unit) env = some (cs, us, u) →
   (∀ O', (∀ r, O' = renH t [env.length] O → RepS hz hb O' env tm w ([env.length] ++ r) v (tm t) → True)) →
   (RepS hz hb (renH t [env.length] O) (applyU [.kill (.slot t), .set t .undef] env) tm w [env.length] v (tm t)) →
   cs = [] ∧ Done A hz hb (applyU us env) tm w dst (.ok (.value (tm t)) w) := by
  intro t v cs us u hg hvu h _ hv
  obtain ⟨c3, u3, a3, c4, u4, h5, h4, rfl, rfl⟩ := bind_inv h
  have h5' := h5
  obtain ⟨rfl, rfl⟩ := upd_inv h5'
  obtain ⟨_, S, hu⟩ := goneSlot_ok I h5 (getS_lt hg hvu)
  have hlen : (applyU [.kill (.slot t), .set t .undef] env).length = env.length := by simp [applyU, apply1]
  obtain ⟨rfl, hD⟩ := done_put (M := env.length) (w := w) (S.inv.renH hu [env.length]) (FzExt.refl A hz hb) (Side.refl _) (rfl : (Result.ok (.value (tm t)) w : Result Next) = _) h4 (by rw [hlen]; exact hd) (by rw [hlen]; exact Nat.le_refl _) hv
  rw [applyU_append]
  exact ⟨rfl, hD⟩
 rcases hy with ⟨t, rfl, rfl, htl, hr⟩ | ⟨hx, hr, hk⟩
 ·cases hg : getS env t with
  | tup xs =>
   rw [hg] at h2 hr
   exact go hg (by simp) h2 (fun _ _ _ _ => trivial) (RepTup.renH (r := []) hr)
  | agg xs =>
   rw [hg] at h2 hr
   simp only at h2
   obtain ⟨c3, u3, a3, c4, u4, h5, h4, rfl, rfl⟩ := bind_inv h2
   rcases bif_inv h5 with ⟨hb', h5⟩ | ⟨hb', h5⟩
   ·have h5' := h5
    obtain ⟨rfl, rfl⟩ := upd_inv h5'
    obtain ⟨_, S, hu⟩ := goneSlot_ok I h5 htl
    have hlen : (applyU [.kill (.slot t), .set t .undef] env).length = env.length := by simp [applyU, apply1]
    -- what leans on slots does so still
    have hE : RepAggE hz hb O (applyU [.kill (.slot t), .set t .undef] env) tm w [t] xs (evO tm (.tmp t)) := by
     obtain ⟨vs, hvs, hsz, hlv⟩ := hr
     refine ⟨vs, hvs, hsz, fun j v e => (hlv j v e).imp id fun h => h.pass (GH.le_refl _) (GH.le_refl _) fun l hl => Pass.left fun e2 => ?_⟩
     rcases h.target hl with ⟨_, _, h3⟩ | ⟨_, h3⟩ | ⟨_, h3⟩ | ⟨_, h3⟩ | ⟨_, _, h3⟩ <;> rw [e2, hg] at h3 <;> cases h3
    obtain ⟨vs, hvs, hsz, hlv⟩ := hE
    obtain ⟨rfl, hD⟩ := done_put (M := env.length) (w := w) (v := .agg xs) (c := evO tm (.tmp t)) (S.inv.renH hu [env.length]) (FzExt.refl A hz hb) (Side.refl _) (rfl : (Result.ok (.value (evO tm (.tmp t))) w : Result Next) = _) h4 (by rw [hlen]; exact hd) (by rw [hlen]; exact Nat.le_refl _)
     ⟨vs, hvs, hsz, fun j v e => (hlv j v e).imp (fun h => by have := h.renH (q := [env.length]); simpa using this) id⟩
    rw [applyU_append]
    exact ⟨rfl, hD⟩
   ·obtain ⟨rfl, rfl, _⟩ := pure_inv h5
    simp only [applyU, List.nil_append] at h4 ⊢
    exact fin h4 (fun p => aggE_any hr hb' p)
  | clos f xs =>
   rw [hg] at h2 hr
   rcases bif_inv h2 with ⟨hp, h2⟩ | ⟨_, h2⟩
   ·exact fin h2 (fun p => clos_any hr hp p)
   ·exact (bad_inv h2).elim
  | sit s n => rw [hg] at hr; rcases hr with hr | hr <;> exact hr.elim
  | undef => exact (hyu hg).elim
  | _ =>
   rw [hg] at h2
   have ha := fun p => (alias_ok I (t := t) (by rw [hg]; first | exact .inl rfl | exact .inr (.inl ⟨_, _, rfl⟩) | exact .inr (.inr ⟨_, rfl⟩)) p).1
   rw [hg] at ha
   exact fin h2 ha
 ·rcases hk with ⟨c, rfl, hc, rfl⟩ | ⟨vs, rfl, rfl⟩ | ⟨f, rfl, rfl⟩ | ⟨g, ts, rows, rfl, rfl⟩
  ·exact fin h2 hr
  ·exact fin h2 hr
  ·exact fin h2 hr
  ·exact fin h2 hr
end
end Go.Abs
end
section
set_option linter.unusedVariables false
set_option linter.unusedSimpArgs false
set_option linter.unusedSectionVars false
namespace Go.Abs
open Go
variable [Globs]
section
variable {A : Nat → Prop} {hz hb : GH} {O : OM} {env : Env} {tm : Nat → Value} {w : World} {P : Program}

theorem run_eqGuard_int (op : BinOp) (t : TypeId) (ox oy : Operand) (k k' : IntKind) (a b : Int) : (eqGuard op t ox oy (.int k a) (.int k' b)).run P w = .ok () w := by
 unfold eqGuard; split <;> rfl
theorem run_eqGuard_str (op : BinOp) (t : TypeId) (ox oy : Operand) (a b : ByteArray) : (eqGuard op t ox oy (.string a) (.string b)).run P w = .ok () w := by
 unfold eqGuard; split <;> rfl
theorem litBin_run {op : BinOp} {x y r : Value} {cs : List Bool} (t : TypeId) (ox oy : Operand) (h : litBin op x y = some (cs, r)) (hcs : ∀ b ∈ cs, b = true) :
  (do eqGuard op t ox oy x y; binOp op t x y : Sem Value).run P w = .ok r w := by
 unfold litBin at h
 split at h
 ·simp only [Option.some.injEq, Prod.mk.injEq] at h
  obtain ⟨rfl, rfl⟩ := h
  have h0 := hcs _ (List.mem_singleton.2 rfl)
  simp only [decide_eq_true_eq] at h0
  rename_i k x k' y
  have : ¬ y < 0 := by omega
  simp [run_eqGuard_int, binOp, Op.shift, this]
 ·simp only [Option.some.injEq, Prod.mk.injEq] at h
  obtain ⟨rfl, rfl⟩ := h
  have h0 := hcs _ (List.mem_singleton.2 rfl)
  simp only [decide_eq_true_eq] at h0
  rename_i k x k' y
  have : ¬ y < 0 := by omega
  simp [run_eqGuard_int, binOp, Op.shift, this]
 ·rename_i k x k' y h1 h2
  split at h
  ·rename_i hk
   subst hk
   simp only [Sem.run_bind, run_eqGuard_int, Result.andThen_ok]
   cases op <;> simp only [Option.some.injEq, Prod.mk.injEq, fail, reduceCtorEq] at h <;> try (first | exact (h1 _ _ _ _ rfl rfl rfl).elim | exact (h2 _ _ _ _ rfl rfl rfl).elim)
   all_goals obtain ⟨rfl, rfl⟩ := h
   case quo | rem =>
    have h0 := hcs _ (List.mem_singleton.2 rfl)
    simp only [decide_eq_true_eq] at h0
    simp [binOp, Op.intDiv, h0]
   all_goals first
    | (simp [binOp, Op.intArith, mulK_eq]; done)
    | (simp [binOp, Op.intBits, bitsOp]; done)
    | (simp [binOp, Op.intCmp]; done)
  ·cases h
 ·rename_i x y
  simp only [Sem.run_bind, run_eqGuard_str, Result.andThen_ok]
  cases op <;> simp only [Option.some.injEq, Prod.mk.injEq, fail, reduceCtorEq] at h
  all_goals obtain ⟨rfl, rfl⟩ := h
  case add =>
   have h0 : x.size + y.size ≤ 2 ^ 40 := of_decide_eq_true (hcs _ (List.mem_singleton.2 rfl))
   have hb : (x.size : Int) + (y.size : Int) ≤ 9223372036854775807 := by omega
   have e : IntKind.i64.max = 9223372036854775807 := rfl
   simp [binOp, Op.stringOp, e, hb]
  all_goals (simp [binOp, Op.stringOp]; done)
 ·cases h
end
end Go.Abs
end
section
set_option linter.unusedVariables false
set_option linter.unusedSimpArgs false
set_option linter.unusedSectionVars false
namespace Go.Abs
open Go
variable [Globs]
section
variable {A : Nat → Prop} {hz hb : GH} {O : OM} {env : Env} {tm : Nat → Value} {w : World} {P : Program}

theorem eqTd_run {d : Nat} {t : TypeId} {x y : V} {b : Bool} {c1 c2 : Value} (h : leafEq (und P t) x y = some b)
  (h1 : ∀ v, x = .f (.lit v) → c1 = v) (h2 : ∀ v, y = .f (.lit v) → c2 = v) : (Op.equalIn (d + 1) t c1 c2).run P w = .ok b w ∧ (isAggT P t = false) := by
 unfold leafEq at h
 split at h
 ·rename_i hu
  split at h
  ·rename_i hk
   subst hk
   cases h
   rw [h1 _ rfl, h2 _ rfl]
   exact ⟨by simp [Op.equalIn, run_underlying hu], by simp [isAggT, hu]⟩
  ·cases h
 ·rename_i hu
  cases h
  rw [h1 _ rfl, h2 _ rfl]
  exact ⟨by simp [Op.equalIn, run_underlying hu], by simp [isAggT, hu]⟩
 ·rename_i hu
  cases h
  rw [h1 _ rfl, h2 _ rfl]
  exact ⟨by simp [Op.equalIn, run_underlying hu], by simp [isAggT, hu]⟩
 ·cases h
theorem leafEq_und {t : TypeId} {x y : V} {b : Bool} (h : leafEq (und P t) x y = some b) : ∃ d, P.underlying t = some d := by
 unfold leafEq at h
 unfold und at h
 cases hu : P.underlying t with
 | none => rw [hu] at h; simp [fail] at h
 | some d => exact ⟨d, rfl⟩
theorem run_part {t : TypeId} {d : TypeDesc} (hu : P.underlying t = some d) (ha : isAggT P t = false) {cs : Array Value} {off : Nat} (h : off < cs.size) :
  (part t cs off).run P w = .ok (cs.getD off undef) w := by
 unfold part
 simp only [Sem.run_bind, run_isAggT hu, ha, Result.andThen_ok, Bool.false_eq_true, if_false]
 have : cs[off]? = some (cs.getD off undef) := by simp [Array.getD_eq_getD_getElem?, h]
 rw [this]
 rfl
/-- - -/
def Lits (xs : List V) (cs : Array Value) (n : Nat) : Prop := ∀ (j : Nat) (v : Value), xs[j]? = some (.f (.lit v)) → cs.getD (n + j) undef = v
theorem RepAggE.lits {p : List Nat} {xs : List V} {cs : Array Value} (h : RepAggE hz hb O env tm w p xs (.agg cs)) : cs.size = xs.length ∧ Lits xs cs 0 := by
 obtain ⟨cs', h1, hs, hc⟩ := h
 cases h1
 refine ⟨hs, fun j v e => ?_⟩
 rw [Nat.zero_add]
 rcases hc j _ e with h | h
 ·cases h; rfl
 ·exact h.elim
theorem fieldsEq_run {d : Nat} {cs ds : Array Value} : ∀ {n : Nat} {fs : List Field} {xs ys : List V} {b : Bool}, fieldsEq P n fs xs ys = some b → Lits xs cs n → Lits ys ds n →
  n + xs.length ≤ cs.size → n + ys.length ≤ ds.size → (Op.eqFields (d + 1) cs ds fs).run P w = .ok b w
 | n, [], [], [], b, h, _, _, _, _ => by simp only [fieldsEq, Option.some.injEq] at h; subst h; rfl
 | n, f :: fs, x :: xs, y :: ys, b, h, h1, h2, hs1, hs2 => by
  simp only [fieldsEq] at h
  split at h
  ·rename_i hf
   simp only [Bool.and_eq_true, bne_iff_ne, ne_eq, beq_iff_eq] at hf
   split at h
   ·rename_i a b' ha hb'
    cases h
    have ih := fieldsEq_run (d := d) (cs := cs) (ds := ds) hb' (fun j v e => by rw [show n + 1 + j = n + (j + 1) by omega]; exact h1 (j + 1) v (by simpa using e))
     (fun j v e => by rw [show n + 1 + j = n + (j + 1) by omega]; exact h2 (j + 1) v (by simpa using e)) (by simp at hs1; omega) (by simp at hs2; omega)
    obtain ⟨td, hu⟩ := leafEq_und ha
    obtain ⟨he, hag⟩ := eqTd_run (d := d) (w := w) ha (fun v e => h1 0 v (by simp [e])) (fun v e => h2 0 v (by simp [e]))
    simp only [List.length_cons] at hs1 hs2
    simp only [Nat.add_zero] at he
    have p1 := run_part (w := w) hu hag (cs := cs) (off := n) (by omega)
    have p2 := run_part (w := w) hu hag (cs := ds) (off := n) (by omega)
    rw [Op.eqFields, if_pos hf.1, hf.2]
    simp only [Sem.run_bind, p1, p2, he, Result.andThen_ok]
    cases a
    ·simp
    ·simpa using ih
   ·cases h
  ·cases h
 | n, [], [], _ :: _, b, h, _, _, _, _ => by simp [fieldsEq, fail] at h
 | n, [], _ :: _, _, b, h, _, _, _, _ => by cases ‹List V› <;> simp [fieldsEq, fail] at h
 | n, _ :: _, [], _, b, h, _, _, _, _ => by cases ‹List V› <;> simp [fieldsEq, fail] at h
 | n, _ :: _, _ :: _, [], b, h, _, _, _, _ => by simp [fieldsEq, fail] at h
end
end Go.Abs
end
section
set_option linter.unusedVariables false
set_option linter.unusedSimpArgs false
set_option linter.unusedSectionVars false
namespace Go.Abs
open Go
variable [Globs]
section
variable {A : Nat → Prop} {hz hb : GH} {O : OM} {env : Env} {tm : Nat → Value} {w : World} {P : Program}

theorem itemsEq_run {d : Nat} {e : TypeId} {cs ds : Array Value} : ∀ {n : Nat} {xs ys : List V} {b : Bool}, itemsEq (und P e) xs ys = some b → Lits xs cs n → Lits ys ds n →
  n + xs.length ≤ cs.size → n + ys.length ≤ ds.size → (Op.eqItems (d + 1) e 1 cs ds (List.range' n xs.length)).run P w = .ok b w
 | n, [], [], b, h, _, _, _, _ => by simp only [itemsEq, Option.some.injEq] at h; subst h; rfl
 | n, x :: xs, y :: ys, b, h, h1, h2, hs1, hs2 => by
  simp only [itemsEq] at h
  split at h
  ·rename_i a b' ha hb'
   cases h
   have ih := itemsEq_run (d := d) (cs := cs) (ds := ds) (n := n + 1) hb' (fun j v e => by rw [show n + 1 + j = n + (j + 1) by omega]; exact h1 (j + 1) v (by simpa using e))
    (fun j v e => by rw [show n + 1 + j = n + (j + 1) by omega]; exact h2 (j + 1) v (by simpa using e)) (by simp at hs1; omega) (by simp at hs2; omega)
   obtain ⟨td, hu⟩ := leafEq_und ha
   obtain ⟨he, hag⟩ := eqTd_run (d := d) (w := w) ha (fun v e => h1 0 v (by simp [e])) (fun v e => h2 0 v (by simp [e]))
   simp only [List.length_cons] at hs1 hs2
   simp only [Nat.add_zero] at he
   have p1 := run_part (w := w) hu hag (cs := cs) (off := n) (by omega)
   have p2 := run_part (w := w) hu hag (cs := ds) (off := n) (by omega)
   simp only [List.length_cons, List.range'_succ, Op.eqItems, Sem.run_bind, Nat.mul_one, p1, p2, he, Result.andThen_ok]
   cases a
   ·simp
   ·simpa using ih
  ·cases h
 | n, [], _ :: _, b, h, _, _, _, _ => by simp [itemsEq, fail] at h
 | n, _ :: _, [], b, h, _, _, _, _ => by simp [itemsEq, fail] at h
theorem leafEq_len {fs : List Field} {n : Nat} {xs ys : List V} {b : Bool} (h : fieldsEq P n fs xs ys = some b) : xs.length = fs.length ∧ ys.length = fs.length := by
 induction fs generalizing n xs ys b with
 | nil =>
  cases xs <;> cases ys <;> simp [fieldsEq, fail] at h ⊢
 | cons f fs ih =>
  cases xs with
  | nil => cases ys <;> simp [fieldsEq, fail] at h
  | cons x xs =>
   cases ys with
   | nil => simp [fieldsEq, fail] at h
   | cons y ys =>
    simp only [fieldsEq] at h
    split at h
    ·split at h
     ·rename_i h2
      have := ih h2
      simp [this.1, this.2]
     ·cases h
    ·cases h
theorem itemsEq_len {d : Option TypeDesc} : ∀ {xs ys : List V} {b : Bool}, itemsEq d xs ys = some b → ys.length = xs.length
 | [], [], _, _ => rfl
 | x :: xs, y :: ys, b, h => by
  simp only [itemsEq] at h
  split at h
  ·rename_i h2
   simp [itemsEq_len h2]
  ·cases h
 | [], _ :: _, _, h => by simp [itemsEq, fail] at h
 | _ :: _, [], _, h => by simp [itemsEq, fail] at h
theorem aggEq_run {t : TypeId} {xs ys : List V} {b : Bool} (h : aggEq P t xs ys = some b) {cs ds : Array Value} (h1 : Lits xs cs 0) (h2 : Lits ys ds 0) (hs1 : cs.size = xs.length) (hs2 : ds.size = ys.length) :
  (Op.equal t (.agg cs) (.agg ds)).run P w = .ok b w ∧ P.eqGuardType P.depth t = false := by
 unfold aggEq at h
 unfold Op.equal Op.maxDepth
 split at h
 ·rename_i fs hu
  split at h
  ·rename_i hg
   simp only [Bool.and_eq_true, Bool.not_eq_true'] at hg
   have hf : P.fieldsOf t = fs := by unfold und at hu; simp [Program.fieldsOf, hu]
   refine ⟨?_, hg.2⟩
   rw [run_equalIn_struct w 9999 t cs ds (by rw [hf]; exact hu) hg.1, hf]
   exact fieldsEq_run (d := 9998) h h1 h2 (by omega) (by omega)
  ·cases h
 ·rename_i n e hu
  split at h
  ·rename_i hg
   simp only [Bool.and_eq_true, Bool.not_eq_true', beq_iff_eq] at hg
   obtain ⟨⟨hg1, hg2⟩, rfl⟩ := hg
   obtain ⟨i, hi, hsz⟩ := sz_info hg2
   refine ⟨?_, hg1⟩
   have := itemsEq_run (d := 9998) (w := w) (n := 0) h h1 h2 (by omega) (by have := itemsEq_len h; omega)
   rw [run_equalIn_array w 9999 cs ds hu hi]
   have hc : P.cellsOf e = 1 := by simp [Program.cellsOf, hi, hsz]
   rw [hc, List.range_eq_range']
   exact this
  ·cases h
 ·cases h
theorem litEq_in {t : TypeId} {x y : Value} {b : Bool} (h : litEq (und P t) x y = some b) (d : Nat) :
  (Op.equalIn (d + 1) t x y).run P w = .ok b w := by
 unfold litEq at h
 split at h
 all_goals first | cases h | skip
 all_goals
  rename_i hu
  simp [Op.equalIn, run_underlying hu]
theorem litEq_run {t : TypeId} {x y : Value} {b : Bool} (h : litEq (und P t) x y = some b) :
  (Op.equal t x y).run P w = .ok b w ∧ (∀ op ox oy, (eqGuard op t ox oy x y).run P w = .ok () w) ∧ binOp .eql t x y = (do pure (.bool (← Op.equal t x y))) ∧ binOp .neq t x y = (do pure (.bool (!(← Op.equal t x y)))) := by
 refine ⟨litEq_in h 9999, ?_⟩
 unfold litEq at h
 split at h
 all_goals first | cases h | skip
 all_goals
  refine ⟨fun op ox oy => ?_, rfl, rfl⟩
  unfold eqGuard
  split <;> rfl
theorem ptrNil_in {t e : TypeId} {a : Addr} (hu : P.underlying t = some (.pointer e)) (d : Nat) :
  (Op.equalIn (d + 1) t (.pointer (some a)) (.pointer none)).run P w = .ok false w := by
 simp [Op.equalIn, run_underlying hu]
theorem sliceNil_in {t e : TypeId} {a : Addr} {n cap : Nat} (hu : P.underlying t = some (.slice e)) (d : Nat) :
  (Op.equalIn (d + 1) t (.slice (some a) n cap) (.slice none 0 0)).run P w = .ok false w := by
 simp [Op.equalIn, run_underlying hu]
theorem funNil_in {t : TypeId} {x y z} {f : FuncId} {cs : Array Value} (hu : P.underlying t = some (.func x y z)) (d : Nat) :
  (Op.equalIn (d + 1) t (.func (.func f) #[] cs) .nilFunc).run P w = .ok false w := by
 simp [Op.equalIn, run_underlying hu]
theorem eqRes_run {op : BinOp} {r : Option Bool} {cs : List Bool} {v : V} (h : eqRes op r = some (cs, v)) : ∃ b, r = some b ∧ cs = [] ∧ ((op = .eql ∧ v = vBool b) ∨ (op = .neq ∧ v = vBool (!b))) := by
 unfold eqRes at h
 split at h
 ·simp only [Option.some.injEq, Prod.mk.injEq] at h
  exact ⟨_, rfl, h.1.symm, .inl ⟨rfl, h.2.symm⟩⟩
 ·simp only [Option.some.injEq, Prod.mk.injEq] at h
  exact ⟨_, rfl, h.1.symm, .inr ⟨rfl, h.2.symm⟩⟩
 ·cases h
/-- - -/
theorem rd_ok (I : Inv A hz hb O env tm w) {x : Operand} {cs : List Bool} {us : List Upd} {v : V} (h : rd x env = some (cs, us, v)) :
  cs = [] ∧ us = [] ∧ ∃ p, RepS hz hb O env tm w p v (evO tm x) ∧ (freeV v = true → ∀ q, RepS hz hb O env tm w q v (evO tm x)) ∧ (∀ row, v ≠ .obj row) ∧ (∀ ts rows, v ≠ .own ts rows) := by
 cases x with
 | tmp t =>
  obtain ⟨c1, u1, y, c2, u2, h1, h2, rfl, rfl⟩ := bind_inv h
  obtain ⟨rfl, rfl, rfl, hu⟩ := slotM_inv h1
  obtain ⟨rfl, rfl, rfl⟩ := pure_inv h2
  refine ⟨rfl, rfl, ?_⟩
  have hr := I.rep t
  cases hg : getS env t with
  | own ts rows =>
   have ha := fun q => (alias_ok I (t := t) (.inr (.inl ⟨ts, rows, hg⟩)) q).1
   rw [hg] at ha
   exact ⟨[t], ha _, fun _ q => ha q, by simp only [aliasV, mx]; cases isMp ts <;> cases isNx ts <;> simp, by simp only [aliasV, mx]; cases isMp ts <;> cases isNx ts <;> simp⟩
  | obj row =>
   have ha := fun q => (alias_ok I (t := t) (.inr (.inr ⟨row, hg⟩)) q).1
   rw [hg] at ha
   exact ⟨[t], ha _, fun _ q => ha q, by simp [aliasV], by simp [aliasV]⟩
  | _ =>
   rw [hg] at hr
   exact ⟨[t], hr, fun hl q => free_S hl hr, by simp [aliasV], by simp [aliasV]⟩
 | const x =>
  change raw (.const x) env = _ at h
  obtain ⟨rfl, rfl, _, hy⟩ := raw_ok I h
  rcases hy with ⟨t, ht, _⟩ | ⟨hx, hr, hk⟩
  ·cases ht
  ·refine ⟨rfl, rfl, [], hr [], fun _ q => hr q, ?_, ?_⟩ <;>
   ·rcases hk with ⟨c, _, _, rfl⟩ | ⟨vs, _, rfl⟩ | ⟨f, _, rfl⟩ | ⟨g, ts, rows, _, rfl⟩ <;> simp
 | global g =>
  change raw (.global g) env = _ at h
  obtain ⟨rfl, rfl, _, hy⟩ := raw_ok I h
  rcases hy with ⟨t, ht, _⟩ | ⟨hx, hr, hk⟩
  ·cases ht
  ·refine ⟨rfl, rfl, [], hr [], fun _ q => hr q, ?_, ?_⟩ <;>
   ·rcases hk with ⟨c, _, _, rfl⟩ | ⟨vs, _, rfl⟩ | ⟨f, _, rfl⟩ | ⟨g, ts, rows, _, rfl⟩ <;> simp
 | func f =>
  change raw (.func f) env = _ at h
  obtain ⟨rfl, rfl, _, hy⟩ := raw_ok I h
  rcases hy with ⟨t, ht, _⟩ | ⟨hx, hr, hk⟩
  ·cases ht
  ·refine ⟨rfl, rfl, [], hr [], fun _ q => hr q, ?_, ?_⟩ <;>
   ·rcases hk with ⟨c, _, _, rfl⟩ | ⟨vs, _, rfl⟩ | ⟨f, _, rfl⟩ | ⟨g, ts, rows, _, rfl⟩ <;> simp
/-- - -/
theorem ref_ptr {v : V} {c : Value} {p : List Nat} (h : RepS hz hb O env tm w p v c) (hv : isRefV v = true) (hno : ∀ row, v ≠ .obj row) : ∃ a, c = .pointer (some a) := by
 cases v <;> simp [isRefV] at hv
 ·exact (hno _ rfl).elim
 ·rcases h with h | ⟨row, blk, _, _, h⟩
  ·exact h.elim
  ·exact ⟨_, h⟩
 ·rcases h with h | ⟨ts, rows, blk, off, n, cap, _, _, h, _⟩
  ·exact h.elim
  ·exact ⟨_, h⟩
 ·rcases h with h | ⟨blk, off, n, cap, _, _, h⟩
  ·exact h.elim
  ·exact ⟨_, h⟩
theorem fun_func (I : Inv A hz hb O env tm w) {v : V} {c : Value} {p : List Nat} (h : RepS hz hb O env tm w p v c) (hv : isFunV v = true) : ∃ f cs, c = .func (.func f) #[] cs := by
 cases v <;> simp [isFunV] at hv
 case clos => obtain ⟨cs, h, _⟩ := h; exact ⟨_, _, h⟩
 case cref s =>
  rcases h with h | ⟨f, xs, h1, h2⟩
  ·exact h.elim
  ·have hr := I.rep s
   rw [h1] at hr
   obtain ⟨cs, h3, _⟩ := hr
   rw [← h2, h3]
   exact ⟨_, _, rfl⟩
theorem lit_c {v : Value} {c : Value} {p : List Nat} (h : RepS hz hb O env tm w p (.f (.lit v)) c) : c = v := by
 rcases h with h | h
 ·cases h; rfl
 ·exact h.elim
theorem some_ptr {v : V} {c : Value} {p : List Nat} (h : RepS hz hb O env tm w p v c) (hv : someRows v = true) : ∃ ad n cap, c = .slice (some ad) n cap := by
 cases v <;> first | (simp [someRows] at hv; done) | skip
 case f y =>
  cases y with
  | lit v => cases hv
  | lst ts rows =>
   cases rows with
   | nil => cases hv
   | cons r rs =>
    rcases h with h | h
    ·change RepF hz _ _ at h
     cases h
     exact ⟨_, _, _, rfl⟩
    ·exact h.elim
 case bor ts rows =>
  cases rows with
  | nil => cases hv
  | cons r rs =>
   rcases h with h | h
   ·obtain ⟨_, a', cap, rfl, hd⟩ := h
    rcases hd with hd | ⟨blk, off, arr, t', fr, rfl, _⟩
    ·cases hd
    ·exact ⟨_, _, _, rfl⟩
   ·exact h.elim
theorem binV_ok (I : Inv A hz hb O env tm w) {t : TypeId} {op : BinOp} {a b v : V} {cs : List Bool} {c1 c2 : Value} {p q : List Nat} (ox oy : Operand)
  (h : binV P t op a b = some (cs, v)) (hcs : ∀ b ∈ cs, b = true) (ha : RepS hz hb O env tm w p a c1) (hb' : RepS hz hb O env tm w q b c2) (hna : ∀ row, a ≠ .obj row) :
  ∃ r, (do eqGuard op t ox oy c1 c2; binOp op t c1 c2 : Sem Value).run P w = .ok r w ∧ v = .f (.lit r) := by
 unfold binV at h
 split at h
 ·rename_i x y
  obtain rfl := lit_c ha
  obtain rfl := lit_c hb'
  split at h
  ·rename_i cs' r hl
   simp only [Option.some.injEq, Prod.mk.injEq] at h
   obtain ⟨rfl, rfl⟩ := h
   exact ⟨r, litBin_run t ox oy hl hcs, rfl⟩
  ·obtain ⟨b, hb2, rfl, hop⟩ := eqRes_run h
   obtain ⟨h1, h2, h3, h4⟩ := litEq_run (w := w) hb2
   rcases hop with ⟨rfl, rfl⟩ | ⟨rfl, rfl⟩
   ·exact ⟨.bool b, by simp only [Sem.run_bind, h2, Result.andThen_ok, h3, h1, Sem.run_pure], rfl⟩
   ·exact ⟨.bool (!b), by simp only [Sem.run_bind, h2, Result.andThen_ok, h4, h1, Sem.run_pure], rfl⟩
 ·rename_i xs ys
  obtain ⟨b, hb2, rfl, hop⟩ := eqRes_run h
  obtain ⟨vs, rfl, hs1, hl1⟩ := ha
  obtain ⟨ds, rfl, hs2, hl2⟩ := hb'
  have L1 := (RepAggE.lits (hz := hz) (hb := hb) (O := O) (env := env) (tm := tm) (w := w) ⟨vs, rfl, hs1, hl1⟩).2
  have L2 := (RepAggE.lits (hz := hz) (hb := hb) (O := O) (env := env) (tm := tm) (w := w) ⟨ds, rfl, hs2, hl2⟩).2
  obtain ⟨h1, h2⟩ := aggEq_run (w := w) hb2 L1 L2 hs1 hs2
  have hgd : (eqGuard op t ox oy (.agg vs) (.agg ds)).run P w = .ok () w := by
   unfold eqGuard
   simp [h2]
  rcases hop with ⟨rfl, rfl⟩ | ⟨rfl, rfl⟩
  ·exact ⟨.bool b, by simp only [Sem.run_bind, hgd, Result.andThen_ok, binOp, h1, Sem.run_pure], rfl⟩
  ·exact ⟨.bool (!b), by simp only [Sem.run_bind, hgd, Result.andThen_ok, binOp, h1, Sem.run_pure], rfl⟩
 ·split at h
  ·rename_i hc
   simp only [Bool.and_eq_true] at hc
   obtain ⟨b, hb2, rfl, hop⟩ := eqRes_run h
   cases hb2
   obtain rfl := lit_c hb'
   obtain ⟨ad, rfl⟩ := ref_ptr ha hc.2 hna
   have hpt : ∃ e, P.underlying t = some (.pointer e) := by
    have h1 := hc.1
    unfold isPtrD und at h1
    split at h1
    ·rename_i e hu; exact ⟨e, hu⟩
    ·cases h1
   obtain ⟨e, hu⟩ := hpt
   have hgd : (eqGuard op t ox oy (.pointer (some ad)) (.pointer none)).run P w = .ok () w := by
    unfold eqGuard; split <;> rfl
   have heq : (Op.equal t (.pointer (some ad)) (.pointer none)).run P w = .ok false w := ptrNil_in hu 9999
   rcases hop with ⟨rfl, rfl⟩ | ⟨rfl, rfl⟩
   ·exact ⟨.bool false, by simp only [Sem.run_bind, hgd, Result.andThen_ok, binOp, heq, Sem.run_pure], rfl⟩
   ·exact ⟨.bool true, by simp only [Sem.run_bind, hgd, Result.andThen_ok, binOp, heq, Sem.run_pure, Bool.not_false], rfl⟩
  ·cases h
 ·split at h
  ·rename_i hc
   simp only [Bool.and_eq_true] at hc
   obtain ⟨b, hb2, rfl, hop⟩ := eqRes_run h
   cases hb2
   obtain rfl := lit_c hb'
   have hsl := some_ptr ha hc.2
   obtain ⟨ad, n, cap, rfl⟩ := hsl
   have hpt : ∃ e, P.underlying t = some (.slice e) := by
    have h1 := hc.1
    unfold isSliceD und at h1
    split at h1
    ·rename_i e hu; exact ⟨e, hu⟩
    ·cases h1
   obtain ⟨e, hu⟩ := hpt
   have hgd : (eqGuard op t ox oy (.slice (some ad) n cap) (.slice none 0 0)).run P w = .ok () w := by
    unfold eqGuard; split <;> rfl
   have heq : (Op.equal t (.slice (some ad) n cap) (.slice none 0 0)).run P w = .ok false w := sliceNil_in hu 9999
   rcases hop with ⟨rfl, rfl⟩ | ⟨rfl, rfl⟩
   ·exact ⟨.bool false, by simp only [Sem.run_bind, hgd, Result.andThen_ok, binOp, heq, Sem.run_pure], rfl⟩
   ·exact ⟨.bool true, by simp only [Sem.run_bind, hgd, Result.andThen_ok, binOp, heq, Sem.run_pure, Bool.not_false], rfl⟩
  ·cases h
 ·split at h
  ·rename_i hc
   simp only [Bool.and_eq_true] at hc
   obtain ⟨b, hb2, rfl, hop⟩ := eqRes_run h
   cases hb2
   obtain rfl := lit_c hb'
   obtain ⟨f, cs, rfl⟩ := fun_func I ha hc.2
   have hpt : ∃ x y z, P.underlying t = some (.func x y z) := by
    have h1 := hc.1
    unfold isFunD und at h1
    split at h1
    ·rename_i hu; exact ⟨_, _, _, hu⟩
    ·cases h1
   obtain ⟨x, y, z, hu⟩ := hpt
   have hgd : (eqGuard op t ox oy (.func (.func f) #[] cs) .nilFunc).run P w = .ok () w := by
    unfold eqGuard; split <;> rfl
   have heq : (Op.equal t (.func (.func f) #[] cs) .nilFunc).run P w = .ok false w := funNil_in hu 9999
   rcases hop with ⟨rfl, rfl⟩ | ⟨rfl, rfl⟩
   ·exact ⟨.bool false, by simp only [Sem.run_bind, hgd, Result.andThen_ok, binOp, heq, Sem.run_pure], rfl⟩
   ·exact ⟨.bool true, by simp only [Sem.run_bind, hgd, Result.andThen_ok, binOp, heq, Sem.run_pure, Bool.not_false], rfl⟩
  ·cases h
 ·cases h
end
end Go.Abs
end
section
set_option linter.unusedVariables false
set_option linter.unusedSimpArgs false
set_option linter.unusedSectionVars false
namespace Go.Abs
open Go
variable [Globs]

/-! ### reading steps, backwards -/
section
variable {α β : Type} {env : Env} {cs : List Bool} {us : List Upd} {b : β}
theorem opt_bind {x : Option α} {f : α → M β} (h : (opt x >>= f) env = some (cs, us, b)) : ∃ a, x = some a ∧ f a env = some (cs, us, b) := by
 obtain ⟨c1, u1, a, c2, u2, h1, h2, rfl, rfl⟩ := bind_inv h
 obtain ⟨rfl, rfl, hx⟩ := opt_inv h1
 exact ⟨a, hx, h2⟩
theorem slotM_bind {t : Nat} {f : V → M β} (h : (slotM t >>= f) env = some (cs, us, b)) : getS env t ≠ .undef ∧ f (getS env t) env = some (cs, us, b) := by
 obtain ⟨c1, u1, a, c2, u2, h1, h2, rfl, rfl⟩ := bind_inv h
 obtain ⟨rfl, rfl, rfl, hv⟩ := slotM_inv h1
 exact ⟨hv, h2⟩
theorem locM_bind {l : Loc} {f : V → M β} (h : (locM l >>= f) env = some (cs, us, b)) : getLoc env l ≠ .undef ∧ f (getLoc env l) env = some (cs, us, b) := by
 obtain ⟨c1, u1, a, c2, u2, h1, h2, rfl, rfl⟩ := bind_inv h
 obtain ⟨rfl, rfl, rfl, hv⟩ := locM_inv h1
 exact ⟨hv, h2⟩
theorem chk_bind {c : Bool} {f : Unit → M β} (h : (chk c >>= f) env = some (cs, us, b)) : ∃ cs', cs = c :: cs' ∧ f () env = some (cs', us, b) := by
 obtain ⟨c1, u1, a, c2, u2, h1, h2, rfl, rfl⟩ := bind_inv h
 obtain ⟨rfl, rfl⟩ := chk_inv h1
 exact ⟨c2, rfl, h2⟩
theorem checks_bind {bs : List Bool} {f : Unit → M β} (h : (checks bs >>= f) env = some (cs, us, b)) : ∃ cs', cs = bs ++ cs' ∧ f () env = some (cs', us, b) := by
 obtain ⟨c1, u1, a, c2, u2, h1, h2, rfl, rfl⟩ := bind_inv h
 obtain ⟨rfl, rfl⟩ := checks_inv h1
 exact ⟨c2, rfl, h2⟩
theorem still_bind {m : M α} {f : α → M β} (hm : ∀ {cs us a}, m env = some (cs, us, a) → cs = [] ∧ us = []) (h : (m >>= f) env = some (cs, us, b)) : ∃ a, m env = some ([], [], a) ∧ f a env = some (cs, us, b) := by
 obtain ⟨c1, u1, a, c2, u2, h1, h2, rfl, rfl⟩ := bind_inv h
 obtain ⟨rfl, rfl⟩ := hm h1
 exact ⟨a, h1, h2⟩
end
theorem rowsM_inv {l : Loc} {env : Env} {cs : List Bool} {us : List Upd} {x : List LT × Rows} (h : rowsM l env = some (cs, us, x)) : cs = [] ∧ us = [] ∧ rowsOf (getLoc env l) = some x ∧ getLoc env l ≠ .undef := by
 obtain ⟨h1, h2⟩ := locM_bind h
 obtain ⟨rfl, rfl, hx⟩ := opt_inv h2
 exact ⟨rfl, rfl, hx, h1⟩
theorem raw_still {x : Operand} {env : Env} {cs : List Bool} {us : List Upd} {v : V} (h : raw x env = some (cs, us, v)) : cs = [] ∧ us = [] := by
 cases x with
 | tmp t => obtain ⟨rfl, rfl, _⟩ := slotM_inv h; exact ⟨rfl, rfl⟩
 | const c =>
  by_cases hc : ∃ cs, c = .agg cs
  ·obtain ⟨vs, rfl⟩ := hc
   obtain ⟨rfl, rfl, _⟩ := pure_inv h
   exact ⟨rfl, rfl⟩
  ·have h' : (pure (V.f (.lit c)) : M V) env = some (cs, us, v) := by
    cases c <;> first | exact h | exact (hc ⟨_, rfl⟩).elim
   obtain ⟨rfl, rfl, _⟩ := pure_inv h'
   exact ⟨rfl, rfl⟩
 | global g =>
  simp only [raw] at h
  cases hv : Globs.view g with
  | none => rw [hv] at h; exact (bad_inv (α := V) (env := env) h).elim
  | some p =>
   rw [hv] at h
   obtain ⟨rfl, rfl, _⟩ := pure_inv h
   exact ⟨rfl, rfl⟩
 | func f => obtain ⟨rfl, rfl, _⟩ := pure_inv h; exact ⟨rfl, rfl⟩
theorem rd_still {x : Operand} {env : Env} {cs : List Bool} {us : List Upd} {v : V} (h : rd x env = some (cs, us, v)) : cs = [] ∧ us = [] := by
 cases x with
 | tmp t =>
  obtain ⟨_, h⟩ := slotM_bind h
  obtain ⟨rfl, rfl, _⟩ := pure_inv h
  exact ⟨rfl, rfl⟩
 | const c => exact raw_still (x := .const c) h
 | global g => exact raw_still (x := .global g) h
 | func f => exact raw_still (x := .func f) h
theorem raw_bind {β : Type} {env : Env} {cs : List Bool} {us : List Upd} {b : β} {x : Operand} {f : V → M β} (h : (raw x >>= f) env = some (cs, us, b)) : ∃ v, raw x env = some ([], [], v) ∧ f v env = some (cs, us, b) :=
 still_bind raw_still h
theorem rd_bind {β : Type} {env : Env} {cs : List Bool} {us : List Upd} {b : β} {x : Operand} {f : V → M β} (h : (rd x >>= f) env = some (cs, us, b)) : ∃ v, rd x env = some ([], [], v) ∧ f v env = some (cs, us, b) :=
 still_bind rd_still h

section
variable {A : Nat → Prop} {hz hb : GH} {O : OM} {env : Env} {tm : Nat → Value} {w : World} {P : Program}

/-- - -/
theorem int_c {v : V} {c : Value} {p : List Nat} {n : Int} (h : RepS hz hb O env tm w p v c) (hv : asI v = some n) : ∃ k, c = .int k n ∧ v = .f (.lit (.int k n)) := by
 unfold asI at hv
 split at hv
 ·cases hv; exact ⟨_, lit_c h, rfl⟩
 ·cases hv
 ·cases hv
theorem bool_c {v : V} {c : Value} {p : List Nat} {b : Bool} (h : RepS hz hb O env tm w p v c) (hv : asB v = some b) : c = .bool b ∧ v = vBool b := by
 unfold asB at hv
 split at hv
 ·cases hv; exact ⟨lit_c h, rfl⟩
 ·cases hv
 ·cases hv
theorem rawI {I : Inv A hz hb O env tm w} {x : Operand} {v : V} {n : Int} (h : raw x env = some ([], [], v)) (hv : asI v = some n) : ∃ k, evO tm x = .int k n := by
 obtain ⟨_, _, _, h⟩ := raw_ok I h
 rcases h with ⟨t, rfl, rfl, _, hr⟩ | ⟨_, hr, _⟩
 ·obtain ⟨k, h, _⟩ := int_c hr hv; exact ⟨k, h⟩
 ·obtain ⟨k, h, _⟩ := int_c (hr []) hv; exact ⟨k, h⟩
theorem rawB {I : Inv A hz hb O env tm w} {x : Operand} {v : V} {b : Bool} (h : raw x env = some ([], [], v)) (hv : asB v = some b) : evO tm x = .bool b := by
 obtain ⟨_, _, _, h⟩ := raw_ok I h
 rcases h with ⟨t, rfl, rfl, _, hr⟩ | ⟨_, hr, _⟩
 ·exact (bool_c hr hv).1
 ·exact (bool_c (hr []) hv).1
/-- - -/
def Seen (hz : GH) (w : World) (ts : List LT) (rows : Rows) (c : Value) : Prop :=
 ∃ a cap, c = .slice a rows.length cap ∧ (∀ row ∈ rows, TyRow ts row) ∧ (rows ≠ [] → rows.length ≤ cap ∧ ∃ blk off, a = some ⟨blk, off, none⟩ ∧ RowsIn hz w ts rows blk off)
theorem RepB.seen (I : Inv A hz hb O env tm w) {ts : List LT} {rows : Rows} {c : Value} (h : RepB hz hb ts rows c) : Seen hz w ts rows c := by
 have h0 := h
 obtain ⟨hty, a, cap, rfl, h2⟩ := h
 exact ⟨a, cap, rfl, hty, fun hne => (h0.rows I hne).2⟩
theorem RepF.seen (I : Inv A hz hb O env tm w) {ts : List LT} {rows : Rows} {c : Value} (h : RepF hz (.lst ts rows) c) : Seen hz w ts rows c := (h.b I.sub).seen I
theorem Seen.part {ts : List LT} {rows : Rows} {c c' : Value} {off len : Nat} (hr : Seen hz w ts rows c') (hl : off + len ≤ rows.length) (hs : SubOf ts.length off len c' c) :
  Seen hz w ts ((rows.drop off).take len) c := by
 obtain ⟨a, n, cap, b, rfl, h1, rfl, h2⟩ := hs
 obtain ⟨a', cap', hc', hty, hd⟩ := hr
 simp only [Value.slice.injEq] at hc'
 obtain ⟨rfl, rfl, rfl⟩ := hc'
 have hlen := part_len hl
 refine ⟨b, cap - off, by rw [hlen], fun row hr => hty row (part_mem hr), fun hne => ?_⟩
 have hlen0 : len ≠ 0 := by rintro rfl; exact hne (by simp)
 rcases h2 with ⟨_, h2⟩ | h2
 ·omega
 ·obtain ⟨hcap, blk, o, rfl, arr, t, fr, hw, hs, hty2, hc⟩ := hd (by rintro rfl; simp at hl; omega)
  subst h2
  refine ⟨by rw [hlen]; omega, blk, o + off * ts.length, by simp [shiftA, addr_shift], arr, t, fr, hw, ?_, fun row hr => hty row (part_mem hr), fun i j row x h3 h4 => ?_⟩
  ·rw [hlen]
   have : (off + len) * ts.length ≤ rows.length * ts.length := Nat.mul_le_mul_right _ hl
   rw [Nat.add_mul] at this
   omega
  ·obtain ⟨h5, _⟩ := part_get h3
   have := hc (off + i) j row x h5 h4
   rw [Nat.add_mul] at this
   rw [show o + off * ts.length + i * ts.length + j = o + (off * ts.length + i * ts.length) + j by omega]
   exact this
theorem rowsOf_at (I : Inv A hz hb O env tm w) {l : Loc} {ts ts' : List LT} {rows rows' : Rows} {c : Value} (h : LstAt env tm w l ts rows c) (h1 : rowsOf (getLoc env l) = some (ts', rows')) : ts' = ts ∧ rows' = rows := by
 obtain ⟨v, h2, h3⟩ := h
 rw [h2.part] at h1
 rw [h3] at h1
 cases h1
 exact ⟨rfl, rfl⟩
theorem viewM_ok (I : Inv A hz hb O env tm w) {v : V} {ts : List LT} {rows : Rows} {cs : List Bool} {us : List Upd} (h : viewM v env = some (cs, us, (ts, rows))) {c : Value} {p : List Nat}
  (hv : RepS hz hb O env tm w p v c) : cs = [] ∧ us = [] ∧ Seen hz w ts rows c := by
 unfold viewM at h
 split at h
 ·obtain ⟨rfl, rfl, h⟩ := pure_inv h
  cases h
  rcases hv with hv | hv
  ·exact ⟨rfl, rfl, RepF.seen I hv⟩
  ·exact hv.elim
 ·obtain ⟨rfl, rfl, h⟩ := pure_inv h
  cases h
  rcases hv with hv | hv
  ·exact ⟨rfl, rfl, RepB.seen I hv⟩
  ·exact hv.elim
 ·split at h
  ·exact (bad_inv h).elim
  rename_i hnm
  obtain ⟨rfl, rfl, h⟩ := pure_inv h
  cases h
  rcases hv with hv | hv
  ·obtain ⟨hty, a, cap, rfl, hcap, hd⟩ := Own.lst hv (by simpa using hnm)
   refine ⟨rfl, rfl, a, cap, rfl, hty, fun h0 => ⟨hcap, ?_⟩⟩
   rcases hd with hd | ⟨blk, off, arr, t, fr, rfl, hO, hw, hf, hs, hc⟩
   ·exact (h0 (List.eq_nil_of_length_eq_zero (by omega))).elim
   ·exact ⟨blk, off, rfl, arr, t, fr, hw, Nat.le_trans (Nat.add_le_add_left (Nat.mul_le_mul_right _ hcap) _) hs, hty, hc⟩
  ·exact hv.elim
 ·obtain ⟨rfl, rfl, h⟩ := pure_inv h
  cases h
  obtain rfl := lit_c hv
  exact ⟨rfl, rfl, none, 0, rfl, by simp, fun h => (h rfl).elim⟩
 ·obtain ⟨rfl, rfl, h1, h2⟩ := rowsM_inv h
  rcases hv with hv | hv
  ·exact hv.elim
  ·obtain ⟨ts', rows', h3, _, _, hnm⟩ := hv
   obtain ⟨rfl, rfl⟩ := rowsOf_at I h3 h1
   exact ⟨rfl, rfl, h3.rows I hnm⟩
 ·obtain ⟨c1, u1, x, c2, u2, h1, h2, rfl, rfl⟩ := bind_inv h
  obtain ⟨rfl, rfl, h3, h4⟩ := rowsM_inv h1
  obtain ⟨ts', rows'⟩ := x
  obtain ⟨rfl, rfl, h5⟩ := pure_inv h2
  cases h5
  rcases hv with hv | hv
  ·exact hv.elim
  ·obtain ⟨ts', rows', c', h6, h7, h8, _, hnm⟩ := hv
   obtain ⟨rfl, rfl⟩ := rowsOf_at I h6 h3
   exact ⟨rfl, rfl, Seen.part (h6.rows I hnm) h7 h8⟩
 ·exact (bad_inv h).elim
end
end Go.Abs
end
section
set_option linter.unusedVariables false
set_option linter.unusedSimpArgs false
set_option linter.unusedSectionVars false
namespace Go.Abs
open Go
variable [Globs]
section
variable {A : Nat → Prop} {hz hb : GH} {O : OM} {env : Env} {tm : Nat → Value} {w : World} {P : Program}

/-! ### lists whose rows have lists of their own -/
theorem dropF_get : ∀ (j : Nat) (row : List F) (x : F), row[j]? = some x → (dropF j row).headD default = x
 | 0, [], x, h => by simp at h
 | 0, y :: ys, x, h => by simp at h; simp [dropF, h]
 | j + 1, [], x, h => by simp at h
 | j + 1, y :: ys, x, h => dropF_get j ys x (by simpa using h)
theorem fR_get {rows : Rows} {i j : Nat} {row : List F} {x : F} (h1 : rows[i]? = some row) (h2 : row[j]? = some x) : fR rows i j = x.toRows := by
 unfold fR
 have : rowAt rows i = row := by simp [rowAt, List.getD_eq_getElem?_getD, h1]
 rw [this, dropF_get j row x h2]
/-- - -/
theorem ren_leaf {p : List Nat} {m m' : Nat} {q : List Nat} {b : Nat} (h : O b = some (p ++ [m'])) (hm : m' ≠ m) : ren (p ++ [m]) q O b = some (p ++ [m']) :=
 ren_ne h fun s e => by
  rw [List.append_assoc] at e
  have := List.append_cancel_left e
  simp at this
  exact hm this.1
theorem ren_self {p : List Nat} {m : Nat} {q : List Nat} {b : Nat} (h : O b = some p) : ren (p ++ [m]) q O b = some p :=
 ren_ne h fun s e => by
  have := congrArg List.length e
  simp at this
theorem leaf_num {n i j i' j' : Nat} (hj : j < n) (hj' : j' < n) (h : i * n + j = i' * n + j') : i = i' ∧ j = j' := by
 have h1 : i = i' := by
  rcases Nat.lt_trichotomy i i' with h2 | h2 | h2
  ·have := Nat.mul_le_mul_right n (show i + 1 ≤ i' from h2)
   rw [Nat.add_mul] at this
   omega
  ·exact h2
  ·have := Nat.mul_le_mul_right n (show i' + 1 ≤ i from h2)
   rw [Nat.add_mul] at this
   omega
 subst h1
 exact ⟨rfl, by omega⟩
/-- - -/
theorem nx_take (I : Inv A hz hb O env tm w) {l : Loc} {mk : List Nat} {ks ts : List LT} {rows : Rows} {i j : Nat} (hg : getLoc env l = .own (.nx none mk :: ks) rows) (hi : i < rows.length) (hj : hasN mk j = true) (hk : ks[j]? = some (.lst ts)) :
  ∃ blk off cap arr t fr, LocIs env tm w l (.own (.nx none mk :: ks) rows) (.slice (some ⟨blk, off, none⟩) rows.length cap) ∧ w.heap[blk]? = some (.cells arr t fr) ∧ off + i * ks.length + j < arr.size ∧
   Inv A hz hb (ren (locPath l ++ [i * ks.length + j]) [env.length] O) (chLoc env l (.own (.nx (some (i, j)) mk :: ks) rows)) tm w ∧
   Own hz (ren (locPath l ++ [i * ks.length + j]) [env.length] O) w [env.length] ts (fR rows i j) (arr.getD (off + i * ks.length + j) undef) := by
 obtain ⟨c, hl, hown⟩ := I.own_at hg
 obtain ⟨h0, mk', ks', sk, e, hk2, hty, ⟨hts, a, cap, rfl, hcap, hd⟩, hlen, hnest⟩ := hown.nx rfl
 cases e
 have hjn : j < ks.length := (List.getElem?_eq_some_iff.1 hk).1
 have hrow := rowAt_get hi
 have htr := hty _ (List.mem_of_getElem? hrow)
 have hxj : (rowAt rows i)[j]? = some ((rowAt rows i)[j]'(by rw [htr.len]; exact hjn)) := List.getElem?_eq_getElem _
 obtain ⟨t0, ht0, htf⟩ := htr.get hxj
 rw [hk] at ht0
 cases ht0
 obtain ⟨rs, hx⟩ := htf
 rw [hx] at hxj
 have hsi : sk[i]? = some (sk[i]'(by omega)) := List.getElem?_eq_getElem (by omega)
 obtain ⟨y, h5, h6⟩ := hnest i j _ _ _ hrow hsi hxj
 unfold LeafX at h6
 rw [if_pos hj] at h6
 obtain ⟨v, rfl, h6⟩ := h6
 rcases h6 with h6 | ⟨ts', rs', h7, hm, h8⟩
 ·cases h6
 cases h7
 rcases hd with hd | ⟨blk, off, arr, t, fr, rfl, hO, hw, hf, hs, hc⟩
 ·omega
 rw [anyK_len] at hs hc
 have hv := hc i j _ _ hsi h5
 have hvv : arr.getD (off + i * ks.length + j) undef = v := by
  generalize arr.getD (off + i * ks.length + j) undef = cc at hv
  cases hv
  rfl
 have hle : (i + 1) * ks.length ≤ cap * ks.length := Nat.mul_le_mul_right _ (by omega)
 rw [Nat.add_mul] at hle
 refine ⟨blk, off, cap, arr, t, fr, by rw [← hlen]; exact hl, hw, by omega, ?_, ?_⟩
 ·have hx1 : Own hz (ren (locPath l ++ [i * ks.length + j]) [env.length] O) w (locPath l) (.nx (some (i, j)) mk :: ks) rows (.slice (some ⟨blk, off, none⟩) sk.length cap) := by
   refine .inr (.inr ⟨rfl, some (i, j), mk, ks, sk, rfl, hk2, hty, ⟨hts, _, cap, rfl, hcap, .inr ⟨blk, off, arr, t, fr, rfl, ren_self hO, hw, hf, by rw [anyK_len]; exact hs, by rw [anyK_len]; exact hc⟩⟩, hlen, fun i' j' row srow x e1 e2 e3 => ?_⟩)
   obtain ⟨y, h9, h10⟩ := hnest i' j' row srow x e1 e2 e3
   refine ⟨y, h9, ?_⟩
   unfold LeafX at h10 ⊢
   split
   ·rename_i hm'
    rw [if_pos hm'] at h10
    obtain ⟨v', rfl, h10⟩ := h10
    refine ⟨v', rfl, ?_⟩
    rcases h10 with h10 | ⟨ts2, rs2, rfl, hm2, h11⟩
    ·cases h10
    ·by_cases hij : i' * ks.length + j' = i * ks.length + j
     ·left
      have hj' : j' < ks.length := by
       have := (List.getElem?_eq_some_iff.1 e3).1
       rw [(hty row (List.mem_of_getElem? e1)).len] at this
       exact this
      obtain ⟨rfl, rfl⟩ := leaf_num hj' hjn hij
      rfl
     ·exact .inr ⟨ts2, rs2, rfl, hm2, h11.re fun b e => ren_leaf e hij⟩
   ·rename_i hm'
    rw [if_neg hm'] at h10
    exact h10
  refine ⟨I.sub, I.agree, ren_owned _ _ I.owned, I.fresh, I.glob, ?_⟩
  refine rep_chLoc I.rep (fun t ht => Keeps.ren _ _ fun r s e => ht (locPath_slotA (by rw [List.append_assoc] at e; exact e)).symm) (fun j' i' hj' hi' => Keeps.ren _ _ fun r s e => hi' (locPath_leafA hj' (by rw [List.append_assoc] at e; exact e)))
   (fun j' b hj' e => ren_ne e (by intro s e2; unfold locPath at e2; rw [hj'] at e2; simp at e2)) (fun t m _ => ?_) (by simp) hl hx1 (fun hlf => ?_)
  ·by_cases hm2 : l = m
   ·subst hm2; exact Pass.selfK hg rfl (.inr ⟨rfl, rfl, rfl⟩) (fun _ => rfl)
   ·refine Pass.chLoc hm2 (fun row h1 h2 h3 h4 => ?_) ⟨_, _, hg⟩
    exact hm2 (by cases l; cases m; simp_all)
  ·left
   have : locPath l = [l.slot] := by unfold locPath; rw [hlf]
   rw [← this]; exact hx1
 ·rw [fR_get hrow hxj, hvv]
  refine .inl ⟨hm, h8.re fun b e => ?_⟩
  have := ren_eq (q := [env.length]) (s := []) (O := O) (by simpa using e)
  simpa using this
theorem loadX_inv {t : TypeId} {a v : V} {cs : List Bool} {us : List Upd} (h : loadX P t a env = some (cs, us, v)) :
  loadV P t a env = some (cs, us, v) ∨ ∃ l i j mk ks ts rows, a = .eref l i j ∧ getLoc env l = .own (.nx none mk :: ks) rows ∧ hasN mk j = true ∧ ks[j]? = some (.lst ts) ∧ sz P t = some 1 ∧ isSliceD (und P t) = true ∧ cs = [] ∧
   applyU us env = chLoc env l (.own (.nx (some (i, j)) mk :: ks) rows) ∧ v = .own ts (fR rows i j) := by
 unfold loadX at h
 split at h
 ·rename_i l i j
  obtain ⟨c1, u1, y, c2, u2, h1, h2, rfl, rfl⟩ := bind_inv h
  obtain ⟨rfl, rfl, hy, _⟩ := locM_inv h1
  simp only [applyU, List.nil_append] at h2 ⊢
  split at h2
  ·rename_i ts rows hu
   unfold loadNx at h2
   split at h2
   ·rename_i h0 mk ks
    cases hc : (hasN mk j && (sz P t == some 1 && isSliceD (und P t))) with
    | false => rw [hc] at h2; exact .inl h2
    | true =>
     rw [hc] at h2
     simp only [Bool.and_eq_true, beq_iff_eq] at hc
     right
     simp only [cond_true] at h2
     unfold takeNx at h2
     cases h0 with
     | some z => exact (bad_inv (α := V) (env := env) h2).elim
     | none =>
      cases hk : ks[j]? with
      | none => rw [hk] at h2; exact (bad_inv (α := V) (env := env) h2).elim
      | some k0 =>
       rw [hk] at h2
       cases k0 with
       | lst ts =>
        obtain ⟨c3, u3, y3, c4, u4, h3, h4, rfl, rfl⟩ := bind_inv h2
        obtain ⟨rfl, h5⟩ := setLoc_inv h3
        obtain ⟨rfl, rfl, rfl⟩ := pure_inv h4
        refine ⟨l, i, j, mk, ks, ts, rows, rfl, hy, hc.1, hk, hc.2.1, hc.2.2, rfl, ?_, rfl⟩
        rw [List.append_nil]
        exact h5
       | _ => exact (bad_inv (α := V) (env := env) h2).elim
   ·exact .inl h2
  ·exact .inl h2
 ·exact .inl h
end
end Go.Abs
end
