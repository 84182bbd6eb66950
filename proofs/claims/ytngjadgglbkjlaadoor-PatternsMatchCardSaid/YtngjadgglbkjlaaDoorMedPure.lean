/- A part of the proofs of the seat YtngjadgglbkjlaaDoor: no statement of the seat stands here. -/
import Derived.Lib.Strings
import Derived.KernelRfl
import Derived.Lib.Bytealg
import Derived.Test.YtngjadgglbkjlaaDoorMedTyped1
section
set_option linter.unusedVariables false
set_option linter.unusedSimpArgs false
set_option linter.unusedSectionVars false
namespace Go.Proofs.YtngjadgglbkjlaaDoor.Med
open Go Go.Abs Go.Proofs
set_option linter.unusedVariables false
set_option linter.unusedSimpArgs false
section
variable {α : Type} {a b : α}
theorem dT {p : Prop} [Decidable p] (h : p) : (bif decide p then a else b) = a := by rw [decide_eq_true h]; rfl
theorem dF {p : Prop} [Decidable p] (h : ¬p) : (bif decide p then a else b) = b := by rw [decide_eq_false h]; rfl
theorem eT {x y : Int} (h : x = y) : (bif x == y then a else b) = a := by simp [h]
theorem nT {x y : Int} (h : ¬ x = y) : (bif x != y then a else b) = a := by rw [bne_iff_ne.2 h]; rfl
theorem nF {x y : Int} (h : x = y) : (bif x != y then a else b) = b := by subst h; rw [bne_self_eq_false]; rfl
theorem eF {x y : Int} (h : ¬ x = y) : (bif x == y then a else b) = b := by rw [beq_false_of_ne h]; rfl
theorem andC {p q : Bool} : (bif p && q then a else b) = bif p then (bif q then a else b) else b := by cases p <;> rfl
theorem orC {p q : Bool} : (bif p || q then a else b) = bif p then a else (bif q then a else b) := by cases p <;> rfl
theorem notC {p : Bool} : (bif !p then a else b) = bif p then b else a := by cases p <;> rfl
theorem bT {c : Bool} (h : c = true) : (bif c then a else b) = a := by subst h; rfl
theorem bF {c : Bool} (h : c = false) : (bif c then a else b) = b := by subst h; rfl
end
theorem w64 {x : Int} (h0 : -9223372036854775808 ≤ x) (h1 : x < 9223372036854775808) : IntKind.wrap .i64 x = x := by
  rw [IntKind.wrap_i64]; omega
theorem w64b (x : Int) : -9223372036854775808 ≤ IntKind.wrap .i64 x ∧ IntKind.wrap .i64 x < 9223372036854775808 := by
  rw [IntKind.wrap_i64]; omega
theorem w8 {x : Int} (h0 : 0 ≤ x) (h1 : x < 256) : IntKind.wrap .u8 x = x := by
  rw [IntKind.wrap_u8]; omega
theorem w8b (x : Int) : 0 ≤ IntKind.wrap .u8 x ∧ IntKind.wrap .u8 x < 256 := by
  rw [IntKind.wrap_u8]; omega
theorem rM : rowMax = 1073741824 := rfl
theorem tm_pos {x y : Int} (h : 0 ≤ x) : Int.tmod x y = x % y := Int.tmod_eq_emod_of_nonneg h
theorem td_pos {x y : Int} (h : 0 ≤ x) : Int.tdiv x y = x / y := Int.tdiv_eq_ediv_of_nonneg h
/-- a row of one whole number -/
theorem stR1 (t : LT) (r : Abs.Rows) (i : Nat) (x : F) : stR [t] r i 0 [x] = r.set i [x] := rfl
theorem fI_set {r : Abs.Rows} {i : Nat} {k : IntKind} {n : Int} (h : i < r.length) : fI (r.set i [F.lit (.int k n)]) i 0 = n := by
  simp [fI, dropF, Abs.rowAt, List.getD_eq_getElem?_getD, h, F.toInt]
theorem fI_set_ne {r : Abs.Rows} {i j : Nat} {x : List F} (h : i ≠ j) : fI (r.set i x) j 0 = fI r j 0 := by
  simp [fI, dropF, Abs.rowAt, List.getD_eq_getElem?_getD, List.getElem?_set_ne h]
theorem fI_app {r : Abs.Rows} {k : IntKind} {n : Int} : fI (r ++ [[F.lit (.int k n)]]) r.length 0 = n := by
  simp [fI, dropF, Abs.rowAt, List.getD_eq_getElem?_getD, F.toInt]
theorem fI_app_lt {r s : Abs.Rows} {i : Nat} (h : i < r.length) : fI (r ++ s) i 0 = fI r i 0 := by
  simp [fI, dropF, Abs.rowAt, List.getD_eq_getElem?_getD, List.getElem?_append_left h]
/-! lists that are made place by place -/
def mk (t : IntKind) (g : Nat → Int) (n : Nat) : Abs.Rows := (List.range n).map fun j => [F.lit (.int t (g j))]
theorem mk_len (t : IntKind) (g : Nat → Int) (n : Nat) : (mk t g n).length = n := by simp [mk]
theorem mk_succ (t : IntKind) (g : Nat → Int) (n : Nat) : mk t g (n + 1) = mk t g n ++ [[F.lit (.int t (g n))]] := by simp [mk, List.range_succ]
theorem mk_set (t : IntKind) (g : Nat → Int) (n d : Nat) (z : List F) : (mk t g n ++ List.replicate (d + 1) z).set n [F.lit (.int t (g n))] = mk t g (n + 1) ++ List.replicate d z := by
  rw [mk_succ, List.set_append_right _ _ (by simp [mk_len]), mk_len, Nat.sub_self, List.replicate_succ, List.set_cons_zero]
  simp
theorem mk_fI (t : IntKind) (g : Nat → Int) {n i : Nat} (h : i < n) : fI (mk t g n) i 0 = g i := by
  simp [fI, dropF, Abs.rowAt, List.getD_eq_getElem?_getD, mk, h, F.toInt]
def Byt (x : Int) : Prop := 0 ≤ x ∧ x < 256
end Go.Proofs.YtngjadgglbkjlaaDoor.Med
end
section
set_option linter.unusedVariables false
set_option linter.unusedSimpArgs false
set_option linter.unusedSectionVars false
namespace Go.Proofs.YtngjadgglbkjlaaDoor.Med
open Go Go.Abs Go.Proofs
set_option linter.unusedVariables false
set_option linter.unusedSimpArgs false
/-! strings as lists of bytes -/
abbrev bs (l : List UInt8) : ByteArray := ⟨l.toArray⟩
theorem bs_of (s : ByteArray) : s = bs s.data.toList := (Lib.mk_data s).symm
theorem bs_size (l : List UInt8) : (bs l).size = l.length := by simp [bs, ByteArray.size]
theorem bs_toList (l : List UInt8) : (bs l).toList = l := by rw [Lib.toList_data]
theorem bs_at (l : List UInt8) (i : Nat) : Array.getD (bs l).data i (0 : UInt8) = l.getD i 0 := by
  simp [bs, Array.getD_eq_getD_getElem?, List.getD_eq_getElem?_getD]
theorem arr_at (l : List UInt8) (i : Nat) : Array.getD l.toArray i (0 : UInt8) = l.getD i 0 := bs_at l i
theorem bs_ext (l : List UInt8) (a b : Nat) : (bs l).extract a b = bs ((l.drop a).take (b - a)) := Lib.extract_eq _ _ _
theorem bs_drop (l : List UInt8) (a : Nat) : (bs l).extract a (bs l).size = bs (l.drop a) := by
  rw [bs_ext, bs_size, List.take_of_length_le (by simp)]
theorem bs_take (l : List UInt8) (b : Nat) : (bs l).extract 0 b = bs (l.take b) := by rw [bs_ext]; simp
theorem bs_app (a b : List UInt8) : bs a ++ bs b = bs (a ++ b) := by
  apply ByteArray.ext
  simp [bs]
/-- where a byte is first -/
def ixB (b : UInt8) : List UInt8 → Option Nat
  | [] => none
  | x :: l => if x = b then some 0 else (ixB b l).map (· + 1)
theorem find_ix (b : UInt8) : ∀ (l : List UInt8), (List.range l.length).find? (fun i => l.getD i 0 == b) = ixB b l
  | [] => rfl
  | x :: l => by
    rw [List.length_cons, List.range_succ_eq_map, List.find?_cons]
    simp only [List.getD_cons_zero, ixB]
    by_cases h : x = b
    · simp [h]
    · have h' : (x == b) = false := by simpa using h
      rw [h', if_neg h, List.find?_map]
      have := find_ix b l
      have e : ((fun i => (x :: l).getD i 0 == b) ∘ Nat.succ) = fun i => l.getD i 0 == b := by funext i; simp
      rw [e, this]
theorem bs_get (l : List UInt8) (i : Nat) : (bs l)[i]! = l.getD i 0 := by
  by_cases h : i < l.length
  · have h' : i < (bs l).size := by rw [bs_size]; exact h
    rw [getElem!_pos (bs l) i h', List.getD_eq_getElem?_getD, List.getElem?_eq_getElem h]
    show (bs l).data[i] = _
    simp [bs]
  · have h' : ¬ i < (bs l).size := by rw [bs_size]; exact h
    rw [getElem!_neg (bs l) i h', List.getD_eq_getElem?_getD, List.getElem?_eq_none (by omega)]
    rfl
def ixI (b : UInt8) (l : List UInt8) : Int := match ixB b l with
  | some i => i
  | none => -1
theorem idx_bs (l : List UInt8) (c : Int) : idxByte (bs l) c = ixI c.toNat.toUInt8 l := by
  unfold idxByte ixI
  have : (fun i => (bs l)[i]! == c.toNat.toUInt8) = fun i => l.getD i 0 == c.toNat.toUInt8 := by funext i; rw [bs_get]
  rw [this, bs_size, find_ix]
  cases ixB c.toNat.toUInt8 l <;> rfl
theorem ixB_lt {b : UInt8} : ∀ {l : List UInt8} {i : Nat}, ixB b l = some i → i < l.length ∧ l.getD i 0 = b ∧ b ∉ l.take i
  | [], _, h => by cases h
  | x :: l, i, h => by
    simp only [ixB] at h
    split at h
    · cases h; rename_i hx; exact ⟨by simp, by simpa using hx, by simp⟩
    · rename_i hx
      simp only [Option.map_eq_some_iff] at h
      obtain ⟨j, hj, rfl⟩ := h
      obtain ⟨h1, h2, h3⟩ := ixB_lt hj
      refine ⟨by simp; omega, by simpa using h2, ?_⟩
      simp only [List.take_succ_cons, List.mem_cons, not_or]
      exact ⟨fun e => hx e.symm, h3⟩
theorem ixB_none {b : UInt8} : ∀ {l : List UInt8}, ixB b l = none ↔ b ∉ l
  | [] => by simp [ixB]
  | x :: l => by
    simp only [ixB]
    split
    · rename_i h; simp [h]
    · rename_i h
      simp only [Option.map_eq_none_iff, List.mem_cons, not_or]
      rw [ixB_none]
      exact ⟨fun e => ⟨fun e2 => h e2.symm, e⟩, fun e => e.2⟩
theorem ixI_nn {b : UInt8} {l : List UInt8} : 0 ≤ ixI b l ↔ b ∈ l := by
  unfold ixI
  cases h : ixB b l with
  | none => simp; exact ixB_none.1 h
  | some i =>
    obtain ⟨h1, h2, _⟩ := ixB_lt h
    simp only [Int.natCast_nonneg, true_iff]
    rw [← h2, List.getD_eq_getElem?_getD, List.getElem?_eq_getElem h1]
    exact List.getElem_mem h1
theorem lT {x y : List UInt8} (h : x = y) {α : Type} {a b : α} : (bif x == y then a else b) = a := by simp [h]
theorem lF {x y : List UInt8} (h : ¬ x = y) {α : Type} {a b : α} : (bif x == y then a else b) = b := by
  rw [beq_false_of_ne h]; rfl
theorem lnT {x y : List UInt8} (h : ¬ x = y) {α : Type} {a b : α} : (bif !(x == y) then a else b) = a := by
  rw [beq_false_of_ne h]; rfl
theorem lnF {x y : List UInt8} (h : x = y) {α : Type} {a b : α} : (bif !(x == y) then a else b) = b := by simp [h]
end Go.Proofs.YtngjadgglbkjlaaDoor.Med
end
section
set_option linter.unusedVariables false
set_option linter.unusedSimpArgs false
set_option linter.unusedSectionVars false
namespace Go.Proofs.YtngjadgglbkjlaaDoor.Med
open Go Go.Abs Go.Proofs
set_option linter.unusedVariables false
set_option linter.unusedSimpArgs false
/-! sets of signs -/
def D12 : List UInt8 := [35, 42, 48, 49, 50, 51, 52, 53, 54, 55, 56, 57]
def D10 : List UInt8 := [48, 49, 50, 51, 52, 53, 54, 55, 56, 57]
theorem or16 {a b : Nat} (ha : a < 65536) (hb : b < 65536) : bitsOp IntKind.u16 (BitVec.ofInt (16 : Nat) (a : Int) ||| BitVec.ofInt (16 : Nat) (b : Int)) = ((a ||| b : Nat) : Int) := by
  have h1 : (BitVec.ofInt 16 (a : Int) ||| BitVec.ofInt 16 (b : Int)).toNat = a ||| b := by
    rw [BitVec.toNat_or, BitVec.ofInt_natCast, BitVec.ofInt_natCast, BitVec.toNat_ofNat, BitVec.toNat_ofNat, Nat.mod_eq_of_lt (by omega), Nat.mod_eq_of_lt (by omega)]
  have h2 : bitsOp IntKind.u16 (BitVec.ofInt (16 : Nat) (a : Int) ||| BitVec.ofInt (16 : Nat) (b : Int)) = IntKind.wrap .u16 ((a ||| b : Nat) : Int) := congrArg (fun n : Nat => IntKind.wrap .u16 (n : Int)) h1
  have h3 : a ||| b < 2 ^ 16 := Nat.or_lt_two_pow (by omega) (by omega)
  rw [h2, IntKind.wrap_u16]
  omega
theorem and16 {a b : Nat} (ha : a < 65536) (hb : b < 65536) : bitsOp IntKind.u16 (BitVec.ofInt (16 : Nat) (a : Int) &&& BitVec.ofInt (16 : Nat) (b : Int)) = ((a &&& b : Nat) : Int) := by
  have h1 : (BitVec.ofInt 16 (a : Int) &&& BitVec.ofInt 16 (b : Int)).toNat = a &&& b := by
    rw [BitVec.toNat_and, BitVec.ofInt_natCast, BitVec.ofInt_natCast, BitVec.toNat_ofNat, BitVec.toNat_ofNat, Nat.mod_eq_of_lt (by omega), Nat.mod_eq_of_lt (by omega)]
  have h2 : bitsOp IntKind.u16 (BitVec.ofInt (16 : Nat) (a : Int) &&& BitVec.ofInt (16 : Nat) (b : Int)) = IntKind.wrap .u16 ((a &&& b : Nat) : Int) := congrArg (fun n : Nat => IntKind.wrap .u16 (n : Int)) h1
  have h3 : a &&& b ≤ a := Nat.and_le_left
  rw [h2, IntKind.wrap_u16]
  omega
theorem fn42 (m : Nat) (l : List UInt8) (c : Int) {R : Type} (k : Int → Option R) : Fn42 (m + 2) (bs l) c k = k (ixI c.toNat.toUInt8 l) := by
  simp only [Fn42, Fn83, idx_bs]
theorem fn85 (m : Nat) {c : Nat} (h0 : 48 ≤ c) (h1 : c ≤ 57) {R : Type} (k : Int → Option R) : Fn85 (m + 3) (c : Int) k = k ((2 ^ (c - 46) : Nat) : Int) := by
  have hx : ixI ((c : Int).toNat.toUInt8) D12 = ((c - 46 : Nat) : Int) := by
    rcases (show c = 48 ∨ c = 49 ∨ c = 50 ∨ c = 51 ∨ c = 52 ∨ c = 53 ∨ c = 54 ∨ c = 55 ∨ c = 56 ∨ c = 57 by omega) with rfl | rfl | rfl | rfl | rfl | rfl | rfl | rfl | rfl | rfl <;> rfl
  simp only [Fn85]
  refine Eq.trans (fn42 m D12 (c : Int) _) ?_
  rw [hx, dT (by omega)]
  congr 1
  rcases (show c = 48 ∨ c = 49 ∨ c = 50 ∨ c = 51 ∨ c = 52 ∨ c = 53 ∨ c = 54 ∨ c = 55 ∨ c = 56 ∨ c = 57 by omega) with rfl | rfl | rfl | rfl | rfl | rfl | rfl | rfl | rfl | rfl <;> rfl
/-- the digits from one to another one, besides those that are there -/
def fromR : Nat → Nat → Nat → Nat → Nat
  | 0, acc, _, _ => acc
  | n + 1, acc, a, b => if a ≤ b then fromR n (acc ||| 2 ^ (a - 46)) (a + 1) b else acc
theorem lp100 (m : Nat) {b : Nat} (hb : b ≤ 57) {R : Type} (kx0 : Int → Int → Option R) : ∀ (d n acc a : Nat), 48 ≤ a → a ≤ b + 1 → a + d = b + 1 → d < n → acc < 4096 →
    ∃ j : Int, Lp100_3 (m + 3) kx0 b n acc a = kx0 (fromR (d + 1) acc a b) j ∧ fromR (d + 1) acc a b < 4096
  | _, 0, _, _, _, _, _, h, _ => by omega
  | 0, n + 1, acc, a, h1, h2, h3, h4, h5 => by
    refine ⟨a, ?_, ?_⟩
    · simp only [Lp100_3, Lp100_3_step, fromR]
      rw [dF (by omega), if_neg (by omega)]
    · simp only [fromR]; rw [if_neg (by omega)]; exact h5
  | d + 1, n + 1, acc, a, h1, h2, h3, h4, h5 => by
    have hp : 2 ^ (a - 46) < 2 ^ 12 := Nat.pow_lt_pow_right (by decide) (by omega)
    have ho : acc ||| 2 ^ (a - 46) < 2 ^ 12 := Nat.or_lt_two_pow (by omega) hp
    obtain ⟨j, h6, h7⟩ := lp100 m hb kx0 d n (acc ||| 2 ^ (a - 46)) (a + 1) (by omega) (by omega) (by omega) (by omega) ho
    refine ⟨j, ?_, ?_⟩
    · rw [Lp100_3]
      simp only [Lp100_3_step]
      rw [dT (by omega), fn85 m h1 (by omega), or16 (by omega) (by omega), w8 (by omega) (by omega)]
      have e : fromR (d + 1 + 1) acc a b = fromR (d + 1) (acc ||| 2 ^ (a - 46)) (a + 1) b := by rw [fromR, if_pos (by omega)]
      rw [e]
      exact h6
    · rw [fromR, if_pos (by omega)]; exact h7
def fromN (a b : Nat) : Nat := fromR (b + 2 - a) 0 a b
theorem fn100 (m : Nat) {a b : Nat} (h0 : 48 ≤ a) (h1 : a ≤ b) (h2 : b ≤ 57) {R : Type} (k : Int → Option R) : Fn100 (m + 30) (a : Int) (b : Int) k = k (fromN a b) ∧ fromN a b < 4096 := by
  obtain ⟨j, h3, h4⟩ := lp100 (m + 26) h2 (fun i _ => k i) (b + 1 - a) (m + 29) 0 a h0 (by omega) (by omega) (by omega) (by omega)
  have e : b + 1 - a + 1 = b + 2 - a := by omega
  rw [e] at h3 h4
  exact ⟨by simp only [Fn100]; exact h3, h4⟩
end Go.Proofs.YtngjadgglbkjlaaDoor.Med
end
section
set_option linter.unusedVariables false
set_option linter.unusedSimpArgs false
set_option linter.unusedSectionVars false
namespace Go.Proofs.YtngjadgglbkjlaaDoor.Med
open Go Go.Abs Go.Proofs
set_option linter.unusedVariables false
set_option linter.unusedSimpArgs false
/-! what stands between brackets -/
theorem fromN_all : ((List.range 58).all fun a => (List.range 58).all fun b => !(decide (48 ≤ a) && decide (a ≤ b)) || (fromN a b % 4 == 0 && decide (fromN a b < 4096))) = true := by kernel_rfl
theorem fromN_ok {a b : Nat} (h0 : 48 ≤ a) (h1 : a ≤ b) (h2 : b ≤ 57) : fromN a b % 4 = 0 ∧ fromN a b < 4096 := by
  have h := List.all_eq_true.1 (List.all_eq_true.1 fromN_all a (List.mem_range.2 (by omega))) b (List.mem_range.2 (by omega))
  simp only [h0, h1, decide_true, Bool.and_self, Bool.not_true, Bool.false_or, Bool.and_eq_true, beq_iff_eq, decide_eq_true_eq] at h
  exact h
def pset : Nat → Nat → List UInt8 → Option Nat
  | 0, _, _ => none
  | _ + 1, acc, [] => some acc
  | n + 1, acc, c :: r => if c.toNat < 48 ∨ 57 < c.toNat then none else
    if r.length ≥ 2 ∧ (r.getD 0 0).toNat = 45 ∧ (r.getD 1 0).toNat > c.toNat ∧ (r.getD 1 0).toNat ≤ 57 then pset n (acc ||| fromN c.toNat (r.getD 1 0).toNat) (r.drop 2)
    else pset n (acc ||| fromN c.toNat c.toNat) r
theorem or4 {a b : Nat} (ha : a % 4 = 0) (hb : b % 4 = 0) : (a ||| b) % 4 = 0 := by
  have := Nat.or_mod_two_pow (a := a) (b := b) (n := 2)
  rw [show (2 : Nat) ^ 2 = 4 from rfl, ha, hb] at this
  exact this
theorem pset_ok : ∀ (f acc : Nat) (l : List UInt8) (a : Nat), acc % 4 = 0 → acc < 4096 → pset f acc l = some a → a % 4 = 0 ∧ a < 4096
  | 0, _, _, _, _, _, h => by cases h
  | f + 1, acc, [], a, h0, h1, h => by cases h; exact ⟨h0, h1⟩
  | f + 1, acc, c :: r, a, h0, h1, h => by
    rw [pset] at h
    split at h
    · cases h
    · rename_i hc
      split at h
      · rename_i hr
        obtain ⟨q1, q2⟩ := fromN_ok (a := c.toNat) (b := (r.getD 1 0).toNat) (by omega) (by omega) (by omega)
        exact pset_ok f _ _ a (or4 h0 q1) (Nat.or_lt_two_pow (n := 12) h1 q2) h
      · obtain ⟨q1, q2⟩ := fromN_ok (a := c.toNat) (b := c.toNat) (by omega) (by omega) (by omega)
        exact pset_ok f _ _ a (or4 h0 q1) (Nat.or_lt_two_pow (n := 12) h1 q2) h
theorem u8lt (b : UInt8) : b.toNat < 256 := b.toNat_lt
theorem jn13 (m : Nat) {t : List UInt8} (hl : t.length ≤ 100) {e i acc : Nat} (he : e ≤ t.length) (hi : i < e) (ha : acc < 4096) {c : Nat} (h0 : 48 ≤ c) (h1 : c ≤ 57) {R : Type} (kx0 : Int → Int → Option R) (z1 z2 : Int) :
    Jn101_13 (m + 31) kx0 (bs t) z1 z2 e acc i c = if i + 2 < e ∧ (t.getD (i + 1) 0).toNat = 45 ∧ (t.getD (i + 2) 0).toNat > c ∧ (t.getD (i + 2) 0).toNat ≤ 57 then kx0 ((acc ||| fromN c (t.getD (i + 2) 0).toNat : Nat) : Int) ((i + 2 : Nat) : Int) else kx0 ((acc ||| fromN c c : Nat) : Int) i := by
  have e1 : IntKind.wrap .i64 ((i : Int) + 1) = ((i + 1 : Nat) : Int) := by rw [w64 (by omega) (by omega)]; omega
  have e2 : IntKind.wrap .i64 ((i : Int) + 2) = ((i + 2 : Nat) : Int) := by rw [w64 (by omega) (by omega)]; omega
  have n1 : Int.toNat ((i + 1 : Nat) : Int) = i + 1 := by omega
  have n2 : Int.toNat ((i + 2 : Nat) : Int) = i + 2 := by omega
  have b2 := u8lt (t.getD (i + 2) 0)
  obtain ⟨fc, fc2⟩ := fn100 (m + 1) h0 (Nat.le_refl c) h1 (R := R) (fun i200 => kx0 (bitsOp IntKind.u16 (BitVec.ofInt (16 : Nat) (acc : Int) ||| BitVec.ofInt (16 : Nat) i200)) i)
  have other : Jn101_15 (m + 31) (fun i197 i198 b199 => Fn100 (m + 31) (c : Int) i198 (fun i200 => kx0 (bitsOp IntKind.u16 (BitVec.ofInt (16 : Nat) (acc : Int) ||| BitVec.ofInt (16 : Nat) i200)) i197)) (bs t) z1 z2 (e : Int) (acc : Int) (i : Int) (c : Int) (c : Int) false = kx0 ((acc ||| fromN c c : Nat) : Int) i := by
    simp only [Jn101_15, cond_false]
    refine fc.trans ?_
    rw [or16 (by omega) (by omega)]
  simp only [Jn101_13, e1, e2, n1, n2, bs_at, arr_at, bs_size]
  by_cases c1 : i + 2 < e
  · rw [dT (by omega), dT (by omega)]
    by_cases c2 : (t.getD (i + 1) 0).toNat = 45
    · rw [eT (by omega), dT (by omega)]
      by_cases c3 : (t.getD (i + 2) 0).toNat > c
      · rw [dT (by omega), dT (by omega)]
        by_cases c4 : (t.getD (i + 2) 0).toNat ≤ 57
        · rw [if_pos ⟨c1, c2, c3, c4⟩, decide_eq_true (by omega : ((t.getD (i + 2) 0).toNat : Int) ≤ 57)]
          obtain ⟨fd, fd2⟩ := fn100 (m + 1) h0 (show c ≤ (t.getD (i + 2) 0).toNat by omega) c4 (R := R) (fun i200 => kx0 (bitsOp IntKind.u16 (BitVec.ofInt (16 : Nat) (acc : Int) ||| BitVec.ofInt (16 : Nat) i200)) ((i + 2 : Nat) : Int))
          simp only [Jn101_15, cond_true, e2, n2, bs_at, arr_at, bs_size]
          rw [dT (by omega)]
          refine fd.trans ?_
          rw [or16 (by omega) (by omega)]
        · rw [if_neg (fun h => c4 h.2.2.2), decide_eq_false (by omega : ¬ ((t.getD (i + 2) 0).toNat : Int) ≤ 57)]
          exact other
      · rw [dF (by omega), if_neg (fun h => c3 h.2.2.1)]
        exact other
    · rw [eF (by omega), if_neg (fun h => c2 h.2.1)]
      exact other
  · rw [dF (by omega), if_neg (fun h => c1 h.1)]
    exact other
theorem lp101 (m : Nat) {t : List UInt8} (hl : t.length ≤ 100) {e : Nat} (he : e ≤ t.length) {R : Type} (g0 : Int → Int → Option R) (g1 : Int → Option R) (z1 z2 : Int) : ∀ (f i acc n : Nat), e - i < f → i ≤ e → e - i < n → acc < 4096 →
    Lp101_7 (m + 31) (fun a b _ _ => g0 a b) (fun a _ => g1 a) (bs t) z1 z2 e n acc i = match pset f acc ((t.take e).drop i) with
      | none => g0 0 0
      | some a => g1 a
  | 0, _, _, _, h, _, _, _ => by omega
  | _, _, _, 0, _, _, h, _ => by omega
  | f + 1, i, acc, n + 1, h1, h2, h3, h4 => by
    have n0 : Int.toNat (i : Int) = i := by omega
    by_cases hi : i < e
    · have hd : (t.take e).drop i = t.getD i 0 :: (t.take e).drop (i + 1) := by
        rw [List.drop_eq_getElem_cons (by simp; omega)]
        congr 1
        rw [List.getElem_take, List.getD_eq_getElem?_getD, List.getElem?_eq_getElem (by omega)]
        rfl
      have gd : ∀ j, i + 1 + j < e → ((t.take e).drop (i + 1)).getD j 0 = t.getD (i + 1 + j) 0 := by
        intro j hj
        rw [List.getD_eq_getElem?_getD, List.getD_eq_getElem?_getD, List.getElem?_drop, List.getElem?_take_of_lt hj]
      rw [hd, Lp101_7]
      simp only [Lp101_7_step, n0, bs_at, arr_at, bs_size, pset]
      rw [dT (by omega), dT (by omega)]
      by_cases c1 : (t.getD i 0).toNat < 48
      · rw [dT (by omega), if_pos (.inl c1)]
      rw [dF (by omega)]
      by_cases c2 : 57 < (t.getD i 0).toNat
      · rw [dT (by omega), if_pos (.inr c2)]
      rw [dF (by omega), if_neg (by omega), jn13 m hl he hi h4 (by omega) (by omega)]
      have hlen : ((t.take e).drop (i + 1)).length = e - (i + 1) := by simp; omega
      by_cases c3 : i + 2 < e ∧ (t.getD (i + 1) 0).toNat = 45 ∧ (t.getD (i + 2) 0).toNat > (t.getD i 0).toNat ∧ (t.getD (i + 2) 0).toNat ≤ 57
      · have g1' := gd 1 (by omega)
        have g0' := gd 0 (by omega)
        rw [show i + 1 + 1 = i + 2 by omega] at g1'
        rw [Nat.add_zero] at g0'
        rw [if_pos c3, hlen, g0', g1', if_pos ⟨by omega, c3.2⟩, List.drop_drop, show i + 1 + 2 = i + 3 by omega, w64 (by omega) (by omega)]
        have q := fromN_ok (a := (t.getD i 0).toNat) (b := (t.getD (i + 2) 0).toNat) (by omega) (by omega) (by omega)
        exact lp101 m hl he g0 g1 z1 z2 f (i + 3) _ n (by omega) (by omega) (by omega) (Nat.or_lt_two_pow (n := 12) h4 q.2)
      · rw [if_neg c3]
        have q := fromN_ok (a := (t.getD i 0).toNat) (b := (t.getD i 0).toNat) (by omega) (by omega) (by omega)
        have hn : ¬ (((t.take e).drop (i + 1)).length ≥ 2 ∧ (((t.take e).drop (i + 1)).getD 0 0).toNat = 45 ∧ (((t.take e).drop (i + 1)).getD 1 0).toNat > (t.getD i 0).toNat ∧ (((t.take e).drop (i + 1)).getD 1 0).toNat ≤ 57) := by
          rintro ⟨a1, a2, a3, a4⟩
          rw [hlen] at a1
          have g1' := gd 1 (by omega)
          have g0' := gd 0 (by omega)
          rw [show i + 1 + 1 = i + 2 by omega] at g1'
          rw [Nat.add_zero] at g0'
          rw [g0'] at a2
          rw [g1'] at a3 a4
          exact c3 ⟨by omega, a2, a3, a4⟩
        rw [if_neg hn, w64 (by omega) (by omega)]
        exact lp101 m hl he g0 g1 z1 z2 f (i + 1) _ n (by omega) (by omega) (by omega) (Nat.or_lt_two_pow (n := 12) h4 q.2)
    · have hd : (t.take e).drop i = [] := List.drop_eq_nil_of_le (by simp; omega)
      rw [hd, Lp101_7]
      simp only [Lp101_7_step, pset]
      rw [dF (by omega)]
end Go.Proofs.YtngjadgglbkjlaaDoor.Med
end
section
set_option linter.unusedVariables false
set_option linter.unusedSimpArgs false
set_option linter.unusedSectionVars false
namespace Go.Proofs.YtngjadgglbkjlaaDoor.Med
open Go Go.Abs Go.Proofs
set_option linter.unusedVariables false
set_option linter.unusedSimpArgs false
/-! how a set of digits is written -/
def runEnd : Nat → Nat → Nat → Nat
  | 0, _, b => b
  | n + 1, x, b => if b < 57 ∧ x &&& 2 ^ (b + 1 - 46) ≠ 0 then runEnd n x (b + 1) else b
def digR : Nat → Nat → Nat → List UInt8 → List UInt8
  | 0, _, _, s => s
  | n + 1, x, a, s => if a ≤ 57 then
      if x &&& 2 ^ (a - 46) = 0 then digR n x (a + 1) s
      else if runEnd 10 x a > a + 1 then digR n x (runEnd 10 x a + 1) (s ++ [a.toUInt8, 45, (runEnd 10 x a).toUInt8])
      else if runEnd 10 x a > a then digR n x (runEnd 10 x a + 1) (s ++ [a.toUInt8, (runEnd 10 x a).toUInt8])
      else digR n x (runEnd 10 x a + 1) (s ++ [a.toUInt8])
    else s
def digL (x : Nat) : List UInt8 := digR 11 x 48 []
theorem pw {c : Nat} (h : c ≤ 57) : 2 ^ (c - 46) < 65536 := Nat.lt_of_lt_of_le (Nat.pow_lt_pow_right (by decide : 1 < 2) (show c - 46 < 12 by omega)) (by decide)
theorem runEnd_b : ∀ (n x b : Nat), b ≤ 57 → b ≤ runEnd n x b ∧ runEnd n x b ≤ 57
  | 0, _, _, h => ⟨Nat.le_refl _, h⟩
  | n + 1, x, b, h => by
    rw [runEnd]
    split
    · rename_i hc
      have := runEnd_b n x (b + 1) (by omega)
      omega
    · exact ⟨Nat.le_refl _, h⟩
theorem lp127_9 (m : Nat) {x : Nat} (hx : x < 65536) {R : Type} (kx0 : Int → Option R) (s : ByteArray) (z : Int) : ∀ (d f n b : Nat), b + d = 57 → d < f → d < n → 48 ≤ b → Lp127_9 (m + 3) kx0 x s z n b = kx0 (runEnd f x b)
  | _, 0, _, _, _, h, _, _ => by omega
  | _, _, 0, _, _, _, h, _ => by omega
  | 0, f + 1, n + 1, b, h1, h2, h3, h4 => by
    rw [Lp127_9, runEnd]
    simp only [Lp127_9_step]
    rw [dF (by omega), if_neg (by omega)]
  | d + 1, f + 1, n + 1, b, h1, h2, h3, h4 => by
    rw [Lp127_9, runEnd]
    simp only [Lp127_9_step]
    rw [dT (by omega), w8 (by omega) (by omega), show (b : Int) + 1 = ((b + 1 : Nat) : Int) by omega, fn85 m (by omega) (by omega), and16 hx (pw (by omega))]
    by_cases hc : x &&& 2 ^ (b + 1 - 46) = 0
    · rw [nF (by omega), if_neg (fun h => h.2 hc)]
    · rw [nT (by omega), if_pos ⟨by omega, hc⟩]
      exact lp127_9 m hx kx0 s z d f n (b + 1) (by omega) (by omega) (by omega) (by omega)
theorem rb3 (a b : Nat) : rowsBytes [[F.lit (Value.int IntKind.u8 (a : Int))], [F.lit (Value.int IntKind.u8 (45 : Int))], [F.lit (Value.int IntKind.u8 (b : Int))]] = bs [a.toUInt8, 45, b.toUInt8] := rfl
theorem rb2 (a b : Nat) : rowsBytes [[F.lit (Value.int IntKind.u8 (a : Int))], [F.lit (Value.int IntKind.u8 (b : Int))]] = bs [a.toUInt8, b.toUInt8] := rfl
theorem rb1 (a : Nat) : rowsBytes [[F.lit (Value.int IntKind.u8 (a : Int))]] = bs [a.toUInt8] := rfl
theorem sMax : strMax = 1099511627776 := rfl
theorem lp127_3 (m : Nat) {x : Nat} (hx : x < 65536) {R : Type} (kx0 : ByteArray → Int → Option R) : ∀ (d f n a : Nat) (s : List UInt8), 58 - a ≤ d → d < f → d < n → 48 ≤ a → a ≤ 58 → s.length ≤ 3 * a → ∃ j : Int, Lp127_3 (m + 12) kx0 x n (bs s) a = kx0 (bs (digR f x a s)) j
  | _, 0, _, _, _, _, h, _, _, _, _ => by omega
  | _, _, 0, _, _, _, _, h, _, _, _ => by omega
  | 0, f + 1, n + 1, a, s, h1, h2, h3, h4, h5, h6 => by
    refine ⟨a, ?_⟩
    rw [Lp127_3, digR]
    simp only [Lp127_3_step]
    rw [dF (by omega), if_neg (by omega)]
  | d + 1, f + 1, n + 1, a, s, h1, h2, h3, h4, h5, h6 => by
    rw [Lp127_3, digR]
    simp only [Lp127_3_step]
    by_cases ha : a ≤ 57
    · rw [dT (by omega), if_pos ha, fn85 (m + 9) h4 ha, and16 hx (pw ha), w8 (x := (a : Int) + 1) (by omega) (by omega), show (a : Int) + 1 = ((a + 1 : Nat) : Int) by omega]
      by_cases hc : x &&& 2 ^ (a - 46) = 0
      · rw [eT (by omega), if_pos hc]
        exact lp127_3 m hx kx0 d f n (a + 1) s (by omega) (by omega) (by omega) (by omega) (by omega) (by omega)
      · obtain ⟨q1, q2⟩ := runEnd_b 10 x a ha
        rw [eF (by omega), if_neg hc, lp127_9 (m + 9) hx _ (bs s) a (57 - a) 10 (m + 12) a (by omega) (by omega) (by omega) h4, w8 (x := (runEnd 10 x a : Int) + 1) (by omega) (by omega), show (runEnd 10 x a : Int) + 1 = ((runEnd 10 x a + 1 : Nat) : Int) by omega]
        by_cases c1 : runEnd 10 x a > a + 1
        · rw [dT (by omega), if_pos c1, rb3, dT (by rw [bs_size, bs_size, sMax]; simp; omega)]
          simp only [letV]
          rw [bs_app]
          exact lp127_3 m hx kx0 d f n _ _ (by omega) (by omega) (by omega) (by omega) (by omega) (by simp; omega)
        · rw [dF (by omega), if_neg c1]
          by_cases c2 : runEnd 10 x a > a
          · rw [dT (by omega), if_pos c2, rb2, dT (by rw [bs_size, bs_size, sMax]; simp; omega)]
            simp only [letV]
            rw [bs_app]
            exact lp127_3 m hx kx0 d f n _ _ (by omega) (by omega) (by omega) (by omega) (by omega) (by simp; omega)
          · rw [dF (by omega), if_neg c2, rb1, dT (by rw [bs_size, bs_size, sMax]; simp; omega)]
            simp only [letV]
            rw [bs_app]
            exact lp127_3 m hx kx0 d f n _ _ (by omega) (by omega) (by omega) (by omega) (by omega) (by simp; omega)
    · rw [dF (by omega), if_neg ha]
      exact ⟨a, rfl⟩
theorem fn127 (m : Nat) {x : Nat} (hx : x < 65536) {R : Type} (k : ByteArray → Option R) : Fn127 (m + 13) x k = k (bs (digL x)) := by
  simp only [Fn127]
  obtain ⟨j, h⟩ := lp127_3 m hx (fun s i => k s) 10 11 (m + 12) 48 [] (by omega) (by omega) (by omega) (by omega) (by omega) (by simp)
  exact h
/-- how many digits there are -/
def pop8 : ByteArray := { data := #[(0 : UInt8), (1 : UInt8), (1 : UInt8), (2 : UInt8), (1 : UInt8), (2 : UInt8), (2 : UInt8), (3 : UInt8), (1 : UInt8), (2 : UInt8), (2 : UInt8), (3 : UInt8), (2 : UInt8), (3 : UInt8), (3 : UInt8), (4 : UInt8), (1 : UInt8), (2 : UInt8), (2 : UInt8), (3 : UInt8), (2 : UInt8), (3 : UInt8), (3 : UInt8), (4 : UInt8), (2 : UInt8), (3 : UInt8), (3 : UInt8), (4 : UInt8), (3 : UInt8), (4 : UInt8), (4 : UInt8), (5 : UInt8), (1 : UInt8), (2 : UInt8), (2 : UInt8), (3 : UInt8), (2 : UInt8), (3 : UInt8), (3 : UInt8), (4 : UInt8), (2 : UInt8), (3 : UInt8), (3 : UInt8), (4 : UInt8), (3 : UInt8), (4 : UInt8), (4 : UInt8), (5 : UInt8), (2 : UInt8), (3 : UInt8), (3 : UInt8), (4 : UInt8), (3 : UInt8), (4 : UInt8), (4 : UInt8), (5 : UInt8), (3 : UInt8), (4 : UInt8), (4 : UInt8), (5 : UInt8), (4 : UInt8), (5 : UInt8), (5 : UInt8), (6 : UInt8), (1 : UInt8), (2 : UInt8), (2 : UInt8), (3 : UInt8), (2 : UInt8), (3 : UInt8), (3 : UInt8), (4 : UInt8), (2 : UInt8), (3 : UInt8), (3 : UInt8), (4 : UInt8), (3 : UInt8), (4 : UInt8), (4 : UInt8), (5 : UInt8), (2 : UInt8), (3 : UInt8), (3 : UInt8), (4 : UInt8), (3 : UInt8), (4 : UInt8), (4 : UInt8), (5 : UInt8), (3 : UInt8), (4 : UInt8), (4 : UInt8), (5 : UInt8), (4 : UInt8), (5 : UInt8), (5 : UInt8), (6 : UInt8), (2 : UInt8), (3 : UInt8), (3 : UInt8), (4 : UInt8), (3 : UInt8), (4 : UInt8), (4 : UInt8), (5 : UInt8), (3 : UInt8), (4 : UInt8), (4 : UInt8), (5 : UInt8), (4 : UInt8), (5 : UInt8), (5 : UInt8), (6 : UInt8), (3 : UInt8), (4 : UInt8), (4 : UInt8), (5 : UInt8), (4 : UInt8), (5 : UInt8), (5 : UInt8), (6 : UInt8), (4 : UInt8), (5 : UInt8), (5 : UInt8), (6 : UInt8), (5 : UInt8), (6 : UInt8), (6 : UInt8), (7 : UInt8), (1 : UInt8), (2 : UInt8), (2 : UInt8), (3 : UInt8), (2 : UInt8), (3 : UInt8), (3 : UInt8), (4 : UInt8), (2 : UInt8), (3 : UInt8), (3 : UInt8), (4 : UInt8), (3 : UInt8), (4 : UInt8), (4 : UInt8), (5 : UInt8), (2 : UInt8), (3 : UInt8), (3 : UInt8), (4 : UInt8), (3 : UInt8), (4 : UInt8), (4 : UInt8), (5 : UInt8), (3 : UInt8), (4 : UInt8), (4 : UInt8), (5 : UInt8), (4 : UInt8), (5 : UInt8), (5 : UInt8), (6 : UInt8), (2 : UInt8), (3 : UInt8), (3 : UInt8), (4 : UInt8), (3 : UInt8), (4 : UInt8), (4 : UInt8), (5 : UInt8), (3 : UInt8), (4 : UInt8), (4 : UInt8), (5 : UInt8), (4 : UInt8), (5 : UInt8), (5 : UInt8), (6 : UInt8), (3 : UInt8), (4 : UInt8), (4 : UInt8), (5 : UInt8), (4 : UInt8), (5 : UInt8), (5 : UInt8), (6 : UInt8), (4 : UInt8), (5 : UInt8), (5 : UInt8), (6 : UInt8), (5 : UInt8), (6 : UInt8), (6 : UInt8), (7 : UInt8), (2 : UInt8), (3 : UInt8), (3 : UInt8), (4 : UInt8), (3 : UInt8), (4 : UInt8), (4 : UInt8), (5 : UInt8), (3 : UInt8), (4 : UInt8), (4 : UInt8), (5 : UInt8), (4 : UInt8), (5 : UInt8), (5 : UInt8), (6 : UInt8), (3 : UInt8), (4 : UInt8), (4 : UInt8), (5 : UInt8), (4 : UInt8), (5 : UInt8), (5 : UInt8), (6 : UInt8), (4 : UInt8), (5 : UInt8), (5 : UInt8), (6 : UInt8), (5 : UInt8), (6 : UInt8), (6 : UInt8), (7 : UInt8), (3 : UInt8), (4 : UInt8), (4 : UInt8), (5 : UInt8), (4 : UInt8), (5 : UInt8), (5 : UInt8), (6 : UInt8), (4 : UInt8), (5 : UInt8), (5 : UInt8), (6 : UInt8), (5 : UInt8), (6 : UInt8), (6 : UInt8), (7 : UInt8), (4 : UInt8), (5 : UInt8), (5 : UInt8), (6 : UInt8), (5 : UInt8), (6 : UInt8), (6 : UInt8), (7 : UInt8), (5 : UInt8), (6 : UInt8), (6 : UInt8), (7 : UInt8), (6 : UInt8), (7 : UInt8), (7 : UInt8), (8 : UInt8)] }
def ones (s : ByteArray) (i j : Int) : Int := IntKind.wrap .i64 (IntKind.wrap .u8 (((UInt8.toNat (Array.getD s.data (Int.toNat i) (0 : UInt8)) : Nat) : Int) + ((UInt8.toNat (Array.getD s.data (Int.toNat j) (0 : UInt8)) : Nat) : Int)))
theorem pop8_size : pop8.size = 256 := by kernel_rfl
theorem fn126x (m : Nat) (x : Int) (R : Type) (k : Int → Option R) : Fn126 (m + 1) x k =
    bif decide ((0 : Int) ≤ Int.fdiv x ((2 : Int) ^ min (Int.toNat (8 : Int)) (16 : Nat)) ∧ Int.fdiv x ((2 : Int) ^ min (Int.toNat (8 : Int)) (16 : Nat)) < ((pop8.size : Nat) : Int)) then
      (bif decide ((0 : Int) ≤ bitsOp IntKind.u16 (BitVec.ofInt (16 : Nat) x &&& BitVec.ofInt (16 : Nat) (255 : Int)) ∧ bitsOp IntKind.u16 (BitVec.ofInt (16 : Nat) x &&& BitVec.ofInt (16 : Nat) (255 : Int)) < ((pop8.size : Nat) : Int)) then
        k (ones pop8 (Int.fdiv x ((2 : Int) ^ min (Int.toNat (8 : Int)) (16 : Nat))) (bitsOp IntKind.u16 (BitVec.ofInt (16 : Nat) x &&& BitVec.ofInt (16 : Nat) (255 : Int)))) else none) else none := by kernel_rfl
def popE (x : Nat) : Int := ones pop8 ((x / 256 : Nat) : Int) ((x &&& 255 : Nat) : Int)
theorem fn126 (m : Nat) {x : Nat} (hx : x < 65536) {R : Type} (k : Int → Option R) : Fn126 (m + 1) x k = k (popE x) := by
  have e1 : Int.fdiv (x : Int) ((2 : Int) ^ min (Int.toNat (8 : Int)) (16 : Nat)) = ((x / 256 : Nat) : Int) := Int.fdiv_eq_ediv_of_nonneg _ (by decide)
  have e2 : bitsOp IntKind.u16 (BitVec.ofInt (16 : Nat) (x : Int) &&& BitVec.ofInt (16 : Nat) (255 : Int)) = ((x &&& 255 : Nat) : Int) := and16 (b := 255) hx (by decide)
  have e3 : x &&& 255 ≤ 255 := Nat.and_le_right
  rw [fn126x, e1, e2, pop8_size, dT (by omega), dT (by omega)]
  rfl
end Go.Proofs.YtngjadgglbkjlaaDoor.Med
end
section
set_option linter.unusedVariables false
set_option linter.unusedSimpArgs false
set_option linter.unusedSectionVars false
namespace Go.Proofs.YtngjadgglbkjlaaDoor.Med
open Go Go.Abs Go.Proofs
set_option linter.unusedVariables false
set_option linter.unusedSimpArgs false
/-! sets of digits, and their texts -/
theorem and64_1 (x : Nat) (hx : x < 9223372036854775808) : bitsOp IntKind.i64 (BitVec.ofInt (64 : Nat) (x : Int) &&& BitVec.ofInt (64 : Nat) (1 : Int)) = ((x % 2 : Nat) : Int) := by
  have h1 : (BitVec.ofInt 64 (x : Int) &&& BitVec.ofInt 64 (1 : Int)).toNat = x % 2 := by
    rw [BitVec.toNat_and, BitVec.ofInt_natCast, show (BitVec.ofInt 64 (1 : Int)).toNat = 2 ^ 1 - 1 from rfl, Nat.and_two_pow_sub_one_eq_mod, BitVec.toNat_ofNat]
    omega
  have h2 : bitsOp IntKind.i64 (BitVec.ofInt (64 : Nat) (x : Int) &&& BitVec.ofInt (64 : Nat) (1 : Int)) = IntKind.wrap .i64 ((x % 2 : Nat) : Int) := congrArg (fun n : Nat => IntKind.wrap .i64 (n : Int)) h1
  rw [h2, w64 (by omega) (by omega)]
def setR : Nat → Nat → Nat → List UInt8 → List UInt8
  | 0, _, _, s => s
  | n + 1, M, i, s => if i < 10 then (if M / 2 ^ i % 2 = 1 then setR n M (i + 1) (s ++ [(48 + i).toUInt8]) else setR n M (i + 1) s) else s
def setL (M : Nat) : List UInt8 := setR 11 M 0 []
theorem d10_ext {i : Nat} (h : i < 10) : (bs D10).extract i (i + 1) = bs [(48 + i).toUInt8] := by
  rcases (show i = 0 ∨ i = 1 ∨ i = 2 ∨ i = 3 ∨ i = 4 ∨ i = 5 ∨ i = 6 ∨ i = 7 ∨ i = 8 ∨ i = 9 by omega) with rfl | rfl | rfl | rfl | rfl | rfl | rfl | rfl | rfl | rfl <;> rfl
theorem lp82_8 (m : Nat) {M : Nat} (hM : M < 1024) {R : Type} (kx0 : ByteArray → Int → Option R) (a b : ByteArray) (z : Int) : ∀ (d f n i : Nat) (s : List UInt8), i + d = 10 → d < f → d < n → s.length ≤ i → Lp82_8 m kx0 a b M z n (bs s) i = kx0 (bs (setR f M i s)) 10
  | _, 0, _, _, _, _, h, _, _ => by omega
  | _, _, 0, _, _, _, _, h, _ => by omega
  | 0, f + 1, n + 1, i, s, h1, h2, h3, h4 => by
    have hi : i = 10 := by omega
    subst hi
    rw [Lp82_8, setR]
    simp only [Lp82_8_step]
    rw [dF (by omega), if_neg (by omega)]
    rfl
  | d + 1, f + 1, n + 1, i, s, h1, h2, h3, h4 => by
    have n0 : Int.toNat (i : Int) = i := by omega
    have e1 : IntKind.wrap .i64 ((i : Int) + 1) = ((i + 1 : Nat) : Int) := by rw [w64 (by omega) (by omega)]; omega
    have n1 : Int.toNat ((i + 1 : Nat) : Int) = i + 1 := by omega
    have e2 : Int.fdiv (M : Int) ((2 : Int) ^ min (Int.toNat (i : Int)) (64 : Nat)) = ((M / 2 ^ i : Nat) : Int) := by
      rw [n0, Nat.min_eq_left (by omega), Int.fdiv_eq_ediv_of_nonneg _ (Int.pow_nonneg (by decide))]
      rw [Int.natCast_ediv, Int.natCast_pow]
      rfl
    have hq : M / 2 ^ i ≤ M := Nat.div_le_self _ _
    have hs : (bs D10).size = 10 := rfl
    rw [Lp82_8, setR]
    simp only [Lp82_8_step, e2]
    rw [dT (by omega), if_pos (by omega), dT (by omega), and64_1 _ (by omega), e1]
    by_cases hc : M / 2 ^ i % 2 = 1
    · rw [eT (by omega), if_pos hc, n1, n0]
      refine Eq.trans (dT (show (0 : Int) ≤ ((i + 1 : Nat) : Int) ∧ ((i + 1 : Nat) : Int) ≤ (((bs D10).size : Nat) : Int) by rw [hs]; omega)) ?_
      rw [dT (by omega)]
      refine Eq.trans (dT (show (bs s).size + ((bs D10).extract i (i + 1)).size ≤ strMax by rw [d10_ext (by omega), bs_size, bs_size, sMax]; simp; omega)) ?_
      refine Eq.trans (b := Lp82_8 m kx0 a b M z n (bs s ++ (bs D10).extract i (i + 1)) ((i + 1 : Nat) : Int)) rfl ?_
      rw [d10_ext (by omega), bs_app]
      exact lp82_8 m hM kx0 a b z d f n (i + 1) _ (by omega) (by omega) (by omega) (by simp; omega)
    · rw [eF (by omega), if_neg hc]
      exact lp82_8 m hM kx0 a b z d f n (i + 1) s (by omega) (by omega) (by omega) (by omega)
def runK' : Nat → List UInt8 → Nat → Nat
  | 0, _, k => k
  | n + 1, L, k => if k + 1 < L.length ∧ (L.getD (k + 1) 0).toNat = ((L.getD k 0).toNat + 1) % 256 then runK' n L (k + 1) else k
def txtR : Nat → List UInt8 → Nat → List UInt8 → List UInt8
  | 0, _, _, s => s
  | n + 1, L, i, s => if i < L.length then
      if runK' 12 L i = i then txtR n L (runK' 12 L i + 1) (s ++ (L.drop i).take 1)
      else if runK' 12 L i = i + 1 then txtR n L (runK' 12 L i + 1) (s ++ (L.drop i).take 2)
      else txtR n L (runK' 12 L i + 1) (s ++ ((L.drop i).take 1 ++ [45] ++ (L.drop (runK' 12 L i)).take 1))
    else s
def txtL (L : List UInt8) : List UInt8 := [91] ++ txtR 12 L 0 [] ++ [93]
theorem runK_b : ∀ (n : Nat) (L : List UInt8) (k : Nat), k < L.length → k ≤ runK' n L k ∧ runK' n L k < L.length
  | 0, _, _, h => ⟨Nat.le_refl _, h⟩
  | n + 1, L, k, h => by
    rw [runK']
    split
    · rename_i hc
      have := runK_b n L (k + 1) hc.1
      omega
    · exact ⟨Nat.le_refl _, h⟩
theorem lp102_7 (m : Nat) {L : List UInt8} (hl : L.length ≤ 10) {R : Type} (kx0 : Int → Option R) (a : ByteArray) (z : Int) : ∀ (d f n i : Nat), i + d = L.length → d < f → d < n → i < L.length → Lp102_7 m kx0 (bs L) a z n i = kx0 (runK' f L i)
  | _, 0, _, _, _, h, _, _ => by omega
  | _, _, 0, _, _, _, h, _ => by omega
  | 0, _, _, i, h1, _, _, h4 => by omega
  | d + 1, f + 1, n + 1, i, h1, h2, h3, h4 => by
    have n0 : Int.toNat (i : Int) = i := by omega
    have e1 : IntKind.wrap .i64 ((i : Int) + 1) = ((i + 1 : Nat) : Int) := by rw [w64 (by omega) (by omega)]; omega
    have n1 : Int.toNat ((i + 1 : Nat) : Int) = i + 1 := by omega
    have b0 := u8lt (L.getD i 0)
    rw [Lp102_7, runK']
    simp only [Lp102_7_step, e1, n1, n0, bs_at, arr_at, bs_size]
    by_cases hc : i + 1 < L.length
    · rw [dT (by omega), dT (by omega), dT (by omega)]
      have hw : IntKind.wrap .u8 (((L.getD i 0).toNat : Int) + 1) = (((L.getD i 0).toNat + 1) % 256 : Nat) := by rw [IntKind.wrap_u8]; omega
      rw [hw]
      by_cases c2 : (L.getD (i + 1) 0).toNat = ((L.getD i 0).toNat + 1) % 256
      · rw [eT (by omega), if_pos ⟨hc, c2⟩]
        exact lp102_7 m hl kx0 a z d f n (i + 1) (by omega) (by omega) (by omega) hc
      · rw [eF (by omega), if_neg (fun h => c2 h.2)]
    · rw [dF (by omega), if_neg (fun h => hc h.1)]
theorem one_len (L : List UInt8) (i : Nat) (n : Nat) : ((L.drop i).take n).length ≤ n := by simp; omega
theorem lp102_3 (m : Nat) {L : List UInt8} (hl : L.length ≤ 10) {R : Type} (kx0 : ByteArray → Int → Option R) : ∀ (d f n i : Nat) (s : List UInt8), L.length - i ≤ d → d < f → d < n → s.length ≤ 3 * i → i ≤ L.length → Lp102_3 (m + 11) kx0 (bs L) n (bs s) i = kx0 (bs (txtR f L i s)) L.length
  | _, 0, _, _, _, _, h, _, _, _ => by omega
  | _, _, 0, _, _, _, _, h, _, _ => by omega
  | 0, f + 1, n + 1, i, s, h1, h2, h3, h4, h5 => by
    have hi : i = L.length := by omega
    rw [Lp102_3, txtR]
    simp only [Lp102_3_step, bs_size]
    rw [dF (by omega), if_neg (by omega), hi]
  | d + 1, f + 1, n + 1, i, s, h1, h2, h3, h4, h5 => by
    rw [Lp102_3, txtR]
    simp only [Lp102_3_step, bs_size]
    by_cases hi : i < L.length
    · have n0 : Int.toNat (i : Int) = i := by omega
      have e1 : IntKind.wrap .i64 ((i : Int) + 1) = ((i + 1 : Nat) : Int) := by rw [w64 (by omega) (by omega)]; omega
      have e2 : IntKind.wrap .i64 ((i : Int) + 2) = ((i + 2 : Nat) : Int) := by rw [w64 (by omega) (by omega)]; omega
      have n1 : Int.toNat ((i + 1 : Nat) : Int) = i + 1 := by omega
      have n2 : Int.toNat ((i + 2 : Nat) : Int) = i + 2 := by omega
      obtain ⟨q1, q2⟩ := runK_b 12 L i hi
      have ek : IntKind.wrap .i64 ((runK' 12 L i : Int) + 1) = ((runK' 12 L i + 1 : Nat) : Int) := by rw [w64 (by omega) (by omega)]; omega
      have nk : Int.toNat ((runK' 12 L i + 1 : Nat) : Int) = runK' 12 L i + 1 := by omega
      have nk0 : Int.toNat ((runK' 12 L i : Nat) : Int) = runK' 12 L i := by omega
      have ed : IntKind.wrap .i64 ((runK' 12 L i : Int) - i) = ((runK' 12 L i - i : Nat) : Int) := by rw [w64 (by omega) (by omega)]; omega
      have x1 := one_len L i 1
      have x2 := one_len L i 2
      have x3 := one_len L (runK' 12 L i) 1
      have d1 : i + 1 - i = 1 := by omega
      have d2 : i + 2 - i = 2 := by omega
      have d3 : runK' 12 L i + 1 - runK' 12 L i = 1 := by omega
      rw [dT (by omega), if_pos hi, lp102_7 (m + 11) hl _ (bs s) i (L.length - i) 12 (m + 11) i (by omega) (by omega) (by omega) hi]
      simp only [ek, ed, e1, e2, n0, n1, n2, nk, nk0, bs_ext, d1, d2, d3, bs_size, sMax]
      by_cases c1 : runK' 12 L i = i
      · rw [eT (by omega), if_pos c1, dT (by omega), dT (by omega), dT (by omega), bs_app]
        exact lp102_3 m hl kx0 d f n _ _ (by omega) (by omega) (by omega) (by rw [List.length_append]; omega) (by omega)
      · rw [eF (by omega), if_neg c1]
        by_cases c2 : runK' 12 L i = i + 1
        · rw [eT (by omega), if_pos c2, dT (by omega), dT (by omega), dT (by omega), bs_app]
          exact lp102_3 m hl kx0 d f n _ _ (by omega) (by omega) (by omega) (by rw [List.length_append]; omega) (by omega)
        · rw [eF (by omega), if_neg c2, dT (by omega), dT (by omega)]
          have y1 : (bs ((L.drop i).take 1) ++ bs [45]) = bs ((L.drop i).take 1 ++ [45]) := bs_app _ _
          have y2 : ((L.drop i).take 1 ++ [45]).length ≤ 2 := by rw [List.length_append]; simp; omega
          refine Eq.trans (dT (show ((L.drop i).take 1).length + (bs [45]).size ≤ 1099511627776 by rw [bs_size]; simp; omega)) ?_
          rw [dT (by omega), dT (by omega)]
          refine Eq.trans (dT (show (bs ((L.drop i).take 1) ++ bs [45]).size + ((L.drop (runK' 12 L i)).take 1).length ≤ 1099511627776 by rw [y1, bs_size]; omega)) ?_
          refine Eq.trans (b := bif decide ((s.length : Nat) + (bs ((L.drop i).take 1) ++ bs [45] ++ bs ((L.drop (runK' 12 L i)).take 1)).size ≤ 1099511627776) then Lp102_3 (m + 11) kx0 (bs L) n (bs s ++ (bs ((L.drop i).take 1) ++ bs [45] ++ bs ((L.drop (runK' 12 L i)).take 1))) ((runK' 12 L i + 1 : Nat) : Int) else none) rfl ?_
          have y3 : bs ((L.drop i).take 1) ++ bs [45] ++ bs ((L.drop (runK' 12 L i)).take 1) = bs ((L.drop i).take 1 ++ [45] ++ (L.drop (runK' 12 L i)).take 1) := by rw [y1]; exact bs_app _ _
          rw [y3, bs_app s, dT (by rw [bs_size, List.length_append]; omega)]
          exact lp102_3 m hl kx0 d f n _ _ (by omega) (by omega) (by omega) (by rw [List.length_append, List.length_append]; omega) (by omega)
    · have hi' : i = L.length := by omega
      rw [dF (by omega), if_neg hi, hi']
theorem txt_len : ∀ (f : Nat) (L : List UInt8) (i : Nat) (s : List UInt8), i ≤ L.length → s.length ≤ 3 * i → (txtR f L i s).length ≤ 3 * L.length
  | 0, L, i, s, hi, h => by rw [txtR]; omega
  | f + 1, L, i, s, hi, h => by
    have x1 := one_len L i 1
    have x2 := one_len L i 2
    have x3 := one_len L (runK' 12 L i) 1
    rw [txtR]
    split
    · rename_i hi
      obtain ⟨q1, q2⟩ := runK_b 12 L i hi
      split
      · exact txt_len f L _ _ (by omega) (by rw [List.length_append]; omega)
      · split
        · exact txt_len f L _ _ (by omega) (by rw [List.length_append]; omega)
        · exact txt_len f L _ _ (by omega) (by rw [List.length_append, List.length_append, List.length_append]; simp only [List.length_cons, List.length_nil]; omega)
    · omega
theorem fn102 (m : Nat) {L : List UInt8} (hl : L.length ≤ 10) {R : Type} (k : ByteArray → Option R) : Fn102 (m + 13) (bs L) k = k (bs (txtL L)) := by
  simp only [Fn102]
  refine Eq.trans (lp102_3 (m + 1) hl _ 11 12 (m + 12) 0 [] (by omega) (by omega) (by omega) (by simp) (by omega)) ?_
  have e1 : bs [91] ++ bs (txtR 12 L 0 []) = bs ([91] ++ txtR 12 L 0 []) := bs_app _ _
  have e2 : bs ([91] ++ txtR 12 L 0 []) ++ bs [93] = bs (txtL L) := bs_app _ _
  have hlen : (txtR 12 L 0 []).length ≤ 30 := by
    have := txt_len 12 L 0 [] (by omega) (by simp)
    omega
  refine Eq.trans (dT (show (bs [91]).size + (bs (txtR 12 L 0 [])).size ≤ strMax by rw [bs_size, bs_size, sMax]; simp; omega)) ?_
  refine Eq.trans (dT (show (bs [91] ++ bs (txtR 12 L 0 [])).size + (bs [93]).size ≤ strMax by rw [e1, bs_size, bs_size, sMax]; simp; omega)) ?_
  show k (bs [91] ++ bs (txtR 12 L 0 []) ++ bs [93]) = _
  rw [e1, e2]
end Go.Proofs.YtngjadgglbkjlaaDoor.Med
end
section
set_option linter.unusedVariables false
set_option linter.unusedSimpArgs false
set_option linter.unusedSectionVars false
namespace Go.Proofs.YtngjadgglbkjlaaDoor.Med
open Go Go.Abs Go.Proofs
set_option linter.unusedVariables false
set_option linter.unusedSimpArgs false
/-! all sets of digits -/
/-- is a set one that is written with brackets -/
def okS (M : Nat) : Bool := decide ((setL M).length > 1) && (decide (setL M ≠ D10) && (decide (setL M ≠ D10.drop 1) && decide (setL M ≠ D10.drop 2)))
def okM (x : Nat) : Bool := decide (2 ≤ popE x) && (decide (x ≠ fromN 48 57) && (decide (x ≠ fromN 49 57) && decide (x ≠ fromN 50 57)))
/-- a sign is in a mask just if it is in a list -/
def sameSet (x : Nat) (l : List UInt8) : Bool := (List.range 12).all fun j => x.testBit j == decide (D12.getD j 0 ∈ l)
def chk1 (M : Nat) : Bool := (txtL (setL M) == [91] ++ digL (4 * M) ++ [93]) && ((pset 100 0 (digL (4 * M)) == some (4 * M)) && ((okS M == okM (4 * M)) && (sameSet (4 * M) (setL M) && (decide ((setL M).length ≤ 10) && (decide ((digL (4 * M)).length ≤ 39) && !(digL (4 * M)).contains 93)))))
end Go.Proofs.YtngjadgglbkjlaaDoor.Med
end
section
set_option linter.unusedVariables false
set_option linter.unusedSimpArgs false
set_option linter.unusedSectionVars false
namespace Go.Proofs.YtngjadgglbkjlaaDoor.Med
open Go Go.Abs Go.Proofs
theorem chkA : ((List.range 256).all fun i => chk1 i) = true := by kernel_rfl
theorem chkB : ((List.range 256).all fun i => chk1 (256 + i)) = true := by kernel_rfl
theorem chkC : ((List.range 256).all fun i => chk1 (512 + i)) = true := by kernel_rfl
theorem chkD : ((List.range 256).all fun i => chk1 (768 + i)) = true := by kernel_rfl
theorem chk_all {M : Nat} (h : M < 1024) : chk1 M = true := by
  by_cases h1 : M < 256
  · exact List.all_eq_true.1 chkA M (List.mem_range.2 h1)
  by_cases h2 : M < 512
  · have := List.all_eq_true.1 chkB (M - 256) (List.mem_range.2 (by omega))
    rwa [show 256 + (M - 256) = M by omega] at this
  by_cases h3 : M < 768
  · have := List.all_eq_true.1 chkC (M - 512) (List.mem_range.2 (by omega))
    rwa [show 512 + (M - 512) = M by omega] at this
  · have := List.all_eq_true.1 chkD (M - 768) (List.mem_range.2 (by omega))
    rwa [show 768 + (M - 768) = M by omega] at this
structure SetFacts (M : Nat) : Prop where
  txt : txtL (setL M) = [91] ++ digL (4 * M) ++ [93]
  ps : pset 100 0 (digL (4 * M)) = some (4 * M)
  ok : okS M = okM (4 * M)
  same : sameSet (4 * M) (setL M) = true
  len : (setL M).length ≤ 10
theorem facts {M : Nat} (h : M < 1024) : SetFacts M := by
  have := chk_all h
  simp only [chk1, Bool.and_eq_true, beq_iff_eq, decide_eq_true_eq] at this
  exact ⟨this.1, this.2.1, this.2.2.1, this.2.2.2.1, this.2.2.2.2.1⟩
end Go.Proofs.YtngjadgglbkjlaaDoor.Med
end
section
set_option linter.unusedVariables false
set_option linter.unusedSimpArgs false
set_option linter.unusedSectionVars false
namespace Go.Proofs.YtngjadgglbkjlaaDoor.Med
open Go Go.Abs Go.Proofs
/-- what is read between brackets -/
def rs (inner : List UInt8) : Option Nat := match pset 100 0 inner with
  | none => none
  | some a => if okM a = true ∧ digL a = inner then some a else none
theorem rs_some {inner : List UInt8} {a : Nat} (h : rs inner = some a) : ∃ M, M < 1024 ∧ a = 4 * M ∧ okS M = true ∧ digL (4 * M) = inner := by
  unfold rs at h
  split at h
  · cases h
  · rename_i x hx
    split at h
    · rename_i hc
      cases h
      obtain ⟨h1, h2⟩ := pset_ok 100 0 inner a rfl (by decide) hx
      obtain ⟨M, rfl⟩ : ∃ M, a = 4 * M := ⟨a / 4, by omega⟩
      have hM : M < 1024 := by omega
      exact ⟨M, hM, rfl, by rw [(facts hM).ok]; exact hc.1, hc.2⟩
    · cases h
theorem rs_of {inner : List UInt8} {M : Nat} (hM : M < 1024) (h1 : okS M = true) (h2 : digL (4 * M) = inner) : rs inner = some (4 * M) := by
  subst h2
  unfold rs
  rw [(facts hM).ps]
  exact if_pos ⟨by rw [← (facts hM).ok]; exact h1, rfl⟩
end Go.Proofs.YtngjadgglbkjlaaDoor.Med
end
section
set_option linter.unusedVariables false
set_option linter.unusedSimpArgs false
set_option linter.unusedSectionVars false
namespace Go.Proofs.YtngjadgglbkjlaaDoor.Med
open Go Go.Abs Go.Proofs
set_option linter.unusedVariables false
set_option linter.unusedSimpArgs false
theorem lp82_2 (m : Nat) {R : Type} (kx0 : ByteArray → Int → Option R) (kx1 : Int → Option R) (inner : List UInt8) (b : ByteArray) : ∀ (d n i : Nat), i + d = 1024 → d < n → (∀ M, M < i → ¬ (okS M = true ∧ digL (4 * M) = inner)) →
    (∃ j : Int, Lp82_2 (m + 20) kx0 kx1 (bs ([91] ++ inner ++ [93])) b n i = match rs inner with
      | some a => kx0 (bs (setL (a / 4))) j
      | none => kx1 j)
  | _, 0, _, _, h, _ => by omega
  | 0, n + 1, i, h1, h2, h3 => by
    have hr : rs inner = none := by
      cases h : rs inner with
      | none => rfl
      | some a =>
        obtain ⟨M, q1, q2, q3, q4⟩ := rs_some h
        exact (h3 M (by omega) ⟨q3, q4⟩).elim
    refine ⟨i, ?_⟩
    rw [Lp82_2, hr]
    simp only [Lp82_2_step]
    rw [dF (by omega)]
  | d + 1, n + 1, i, h1, h2, h3 => by
    have hi : i < 1024 := by omega
    have F := facts hi
    have e1 : IntKind.wrap .i64 ((i : Int) + 1) = ((i + 1 : Nat) : Int) := by rw [w64 (by omega) (by omega)]; omega
    have st : Lp82_2 (m + 20) kx0 kx1 (bs ([91] ++ inner ++ [93])) b (n + 1) i = if okS i = true ∧ digL (4 * i) = inner then kx0 (bs (setL i)) i else Lp82_2 (m + 20) kx0 kx1 (bs ([91] ++ inner ++ [93])) b n ((i + 1 : Nat) : Int) := by
      rw [Lp82_2]
      simp only [Lp82_2_step, e1]
      rw [dT (by omega)]
      refine Eq.trans (lp82_8 (m + 20) hi _ _ b i 10 11 (m + 20) 0 [] (by omega) (by omega) (by omega) (by simp)) ?_
      show (bif decide (((bs (setL i)).size : Int) > 1) then _ else _) = _
      by_cases c1 : (setL i).length > 1
      · rw [dT (by rw [bs_size]; omega)]
        by_cases c2 : setL i = D10
        · have : okS i = false := by simp [okS, c2]
          rw [if_neg (by simp [this])]
          refine Eq.trans (lnF (x := (bs (setL i)).toList) (y := (bs D10).toList) (by rw [bs_toList, bs_toList]; exact c2)) rfl
        refine Eq.trans (lnT (x := (bs (setL i)).toList) (y := (bs D10).toList) (by rw [bs_toList, bs_toList]; exact c2)) ?_
        have z1 : ((bs D10).extract (Int.toNat (1 : Int)) (bs D10).size).toList = D10.drop 1 := by rw [bs_drop, bs_toList]; rfl
        have z2 : ((bs D10).extract (Int.toNat (2 : Int)) (bs D10).size).toList = D10.drop 2 := by rw [bs_drop, bs_toList]; rfl
        by_cases c3 : setL i = D10.drop 1
        · have : okS i = false := by simp [okS, c3]
          rw [if_neg (by simp [this])]
          refine Eq.trans (lnF (x := (bs (setL i)).toList) (y := ((bs D10).extract (Int.toNat (1 : Int)) (bs D10).size).toList) (by rw [bs_toList, z1]; exact c3)) rfl
        refine Eq.trans (lnT (x := (bs (setL i)).toList) (y := ((bs D10).extract (Int.toNat (1 : Int)) (bs D10).size).toList) (by rw [bs_toList, z1]; exact c3)) ?_
        by_cases c4 : setL i = D10.drop 2
        · have : okS i = false := by simp [okS, c4]
          rw [if_neg (by simp [this])]
          refine Eq.trans (lnF (x := (bs (setL i)).toList) (y := ((bs D10).extract (Int.toNat (2 : Int)) (bs D10).size).toList) (by rw [bs_toList, z2]; exact c4)) rfl
        refine Eq.trans (lnT (x := (bs (setL i)).toList) (y := ((bs D10).extract (Int.toNat (2 : Int)) (bs D10).size).toList) (by rw [bs_toList, z2]; exact c4)) ?_
        have hok : okS i = true := by simp only [okS, Bool.and_eq_true, decide_eq_true_eq]; exact ⟨c1, c2, c3, c4⟩
        refine Eq.trans (fn102 (m + 7) (L := setL i) F.len _) ?_
        by_cases c5 : digL (4 * i) = inner
        · rw [if_pos ⟨hok, c5⟩]
          exact lT (by rw [bs_toList, bs_toList, F.txt, c5])
        · rw [if_neg (fun h => c5 h.2)]
          exact lF (by rw [bs_toList, bs_toList, F.txt]; intro h; exact c5 (by simpa using h))
      · have : okS i = false := by simp [okS, c1]
        rw [dF (by rw [bs_size]; omega), if_neg (by simp [this])]
    rw [st]
    by_cases hc : okS i = true ∧ digL (4 * i) = inner
    · refine ⟨i, ?_⟩
      rw [if_pos hc, rs_of hi hc.1 hc.2]
      simp
    · rw [if_neg hc]
      exact lp82_2 m kx0 kx1 inner b d n (i + 1) (by omega) (by omega) (fun M hM => by
        by_cases h : M = i
        · subst h; exact hc
        · exact h3 M (by omega))
/-- the set that is written between brackets -/
def setOfP (inner : List UInt8) : List UInt8 := match rs inner with
  | some a => setL (a / 4)
  | none => []
theorem fn82 (m : Nat) (hm : 1100 ≤ m) (inner : List UInt8) {R : Type} (k : ByteArray → Option R) : Fn82 (m + 1) (bs ([91] ++ inner ++ [93])) k = k (bs (setOfP inner)) := by
  obtain ⟨m', rfl⟩ : ∃ m', m = m' + 20 := ⟨m - 20, by omega⟩
  obtain ⟨j, h⟩ := lp82_2 m' (fun s i => k s) (fun i => k (bs [])) inner (bs []) 1024 (m' + 20) 0 (by omega) (by omega) (by omega)
  unfold setOfP
  have h' : Fn82 (m' + 20 + 1) (bs ([91] ++ inner ++ [93])) k = Lp82_2 (m' + 20) (fun s i => k s) (fun i => k (bs [])) (bs ([91] ++ inner ++ [93])) (bs []) (m' + 20) ((0 : Nat) : Int) := by
    simp only [Fn82]
    rfl
  rw [h', h]
  cases rs inner <;> rfl
theorem fn101 (m : Nat) {t : List UInt8} (hl : t.length ≤ 90) (hm : 100 ≤ m) {R : Type} (k : Int → Int → Option R) : Fn101 (m + 32) (bs t) k = match ixB 93 t with
    | none => k 0 0
    | some e => match rs (t.take e) with
      | none => k 0 0
      | some a => k a ((e + 1 : Nat) : Int) := by
  simp only [Fn101]
  rw [fn42 (m + 29)]
  cases hx : ixB 93 t with
  | none =>
    have h93 : ixI (Int.toNat (93 : Int)).toUInt8 t = -1 := by
      show (match ixB 93 t with
        | some i => (i : Int)
        | none => -1) = _
      rw [hx]
    rw [h93]
    exact dT (by omega)
  | some e =>
    obtain ⟨he, _, _⟩ := ixB_lt hx
    have ee : IntKind.wrap .i64 ((e : Int) + 1) = ((e + 1 : Nat) : Int) := by rw [w64 (by omega) (by omega)]; omega
    have h93 : ixI (Int.toNat (93 : Int)).toUInt8 t = e := by
      show (match ixB 93 t with
        | some i => (i : Int)
        | none => -1) = _
      rw [hx]
    rw [h93]
    refine Eq.trans (dF (by omega)) ?_
    refine Eq.trans (lp101 m (t := t) (by omega) (e := e) (by omega) (fun a b => k a b) _ 0 0 100 0 0 (m + 31) (by omega) (by omega) (by omega) (by omega)) ?_
    simp only [List.drop_zero, rs]
    cases hp : pset 100 0 (t.take e) with
    | none => rfl
    | some a =>
      obtain ⟨q1, q2⟩ := pset_ok 100 0 _ a rfl (by decide) hp
      have f1 := fun k' => (fn100 (R := R) (m + 1) (a := 48) (b := 57) (by decide) (by decide) (by decide) k').1
      have f2 := fun k' => (fn100 (R := R) (m + 1) (a := 49) (b := 57) (by decide) (by decide) (by decide) k').1
      have f3 := fun k' => (fn100 (R := R) (m + 1) (a := 50) (b := 57) (by decide) (by decide) (by decide) k').1
      have f1' : ∀ k', Fn100 (m + 31) (48 : Int) (57 : Int) k' = k' (fromN 48 57) := f1
      have f2' : ∀ k', Fn100 (m + 31) (49 : Int) (57 : Int) k' = k' (fromN 49 57) := f2
      have f3' : ∀ k', Fn100 (m + 31) (50 : Int) (57 : Int) k' = k' (fromN 50 57) := f3
      simp only
      rw [fn126 (m + 30) (by omega)]
      by_cases c1 : popE a < 2
      · have : okM a = false := by simp only [okM]; rw [decide_eq_false (by omega : ¬ 2 ≤ popE a)]; rfl
        rw [dT c1, if_neg (by simp [this])]
      rw [dF c1, f1']
      by_cases c2 : a = fromN 48 57
      · have : okM a = false := by simp [okM, c2]
        rw [eT (by omega), if_neg (by simp [this])]
      rw [eF (by omega), f2']
      by_cases c3 : a = fromN 49 57
      · have : okM a = false := by simp [okM, c3]
        rw [eT (by omega), if_neg (by simp [this])]
      rw [eF (by omega), f3']
      by_cases c4 : a = fromN 50 57
      · have : okM a = false := by simp [okM, c4]
        rw [eT (by omega), if_neg (by simp [this])]
      have hok : okM a = true := by simp only [okM, Bool.and_eq_true, decide_eq_true_eq]; exact ⟨by omega, c2, c3, c4⟩
      rw [eF (by omega), fn127 (m + 18) (by omega), dT (by rw [bs_size]; omega), show Int.toNat (e : Int) = e by omega, bs_take, bs_toList, bs_toList]
      by_cases c5 : digL a = t.take e
      · rw [lnF c5, if_pos ⟨hok, c5⟩, ee]
      · rw [lnT c5, if_neg (fun h => c5 h.2)]
end Go.Proofs.YtngjadgglbkjlaaDoor.Med
end
section
set_option linter.unusedVariables false
set_option linter.unusedSimpArgs false
set_option linter.unusedSectionVars false
namespace Go.Proofs.YtngjadgglbkjlaaDoor.Med
open Go Go.Abs Go.Proofs
set_option linter.unusedVariables false
set_option linter.unusedSimpArgs false
/-! an element of a pattern: its mask, its set, and how many bytes it has -/
def elemP : List UInt8 → Option (Nat × List UInt8 × Nat)
  | [] => none
  | c :: r => match ixB c D12 with
    | some i => some (2 ^ i, [c], 1)
    | none => if c = 88 then some (fromN 48 57, D10, 1) else if c = 90 then some (fromN 49 57, D10.drop 1, 1) else if c = 78 then some (fromN 50 57, D10.drop 2, 1)
      else if c = 91 then (match ixB 93 r with
        | none => none
        | some e => match rs (r.take e) with
          | none => none
          | some a => some (a, setL (a / 4), e + 2))
      else none
structure ElemOk (l : List UInt8) (x : Nat) (S : List UInt8) (n : Nat) : Prop where
  lt : x < 4096
  same : sameSet x S = true
  ne : S ≠ []
  one : 1 ≤ n
  le : n ≤ l.length
theorem one_same : ((List.range 12).all fun i => sameSet (2 ^ i) [D12.getD i 0]) = true := by decide
theorem elem_ok {l : List UInt8} {x : Nat} {S : List UInt8} {n : Nat} (h : elemP l = some (x, S, n)) : ElemOk l x S n := by
  cases l with
  | nil => cases h
  | cons c r =>
    simp only [elemP] at h
    cases hi : ixB c D12 with
    | some i =>
      rw [hi] at h
      simp only [Option.some.injEq, Prod.mk.injEq] at h
      obtain ⟨rfl, rfl, rfl⟩ := h
      obtain ⟨h1, h2, _⟩ := ixB_lt hi
      have h1' : i < 12 := h1
      refine ⟨Nat.lt_of_lt_of_le (Nat.pow_lt_pow_right (by decide : 1 < 2) (show i < 12 from h1')) (by decide), ?_, by simp, by omega, by simp⟩
      have := List.all_eq_true.1 one_same i (List.mem_range.2 h1')
      rwa [h2] at this
    | none =>
      rw [hi] at h
      simp only at h
      split at h
      · simp only [Option.some.injEq, Prod.mk.injEq] at h
        obtain ⟨rfl, rfl, rfl⟩ := h
        exact ⟨by decide, by decide, by decide, by omega, by simp⟩
      split at h
      · simp only [Option.some.injEq, Prod.mk.injEq] at h
        obtain ⟨rfl, rfl, rfl⟩ := h
        exact ⟨by decide, by decide, by decide, by omega, by simp⟩
      split at h
      · simp only [Option.some.injEq, Prod.mk.injEq] at h
        obtain ⟨rfl, rfl, rfl⟩ := h
        exact ⟨by decide, by decide, by decide, by omega, by simp⟩
      split at h
      · split at h
        · cases h
        · rename_i e he
          split at h
          · cases h
          · rename_i a ha
            simp only [Option.some.injEq, Prod.mk.injEq] at h
            obtain ⟨rfl, rfl, rfl⟩ := h
            obtain ⟨M, hM, rfl, h3, h4⟩ := rs_some ha
            obtain ⟨q1, _⟩ := ixB_lt he
            have F := facts hM
            rw [show 4 * M / 4 = M by omega]
            refine ⟨by omega, F.same, ?_, by omega, by simp; omega⟩
            intro h0
            simp [okS, h0] at h3
      · cases h
theorem toN (c : UInt8) (n : Nat) (hn : n < 256) : (c.toNat : Int) = n ↔ c = n.toUInt8 := by
  constructor
  · intro h
    have : c.toNat = n := by omega
    rw [← this]; simp
  · rintro rfl
    simp [Nat.toUInt8, UInt8.toNat_ofNat']; omega
theorem fn85s (m : Nat) {c : UInt8} {i : Nat} (h : ixB c D12 = some i) {R : Type} (k : Int → Option R) : Fn85 (m + 3) (c.toNat : Int) k = k ((2 ^ i : Nat) : Int) := by
  have h1 : i < 12 := (ixB_lt h).1
  have hx : ixI ((c.toNat : Int).toNat.toUInt8) D12 = (i : Int) := by
    have : (c.toNat : Int).toNat.toUInt8 = c := by simp
    rw [this]
    unfold ixI
    rw [h]
  simp only [Fn85]
  refine Eq.trans (fn42 m D12 (c.toNat : Int) _) ?_
  rw [hx, dT (by omega)]
  congr 1
  rcases (show i = 0 ∨ i = 1 ∨ i = 2 ∨ i = 3 ∨ i = 4 ∨ i = 5 ∨ i = 6 ∨ i = 7 ∨ i = 8 ∨ i = 9 ∨ i = 10 ∨ i = 11 by omega) with rfl | rfl | rfl | rfl | rfl | rfl | rfl | rfl | rfl | rfl | rfl | rfl <;> rfl
theorem ix_ne {c : UInt8} {i : Nat} (h : ixB c D12 = some i) : c ≠ 88 ∧ c ≠ 90 ∧ c ≠ 78 ∧ c ≠ 91 ∧ c ≠ 46 ∧ c ≠ 33 := by
  refine ⟨?_, ?_, ?_, ?_, ?_, ?_⟩ <;> (rintro rfl; revert h; decide +revert)
theorem fn79 (m : Nat) (hm : 100 ≤ m) {c : UInt8} {r : List UInt8} (hl : r.length ≤ 80) {R : Type} (k : Int → Int → Option R) : Fn79 (m + 40) (bs (c :: r)) k = match elemP (c :: r) with
    | none => k 0 0
    | some (x, _, n) => k x n := by
  have f1 := fun k' => (fn100 (R := R) (m + 9) (a := 48) (b := 57) (by decide) (by decide) (by decide) k').1
  have f2 := fun k' => (fn100 (R := R) (m + 9) (a := 49) (b := 57) (by decide) (by decide) (by decide) k').1
  have f3 := fun k' => (fn100 (R := R) (m + 9) (a := 50) (b := 57) (by decide) (by decide) (by decide) k').1
  have f1' : ∀ k', Fn100 (m + 39) (48 : Int) (57 : Int) k' = k' (fromN 48 57) := f1
  have f2' : ∀ k', Fn100 (m + 39) (49 : Int) (57 : Int) k' = k' (fromN 49 57) := f2
  have f3' : ∀ k', Fn100 (m + 39) (50 : Int) (57 : Int) k' = k' (fromN 50 57) := f3
  have hc0 : (c :: r).getD (Int.toNat (0 : Int)) 0 = c := rfl
  have hcc : (c.toNat : Int).toNat.toUInt8 = c := by simp
  simp only [Fn79, bs_at, arr_at, bs_size, hc0, elemP]
  rw [dT (by simp)]
  cases hi : ixB c D12 with
  | some i =>
    obtain ⟨n1, n2, n3, n4, _, _⟩ := ix_ne hi
    rw [eF (show ¬ (c.toNat : Int) = 88 from fun h => n1 ((toN c 88 (by decide)).1 h)), eF (show ¬ (c.toNat : Int) = 90 from fun h => n2 ((toN c 90 (by decide)).1 h)), eF (show ¬ (c.toNat : Int) = 78 from fun h => n3 ((toN c 78 (by decide)).1 h)), eF (show ¬ (c.toNat : Int) = 91 from fun h => n4 ((toN c 91 (by decide)).1 h))]
    refine Eq.trans (fn42 (m + 37) D12 (c.toNat : Int) _) ?_
    rw [hcc]
    have hix : ixI c D12 = (i : Int) := by unfold ixI; rw [hi]
    rw [hix, dT (by omega), fn85s (m + 36) hi]
    rfl
  | none =>
    simp only
    by_cases c1 : c = 88
    · subst c1; rw [eT (by decide), f1', if_pos rfl]; rfl
    rw [eF (show ¬ (c.toNat : Int) = 88 from fun h => c1 ((toN c 88 (by decide)).1 h)), if_neg c1]
    by_cases c2 : c = 90
    · subst c2; rw [eT (by decide), f2', if_pos rfl]; rfl
    rw [eF (show ¬ (c.toNat : Int) = 90 from fun h => c2 ((toN c 90 (by decide)).1 h)), if_neg c2]
    by_cases c3 : c = 78
    · subst c3; rw [eT (by decide), f3', if_pos rfl]; rfl
    rw [eF (show ¬ (c.toNat : Int) = 78 from fun h => c3 ((toN c 78 (by decide)).1 h)), if_neg c3]
    by_cases c4 : c = 91
    · subst c4
      rw [eT (by decide), if_pos rfl, dT (by simp only [List.length_cons]; omega)]
      have hd : (bs ((91 : UInt8) :: r)).extract (Int.toNat (1 : Int)) (91 :: r).length = bs r := by
        have := bs_drop ((91 : UInt8) :: r) 1
        rw [bs_size] at this
        exact this
      rw [hd, fn101 (m + 7) (by omega) (by omega)]
      cases hx : ixB 93 r with
      | none => simp only; rw [eT rfl]
      | some e =>
        obtain ⟨q1, _⟩ := ixB_lt hx
        simp only
        cases hr : rs (r.take e) with
        | none => simp only; rw [eT rfl]
        | some a =>
          simp only
          rw [eF (by omega), w64 (by omega) (by omega)]
          congr 1
    · rw [eF (show ¬ (c.toNat : Int) = 91 from fun h => c4 ((toN c 91 (by decide)).1 h)), if_neg c4]
      refine Eq.trans (fn42 (m + 37) D12 (c.toNat : Int) _) ?_
      rw [hcc]
      have hix : ixI c D12 = -1 := by unfold ixI; rw [hi]
      rw [hix, dF (by omega)]
end Go.Proofs.YtngjadgglbkjlaaDoor.Med
end
section
set_option linter.unusedVariables false
set_option linter.unusedSimpArgs false
set_option linter.unusedSectionVars false
namespace Go.Proofs.YtngjadgglbkjlaaDoor.Med
open Go Go.Abs Go.Proofs
set_option linter.unusedVariables false
set_option linter.unusedSimpArgs false
/-! patterns -/
def parseP : Nat → List UInt8 → Option (List (Nat × List UInt8) × Nat)
  | 0, _ => none
  | f + 1, l => if l = [] then some ([], 0) else if l = [46] then some ([], 46) else if l = [33] then some ([], 33) else match elemP l with
    | none => none
    | some (x, S, n) => match parseP f (l.drop n) with
      | none => none
      | some (es, t) => some ((x, S) :: es, t)
def mrow (es : List (Nat × List UInt8)) : Abs.Rows := es.map fun e => [F.lit (Value.int IntKind.u16 (e.1 : Int))]
def srow (es : List (Nat × List UInt8)) : Abs.Rows := es.map fun e => [F.lit (Value.string (bs e.2))]
theorem mrow_len (es : List (Nat × List UInt8)) : (mrow es).length = es.length := by simp [mrow]
theorem srow_len (es : List (Nat × List UInt8)) : (srow es).length = es.length := by simp [srow]
theorem mrow_app (es : List (Nat × List UInt8)) (x : Nat) (S : List UInt8) : mrow es ++ [[F.lit (Value.int IntKind.u16 (x : Int))]] = mrow (es ++ [(x, S)]) := by simp [mrow]
theorem srow_app (es : List (Nat × List UInt8)) (x : Nat) (S : List UInt8) : srow es ++ [[F.lit (Value.string (bs S))]] = srow (es ++ [(x, S)]) := by simp [srow]
theorem nil_lit : ({ data := #[] } : ByteArray) = bs [] := rfl
theorem lp39 (m : Nat) (hm : 100 ≤ m) {R : Type} (g0 : Abs.Rows → Int → Option R) (g1 : Abs.Rows → Int → Int → Option R) : ∀ (f n : Nat) (l : List UInt8) (acc : List (Nat × List UInt8)), l.length < f → l.length < n → l.length ≤ 80 → acc.length + l.length ≤ 80 →
    Lp39_6 (m + 41) (fun r t _ => g0 r t) (fun a b c _ _ => g1 a b c) rows0 0 0 0 n (mrow acc) (bs l) = match parseP f l with
      | none => g1 rows0 0 9
      | some (es, t) => g0 (mrow (acc ++ es)) t
  | 0, _, _, _, h, _, _, _ => by omega
  | _, 0, _, _, _, h, _, _ => by omega
  | f + 1, n + 1, l, acc, h1, h2, h3, h4 => by
    rw [Lp39_6, parseP]
    simp only [Lp39_6_step, nil_lit]
    by_cases c0 : l = []
    · subst c0
      rw [if_pos rfl, lnF (by rw [bs_toList])]
      show _ = g0 (mrow (acc ++ [])) _
      rw [List.append_nil]
      rfl
    rw [if_neg c0, lnT (by rw [bs_toList, bs_toList]; exact c0)]
    have hs0 : (0 : Int) ≤ 0 ∧ (0 : Int) < (((bs l).size : Nat) : Int) := by
      rw [bs_size]
      have : l.length ≠ 0 := fun h => c0 (List.length_eq_zero_iff.1 h)
      omega
    by_cases c1 : l = [46]
    · rw [if_pos c1]
      refine Eq.trans (lT (x := (bs l).toList) (y := (bs [46]).toList) (by rw [bs_toList, bs_toList]; exact c1)) ?_
      rw [dT hs0]
      subst c1
      show _ = g0 (mrow (acc ++ [])) _
      rw [List.append_nil]
      rfl
    rw [if_neg c1]
    refine Eq.trans (lF (x := (bs l).toList) (y := (bs [46]).toList) (by rw [bs_toList, bs_toList]; exact c1)) ?_
    by_cases c2 : l = [33]
    · rw [if_pos c2]
      refine Eq.trans (lT (x := (bs l).toList) (y := (bs [33]).toList) (by rw [bs_toList, bs_toList]; exact c2)) ?_
      rw [dT hs0]
      subst c2
      show _ = g0 (mrow (acc ++ [])) _
      rw [List.append_nil]
      rfl
    rw [if_neg c2]
    refine Eq.trans (lF (x := (bs l).toList) (y := (bs [33]).toList) (by rw [bs_toList, bs_toList]; exact c2)) ?_
    obtain ⟨c, r, rfl⟩ : ∃ c r, l = c :: r := by cases l with | nil => exact (c0 rfl).elim | cons c r => exact ⟨c, r, rfl⟩
    simp only [List.length_cons] at h1 h2 h3 h4
    simp only [Jn39_11]
    rw [fn79 (m + 1) (by omega) (by omega)]
    cases he : elemP (c :: r) with
    | none => simp only; rw [eT rfl]
    | some p =>
      obtain ⟨x, S, k⟩ := p
      have E := elem_ok he
      have h5 := E.one
      have h6 := E.le
      simp only [List.length_cons] at h6
      simp only
      rw [eF (by omega), dT (by rw [mrow_len, rM]; simp; omega)]
      simp only [letV]
      rw [dT (by rw [bs_size]; simp only [List.length_cons]; omega), show Int.toNat (k : Int) = k by omega, bs_drop, mrow_app acc x S]
      rw [lp39 m hm g0 g1 f n ((c :: r).drop k) (acc ++ [(x, S)]) (by simp; omega) (by simp; omega) (by simp; omega) (by simp; omega)]
      cases parseP f ((c :: r).drop k) with
      | none => rfl
      | some q => obtain ⟨es, t⟩ := q; simp
theorem jn41_18 (m : Nat) {R : Type} (kx0 : Bool → Option R) (kx1 : ByteArray → Abs.Rows → Option R) (l : List UInt8) (a : Abs.Rows) (z1 : Int) (z2 : Bool) (es : List (Nat × List UInt8)) (hes : es.length ≤ 80) (z3 : Int) (S : List UInt8) (n : Nat) (hn : n ≤ l.length) (x : Nat) :
    Jn41_18 m kx0 kx1 (bs l) a z1 z2 (srow es) z3 (bs S) n = if S = [] then kx0 false else kx1 (bs (l.drop n)) (srow (es ++ [(x, S)])) := by
  simp only [Jn41_18, nil_lit]
  by_cases h : S = []
  · rw [if_pos h, lT (by rw [bs_toList, bs_toList]; exact h)]
  · rw [if_neg h, lF (by rw [bs_toList, bs_toList]; exact h), dT (by rw [srow_len, rM]; simp; omega)]
    simp only [letV]
    rw [dT (by rw [bs_size]; omega), show Int.toNat (n : Int) = n by omega, bs_drop, srow_app]
end Go.Proofs.YtngjadgglbkjlaaDoor.Med
end
section
set_option linter.unusedVariables false
set_option linter.unusedSimpArgs false
set_option linter.unusedSectionVars false
namespace Go.Proofs.YtngjadgglbkjlaaDoor.Med
open Go Go.Abs Go.Proofs
set_option linter.unusedVariables false
set_option linter.unusedSimpArgs false
theorem lp41 (m : Nat) (hm : 1200 ≤ m) {R : Type} (g0 : Abs.Rows → Int → Bool → Option R) (g1 : Abs.Rows → Option R) (z1 : Int) (z2 : Bool) : ∀ (f n : Nat) (l : List UInt8) (acc : List (Nat × List UInt8)), l.length < f → l.length < n → l.length ≤ 80 → acc.length + l.length ≤ 80 →
    ∃ rr : Abs.Rows, Lp41_2 (m + 1) (fun _ r t b _ _ => g0 r t b) (fun _ r => g1 r) rows0 z1 z2 0 n (bs l) (srow acc) = match parseP f l with
      | none => g0 rr 0 false
      | some (es, t) => if t = 0 then g1 (srow (acc ++ es)) else g0 (srow (acc ++ es)) t (decide (((acc ++ es).length : Int) < 30))
  | 0, _, _, _, h, _, _, _ => by omega
  | _, 0, _, _, _, h, _, _ => by omega
  | f + 1, n + 1, l, acc, h1, h2, h3, h4 => by
    by_cases c0 : l = []
    · subst c0
      refine ⟨rows0, ?_⟩
      rw [Lp41_2, parseP, if_pos rfl]
      simp only [Lp41_2_step, nil_lit]
      rw [lnF (by rw [bs_toList])]
      simp
    obtain ⟨c, r, rfl⟩ : ∃ c r, l = c :: r := by cases l with | nil => exact (c0 rfl).elim | cons c r => exact ⟨c, r, rfl⟩
    simp only [List.length_cons] at h1 h2 h3 h4
    have hc0 : (c :: r).getD (Int.toNat (0 : Int)) 0 = c := rfl
    have hcc : (c.toNat : Int).toNat.toUInt8 = c := by simp
    -- one element
    have next : ∀ (x : Nat) (S : List UInt8) (k : Nat), S ≠ [] → 1 ≤ k → k ≤ r.length + 1 → elemP (c :: r) = some (x, S, k) → (c :: r) ≠ [46] → (c :: r) ≠ [33] →
        ∃ rr, Lp41_2 (m + 1) (fun _ r t b _ _ => g0 r t b) (fun _ r => g1 r) rows0 z1 z2 0 n (bs ((c :: r).drop k)) (srow (acc ++ [(x, S)])) = match parseP (f + 1) (c :: r) with
          | none => g0 rr 0 false
          | some (es, t) => if t = 0 then g1 (srow (acc ++ es)) else g0 (srow (acc ++ es)) t (decide (((acc ++ es).length : Int) < 30)) := by
      intro x S k hS hk1 hk2 he c1 c2
      obtain ⟨rr, ih⟩ := lp41 m hm g0 g1 z1 z2 f n ((c :: r).drop k) (acc ++ [(x, S)]) (by simp; omega) (by simp; omega) (by simp; omega) (by simp; omega)
      refine ⟨rr, ih.trans ?_⟩
      have hp : parseP (f + 1) (c :: r) = match parseP f ((c :: r).drop k) with
          | none => none
          | some (es, t) => some ((x, S) :: es, t) := by
        rw [parseP, if_neg (by simp), if_neg c1, if_neg c2, he]
        all_goals rfl
      rw [hp]
      cases parseP f ((c :: r).drop k) with
      | none => rfl
      | some q => obtain ⟨es, t⟩ := q; simp
    have noElem : elemP (c :: r) = none → (c :: r) ≠ [46] → (c :: r) ≠ [33] → parseP (f + 1) (c :: r) = none := by
      intro he c1 c2
      rw [parseP, if_neg (by simp), if_neg c1, if_neg c2, he]
    rw [Lp41_2]
    simp only [Lp41_2_step, nil_lit, bs_at, arr_at, hc0]
    rw [lnT (by rw [bs_toList, bs_toList]; simp), dT (by rw [bs_size]; simp only [List.length_cons]; omega)]
    have hel : elemP (c :: r) = match ixB c D12 with
      | some i => some (2 ^ i, [c], 1)
      | none => if c = 88 then some (fromN 48 57, D10, 1) else if c = 90 then some (fromN 49 57, D10.drop 1, 1) else if c = 78 then some (fromN 50 57, D10.drop 2, 1)
        else if c = 91 then (match ixB 93 r with
          | none => none
          | some e => match rs (r.take e) with
            | none => none
            | some a => some (a, setL (a / 4), e + 2))
        else none := rfl
    have h42 : ∀ (k : Int → Option R), Fn42 (m + 1) { data := #[(35 : UInt8), (42 : UInt8), (48 : UInt8), (49 : UInt8), (50 : UInt8), (51 : UInt8), (52 : UInt8), (53 : UInt8), (54 : UInt8), (55 : UInt8), (56 : UInt8), (57 : UInt8)] } (c.toNat : Int) k = k (ixI c D12) := by
      intro k
      obtain ⟨m', rfl⟩ : ∃ m', m = m' + 1 := ⟨m - 1, by omega⟩
      refine Eq.trans (fn42 m' D12 (c.toNat : Int) k) ?_
      rw [hcc]
    rw [h42]
    cases hi : ixB c D12 with
    | some i =>
      obtain ⟨_, _, _, _, n5, n6⟩ := ix_ne hi
      rw [hi] at hel
      have hix : ixI c D12 = (i : Int) := by unfold ixI; rw [hi]
      have c1 : (c :: r) ≠ [46] := by intro h; simp at h; exact n5 h.1
      have c2 : (c :: r) ≠ [33] := by intro h; simp at h; exact n6 h.1
      obtain ⟨rr, ih⟩ := next (2 ^ i) [c] 1 (by simp) (by omega) (by omega) hel c1 c2
      refine ⟨rr, ?_⟩
      rw [hix, dT (by omega), dT (by rw [bs_size]; simp only [List.length_cons]; omega), bs_take]
      refine Eq.trans (jn41_18 (m + 1) _ _ (c :: r) rows0 z1 z2 acc (by omega) 0 [c] 1 (by simp) (2 ^ i)) ?_
      rw [if_neg (by simp)]
      exact ih
    | none =>
      rw [hi] at hel
      have hix : ixI c D12 = -1 := by unfold ixI; rw [hi]
      rw [hix, dF (by omega)]
      simp only at hel
      by_cases c1 : c = 88
      · subst c1
        rw [if_pos rfl] at hel
        obtain ⟨rr, ih⟩ := next _ D10 1 (by simp [D10]) (by omega) (by omega) hel (by simp) (by simp)
        refine ⟨rr, ?_⟩
        rw [eT (by decide)]
        refine Eq.trans (jn41_18 (m + 1) _ _ (88 :: r) rows0 z1 z2 acc (by omega) 0 D10 1 (by simp) (fromN 48 57)) ?_
        rw [if_neg (by simp [D10])]
        exact ih
      rw [eF (show ¬ (c.toNat : Int) = 88 from fun h => c1 ((toN c 88 (by decide)).1 h))]
      rw [if_neg c1] at hel
      by_cases c2 : c = 90
      · subst c2
        rw [if_pos rfl] at hel
        obtain ⟨rr, ih⟩ := next _ (D10.drop 1) 1 (by simp [D10]) (by omega) (by omega) hel (by simp) (by simp)
        refine ⟨rr, ?_⟩
        rw [eT (by decide)]
        have hz : ({ data := #[(48 : UInt8), (49 : UInt8), (50 : UInt8), (51 : UInt8), (52 : UInt8), (53 : UInt8), (54 : UInt8), (55 : UInt8), (56 : UInt8), (57 : UInt8)] } : ByteArray).extract (Int.toNat (1 : Int)) ({ data := #[(48 : UInt8), (49 : UInt8), (50 : UInt8), (51 : UInt8), (52 : UInt8), (53 : UInt8), (54 : UInt8), (55 : UInt8), (56 : UInt8), (57 : UInt8)] } : ByteArray).size = bs (D10.drop 1) := bs_drop D10 1
        rw [hz]
        refine Eq.trans (jn41_18 (m + 1) _ _ (90 :: r) rows0 z1 z2 acc (by omega) 0 (D10.drop 1) 1 (by simp) (fromN 49 57)) ?_
        rw [if_neg (by simp [D10])]
        exact ih
      rw [eF (show ¬ (c.toNat : Int) = 90 from fun h => c2 ((toN c 90 (by decide)).1 h))]
      rw [if_neg c2] at hel
      by_cases c3 : c = 78
      · subst c3
        rw [if_pos rfl] at hel
        obtain ⟨rr, ih⟩ := next _ (D10.drop 2) 1 (by simp [D10]) (by omega) (by omega) hel (by simp) (by simp)
        refine ⟨rr, ?_⟩
        rw [eT (by decide)]
        have hz : ({ data := #[(48 : UInt8), (49 : UInt8), (50 : UInt8), (51 : UInt8), (52 : UInt8), (53 : UInt8), (54 : UInt8), (55 : UInt8), (56 : UInt8), (57 : UInt8)] } : ByteArray).extract (Int.toNat (2 : Int)) ({ data := #[(48 : UInt8), (49 : UInt8), (50 : UInt8), (51 : UInt8), (52 : UInt8), (53 : UInt8), (54 : UInt8), (55 : UInt8), (56 : UInt8), (57 : UInt8)] } : ByteArray).size = bs (D10.drop 2) := bs_drop D10 2
        rw [hz]
        refine Eq.trans (jn41_18 (m + 1) _ _ (78 :: r) rows0 z1 z2 acc (by omega) 0 (D10.drop 2) 1 (by simp) (fromN 50 57)) ?_
        rw [if_neg (by simp [D10])]
        exact ih
      rw [eF (show ¬ (c.toNat : Int) = 78 from fun h => c3 ((toN c 78 (by decide)).1 h))]
      rw [if_neg c3] at hel
      by_cases c4 : c = 91
      · subst c4
        rw [if_pos rfl] at hel
        rw [eT (by decide)]
        have c5 : ((91 : UInt8) :: r) ≠ [46] := by simp
        have c6 : ((91 : UInt8) :: r) ≠ [33] := by simp
        obtain ⟨m', rfl⟩ : ∃ m', m = m' + 1 := ⟨m - 1, by omega⟩
        have h93 : ixI (Int.toNat (93 : Int)).toUInt8 (91 :: r) = match ixB 93 r with
            | some e => ((e + 1 : Nat) : Int)
            | none => -1 := by
          show (match ixB 93 (91 :: r) with
            | some i => (i : Int)
            | none => -1) = _
          rw [show ixB 93 ((91 : UInt8) :: r) = (ixB 93 r).map (· + 1) from rfl]
          cases ixB 93 r <;> rfl
        rw [fn42 m' (91 :: r) 93, h93]
        cases hx : ixB 93 r with
        | none =>
          rw [hx] at hel
          refine ⟨srow acc, ?_⟩
          simp only
          rw [dF (by rw [w64 (by omega) (by omega)]; omega), noElem hel c5 c6]
          refine Eq.trans (jn41_18 (m' + 1 + 1) _ _ (91 :: r) rows0 z1 z2 acc (by omega) 0 [] 0 (by simp) 0) ?_
          rw [if_pos rfl]
        | some e =>
          obtain ⟨q1, q2, _⟩ := ixB_lt hx
          rw [hx] at hel
          have ee : IntKind.wrap .i64 (((e + 1 : Nat) : Int) + 1) = ((e + 2 : Nat) : Int) := by rw [w64 (by omega) (by omega)]; omega
          have htk : (91 :: r).take (e + 2) = [91] ++ r.take e ++ [93] := by
            rw [show e + 2 = (e + 1) + 1 by omega, List.take_succ_cons, List.take_add_one, List.getElem?_eq_getElem q1]
            have : r[e] = 93 := by
              rw [List.getD_eq_getElem?_getD, List.getElem?_eq_getElem q1] at q2
              exact q2
            simp [this]
          simp only [ee]
          rw [dT (by omega), dT (by rw [bs_size]; simp only [List.length_cons]; omega), show Int.toNat ((e + 2 : Nat) : Int) = e + 2 by omega, bs_take, htk, fn82 (m' + 1) (by omega)]
          simp only at hel
          cases hr : rs (r.take e) with
          | none =>
            rw [hr] at hel
            have hs : setOfP (r.take e) = [] := by unfold setOfP; rw [hr]
            refine ⟨srow acc, ?_⟩
            rw [noElem hel c5 c6, hs]
            refine Eq.trans (jn41_18 (m' + 1 + 1) _ _ (91 :: r) rows0 z1 z2 acc (by omega) 0 [] (e + 2) (by simp; omega) 0) ?_
            rw [if_pos rfl]
          | some a =>
            rw [hr] at hel
            simp only at hel
            have E := elem_ok hel
            have hs : setOfP (r.take e) = setL (a / 4) := by unfold setOfP; rw [hr]
            obtain ⟨rr, ih⟩ := next a (setL (a / 4)) (e + 2) E.ne E.one (by have := E.le; simpa using this) hel c5 c6
            refine ⟨rr, ?_⟩
            rw [hs]
            refine Eq.trans (jn41_18 (m' + 1 + 1) _ _ (91 :: r) rows0 z1 z2 acc (by omega) 0 (setL (a / 4)) (e + 2) (by simp; omega) a) ?_
            rw [if_neg E.ne]
            exact ih
      rw [eF (show ¬ (c.toNat : Int) = 91 from fun h => c4 ((toN c 91 (by decide)).1 h))]
      rw [if_neg c4] at hel
      have hsl : (List.length (srow acc) : Int) = ((acc.length : Nat) : Int) := by rw [srow_len]
      by_cases c5 : c :: r = [46]
      · refine ⟨rows0, ?_⟩
        refine Eq.trans (lT (x := (bs (c :: r)).toList) (y := (bs [46]).toList) (by rw [bs_toList, bs_toList]; exact c5)) ?_
        simp only [Jn41_15, cond_true, hsl]
        rw [c5, parseP, if_neg (by simp), if_pos rfl]
        simp at c5
        rw [c5.1]
        simp
      by_cases c6 : c :: r = [33]
      · refine ⟨rows0, ?_⟩
        refine Eq.trans (lF (x := (bs (c :: r)).toList) (y := (bs [46]).toList) (by rw [bs_toList, bs_toList]; exact c5)) ?_
        have hb : ((bs (c :: r)).toList == (bs [33]).toList) = true := by rw [bs_toList, bs_toList, c6]; rfl
        refine Eq.trans (b := Jn41_15 (m + 1) (fun b484 b485 => g0 (srow acc) (c.toNat : Int) b484) _ (bs (c :: r)) rows0 z1 z2 (srow acc) 0 (c.toNat : Int) (bs []) 1 ((bs (c :: r)).toList == (bs [33]).toList)) rfl ?_
        rw [hb]
        simp only [Jn41_15, cond_true, hsl]
        rw [c6, parseP, if_neg (by simp), if_neg (by simp), if_pos rfl]
        simp at c6
        rw [c6.1]
        simp
      · refine ⟨srow acc, ?_⟩
        refine Eq.trans (lF (x := (bs (c :: r)).toList) (y := (bs [46]).toList) (by rw [bs_toList, bs_toList]; exact c5)) ?_
        have hb : ((bs (c :: r)).toList == (bs [33]).toList) = false := by rw [bs_toList, bs_toList]; exact beq_false_of_ne c6
        refine Eq.trans (b := Jn41_15 (m + 1) _ (fun b486 => Jn41_18 (m + 1) (fun b487 => g0 (srow acc) 0 b487) (fun s488 r489 => Lp41_2 (m + 1) (fun _ r t b _ _ => g0 r t b) (fun _ r => g1 r) rows0 z1 z2 0 n s488 r489) (bs (c :: r)) rows0 z1 z2 (srow acc) 0 (bs []) 1) (bs (c :: r)) rows0 z1 z2 (srow acc) 0 (c.toNat : Int) (bs []) 1 ((bs (c :: r)).toList == (bs [33]).toList)) rfl ?_
        rw [hb]
        simp only [Jn41_15, cond_false]
        rw [noElem hel c5 c6]
        refine Eq.trans (jn41_18 (m + 1) _ _ (c :: r) rows0 z1 z2 acc (by omega) 0 [] 1 (by simp) 0) ?_
        rw [if_pos rfl]
end Go.Proofs.YtngjadgglbkjlaaDoor.Med
end
section
set_option linter.unusedVariables false
set_option linter.unusedSimpArgs false
set_option linter.unusedSectionVars false
namespace Go.Proofs.YtngjadgglbkjlaaDoor.Med
open Go Go.Abs Go.Proofs
set_option linter.unusedVariables false
set_option linter.unusedSimpArgs false
/-! what is read of a pattern -/
abbrev Pat := List (Nat × List UInt8) × Nat
def many (p : Pat) : Nat := p.1.length + if p.2 = 0 then 0 else 1
def readP (l : List UInt8) : Option Pat := if 60 < l.length then none else match parseP 61 l with
  | none => none
  | some p => if 1 ≤ many p ∧ many p ≤ 30 then some p else none
def faultP (l : List UInt8) : Int := if 60 < l.length then 2 else 9
structure PatOk (p : Pat) : Prop where
  es : ∀ e ∈ p.1, e.1 < 4096 ∧ sameSet e.1 e.2 = true
  tail : p.2 = 0 ∨ p.2 = 46 ∨ p.2 = 33
  len : p.1.length ≤ 30
theorem parse_ok : ∀ (f : Nat) (l : List UInt8) (es : List (Nat × List UInt8)) (t : Nat), parseP f l = some (es, t) → (∀ e ∈ es, e.1 < 4096 ∧ sameSet e.1 e.2 = true) ∧ (t = 0 ∨ t = 46 ∨ t = 33)
  | 0, _, _, _, h => by cases h
  | f + 1, l, es, t, h => by
    rw [parseP] at h
    split at h
    · cases h; exact ⟨by simp, .inl rfl⟩
    split at h
    · cases h; exact ⟨by simp, .inr (.inl rfl)⟩
    split at h
    · cases h; exact ⟨by simp, .inr (.inr rfl)⟩
    split at h
    · cases h
    · rename_i x S n he
      split at h
      · cases h
      · rename_i es' t' hp
        cases h
        obtain ⟨h1, h2⟩ := parse_ok f _ es' t hp
        have E := elem_ok he
        refine ⟨fun e hm => ?_, h2⟩
        rcases List.mem_cons.1 hm with rfl | hm
        · exact ⟨E.lt, E.same⟩
        · exact h1 e hm
theorem read_ok {l : List UInt8} {p : Pat} (h : readP l = some p) : PatOk p ∧ l.length ≤ 60 := by
  unfold readP at h
  split at h
  · cases h
  · rename_i hl
    split at h
    · cases h
    · rename_i q hq
      split at h
      · rename_i hm
        cases h
        obtain ⟨es, t⟩ := p
        obtain ⟨h1, h2⟩ := parse_ok _ _ _ _ hq
        refine ⟨⟨h1, h2, ?_⟩, by omega⟩
        have := hm.2
        unfold many at this
        simp only at this ⊢
        omega
      · cases h
theorem fn39 (m : Nat) (hm : 200 ≤ m) (l : List UInt8) {R : Type} (k : Abs.Rows → Int → Int → Option R) : Fn39 (m + 42) (bs l) k = match readP l with
    | none => k rows0 0 (faultP l)
    | some p => k (mrow p.1) p.2 0 := by
  simp only [Fn39]
  unfold readP faultP
  by_cases h : 60 < l.length
  · rw [dT (by rw [bs_size]; omega), if_pos h, if_pos h]
  · rw [dF (by rw [bs_size]; omega), if_neg h, if_neg h]
    refine Eq.trans (lp39 m (by omega) (fun r285 i286 => bif i286 != (0 : Int) then (Jn39_19 (m + 41) (fun r298 i299 i300 => k r298 i299 i300) (fun i301 => k r285 i286 i301) rows0 (0 : Int) (0 : Int) r285 i286 (IntKind.wrap IntKind.i64 ((List.length r285 : Int) + (1 : Int)))) else (Jn39_19 (m + 41) (fun r302 i303 i304 => k r302 i303 i304) (fun i305 => k r285 i286 i305) rows0 (0 : Int) (0 : Int) r285 i286 (List.length r285 : Int))) k 61 (m + 41) l [] (by omega) (by omega) (by omega) (by simp; omega)) ?_
    cases hp : parseP 61 l with
    | none => rfl
    | some p =>
      obtain ⟨es, t⟩ := p
      simp only [List.nil_append, many, mrow_len, Jn39_19]
      by_cases ht : t = 0
      · subst ht
        rw [nF (by rfl)]
        simp only [if_true, Nat.add_zero]
        by_cases c1 : es.length < 1
        · rw [dT (by omega), if_neg (by omega)]
        · rw [dF (by omega)]
          by_cases c2 : es.length > 30
          · rw [dT (by omega), if_neg (by omega)]
          · rw [dF (by omega), if_pos ⟨by omega, by omega⟩]
      · have hlen : es.length < 1000000000 ∨ 1000000000 ≤ es.length := by omega
        rw [nT (by omega)]
        simp only [if_neg ht]
        have hes : es.length ≤ 61 := by
          have : ∀ (f : Nat) (l : List UInt8) (es : List (Nat × List UInt8)) (t : Nat), parseP f l = some (es, t) → es.length ≤ f := by
            intro f
            induction f with
            | zero => intro l es t h; cases h
            | succ f ih =>
              intro l es t h
              rw [parseP] at h
              split at h
              · cases h; simp
              split at h
              · cases h; simp
              split at h
              · cases h; simp
              split at h
              · cases h
              · split at h
                · cases h
                · rename_i es' t' hp
                  cases h
                  have := ih _ _ _ hp
                  simp; omega
          exact this _ _ _ _ hp
        rw [w64 (by omega) (by omega), dF (by omega)]
        by_cases c2 : es.length + 1 > 30
        · rw [dT (by omega), if_neg (by omega)]
        · rw [dF (by omega), if_pos ⟨by omega, by omega⟩]
theorem fn48 (m : Nat) (x lo hi : Int) {R : Type} (k : Bool → Option R) : Fn48 (m + 1) x lo hi k = k (decide (lo ≤ x ∧ x ≤ hi)) := by
  simp only [Fn48]
  by_cases h : lo ≤ x
  · rw [dT h]; congr 1; rw [decide_eq_decide]; omega
  · rw [dF h]; congr 1; symm; rw [decide_eq_false_iff_not]; omega
theorem fn41 (m : Nat) (hm : 1300 ≤ m) (l : List UInt8) (hl : l.length ≤ 60) {R : Type} (k : Abs.Rows → Int → Bool → Option R) : ∃ rr tt, Fn41 (m + 2) (bs l) k = match readP l with
    | none => k rr tt false
    | some p => k (srow p.1) p.2 true := by
  obtain ⟨rr, h⟩ := lp41 m (by omega) k (fun r505 => Fn48 (m + 1) (List.length r505 : Int) (1 : Int) (30 : Int) (fun b510 => k r505 (0 : Int) b510)) 0 false 61 (m + 1) l [] (by omega) (by omega) (by omega) (by simp; omega)
  have h' : Fn41 (m + 2) (bs l) k = Lp41_2 (m + 1) (fun _ r t b _ _ => k r t b) (fun _ r505 => Fn48 (m + 1) (List.length r505 : Int) (1 : Int) (30 : Int) (fun b510 => k r505 (0 : Int) b510)) rows0 0 false 0 (m + 1) (bs l) (srow []) := by
    simp only [Fn41]; rfl
  rw [h', h]
  unfold readP
  rw [if_neg (by omega)]
  cases hp : parseP 61 l with
  | none => exact ⟨rr, 0, rfl⟩
  | some p =>
    obtain ⟨es, t⟩ := p
    refine ⟨srow es, t, ?_⟩
    simp only [List.nil_append, many]
    by_cases ht : t = 0
    · subst ht
      simp only [if_true, Nat.add_zero]
      rw [fn48, srow_len]
      by_cases c : 1 ≤ es.length ∧ es.length ≤ 30
      · rw [if_pos c, decide_eq_true (by omega : (1 : Int) ≤ (es.length : Int) ∧ (es.length : Int) ≤ 30)]; rfl
      · rw [if_neg c, decide_eq_false (by omega : ¬ ((1 : Int) ≤ (es.length : Int) ∧ (es.length : Int) ≤ 30))]; rfl
    · simp only [if_neg ht]
      by_cases c : 1 ≤ es.length + 1 ∧ es.length + 1 ≤ 30
      · rw [if_pos c, decide_eq_true (by omega : (es.length : Int) < 30)]
      · rw [if_neg c, decide_eq_false (by omega : ¬ (es.length : Int) < 30)]
theorem fn9 (m : Nat) (hm : 1300 ≤ m) (l : List UInt8) {R : Type} (k : Int → Option R) : Fn9 (m + 3) (bs l) k = match readP l with
    | none => k (faultP l)
    | some _ => k 0 := by
  simp only [Fn9]
  by_cases h : 60 < l.length
  · rw [dT (by rw [bs_size]; omega)]
    unfold readP faultP
    rw [if_pos h, if_pos h]
  · rw [dF (by rw [bs_size]; omega)]
    obtain ⟨rr, tt, h1⟩ := fn41 m hm l (by omega) (fun r504 i505 b506 => bif !b506 then (k (9 : Int)) else (k (0 : Int)))
    rw [h1]
    unfold faultP
    rw [if_neg h]
    cases readP l <;> rfl
end Go.Proofs.YtngjadgglbkjlaaDoor.Med
end
section
set_option linter.unusedVariables false
set_option linter.unusedSimpArgs false
set_option linter.unusedSectionVars false
namespace Go.Proofs.YtngjadgglbkjlaaDoor.Med
open Go Go.Abs Go.Proofs
set_option linter.unusedVariables false
set_option linter.unusedSimpArgs false
/-! what patterns share: the program -/
def eAt (p : Pat) (i : Nat) : Nat := (p.1.getD i (0, [])).1
def Mk (p : Pat) (i : Nat) : Nat := if i < p.1.length then eAt p i else if p.2 = 0 then 0 else 4095
def Ek (p : Pat) (i : Nat) : Bool := if i < p.1.length then false else if p.2 = 46 then decide (p.1.length < i) else if p.2 = 33 then true else decide (i = p.1.length)
theorem mrow_fI (p : Pat) (i : Nat) : fI (mrow p.1) i 0 = if i < p.1.length then (eAt p i : Int) else 0 := by
  show F.toInt ((Abs.rowAt (mrow p.1) i).headD default) = _
  unfold Abs.rowAt mrow eAt
  rw [List.getD_eq_getElem?_getD, List.getD_eq_getElem?_getD, List.getElem?_map]
  by_cases h : i < p.1.length
  · rw [if_pos h, List.getElem?_eq_getElem h]; rfl
  · rw [if_neg h, List.getElem?_eq_none (by omega)]; rfl
theorem eAt_lt {p : Pat} (hp : PatOk p) {i : Nat} (h : i < p.1.length) : eAt p i < 4096 := by
  unfold eAt
  rw [List.getD_eq_getElem?_getD, List.getElem?_eq_getElem h]
  exact (hp.es _ (List.getElem_mem h)).1
theorem Mk_lt {p : Pat} (hp : PatOk p) (i : Nat) : Mk p i < 4096 := by
  unfold Mk
  split
  · rename_i h; exact eAt_lt hp h
  · split <;> decide
theorem fn80 (m : Nat) {p : Pat} (hp : PatOk p) (i : Nat) {R : Type} (k : Int → Bool → Option R) : Fn80 (m + 1) (mrow p.1) p.2 i k = k (Mk p i) (Ek p i) := by
  simp only [Fn80, mrow_len, Mk, Ek]
  by_cases h : i < p.1.length
  · rw [dT (by omega), dT (by omega), show Int.toNat (i : Int) = i by omega, mrow_fI, if_pos h, if_pos h, if_pos h]
  · rw [dF (by omega), if_neg h, if_neg h]
    rcases hp.tail with ht | ht | ht
    · rw [ht]
      rw [eF (by decide), eF (by decide), if_pos rfl, if_neg (by decide), if_neg (by decide)]
      congr 1
      by_cases c : i = p.1.length
      · rw [c]; simp
      · rw [decide_eq_false c]; exact beq_false_of_ne (by omega)
    · rw [ht, eT (by decide), if_neg (by decide), if_pos rfl]
      congr 1
      rw [decide_eq_decide]
      omega
    · rw [ht, eF (by decide), eT (by decide), if_neg (by decide), if_neg (by decide), if_pos rfl]
      rfl
def lowR : Nat → Nat → Nat → Nat
  | 0, _, i => i
  | f + 1, n, i => if n.testBit i then i else lowR f n (i + 1)
def low (n : Nat) : Nat := lowR 12 n 0
def bE (n : Int) : Int := Int.fdiv (IntKind.wrap IntKind.u32 ((125613361 : Int) * IntKind.wrap IntKind.u32 (bitsOp IntKind.u16 (BitVec.ofInt (16 : Nat) n &&& BitVec.ofInt (16 : Nat) (IntKind.wrap IntKind.u16 ((0 : Int) - n)))))) ((2 : Int) ^ min (Int.toNat (27 : Int)) (32 : Nat))
def chk81 (n : Nat) : Bool := decide (n = 0) || (decide (0 ≤ bE n ∧ bE n < 32) && (decide (IntKind.wrap IntKind.i64 (fI Med.tabB (Int.toNat (bE n)) 0) = low n) && decide (low n < 12)))
theorem k81a : ((List.range 1024).all fun i => chk81 i) = true := by kernel_rfl
theorem k81b : ((List.range 1024).all fun i => chk81 (1024 + i)) = true := by kernel_rfl
theorem k81c : ((List.range 1024).all fun i => chk81 (2048 + i)) = true := by kernel_rfl
theorem k81d : ((List.range 1024).all fun i => chk81 (3072 + i)) = true := by kernel_rfl
theorem chk81_all {n : Nat} (h : n < 4096) : chk81 n = true := by
  by_cases h1 : n < 1024
  · exact List.all_eq_true.1 k81a n (List.mem_range.2 h1)
  by_cases h2 : n < 2048
  · have := List.all_eq_true.1 k81b (n - 1024) (List.mem_range.2 (by omega))
    rwa [show 1024 + (n - 1024) = n by omega] at this
  by_cases h3 : n < 3072
  · have := List.all_eq_true.1 k81c (n - 2048) (List.mem_range.2 (by omega))
    rwa [show 2048 + (n - 2048) = n by omega] at this
  · have := List.all_eq_true.1 k81d (n - 3072) (List.mem_range.2 (by omega))
    rwa [show 3072 + (n - 3072) = n by omega] at this
theorem fn81 (m : Nat) {n : Nat} (h0 : n ≠ 0) (h : n < 4096) {R : Type} (k : Int → Option R) : Fn81 (m + 1) n k = k (low n) ∧ low n < 12 := by
  have hc := chk81_all h
  simp only [chk81, decide_eq_false h0, Bool.false_or, Bool.and_eq_true, decide_eq_true_eq] at hc
  obtain ⟨h1, h2, h3⟩ := hc
  refine ⟨?_, h3⟩
  have e : Fn81 (m + 1) (n : Int) k = bif (n : Int) == (0 : Int) then (k (16 : Int)) else (bif decide ((0 : Int) ≤ bE n ∧ bE n < ((32 : Nat) : Int)) then (k (IntKind.wrap IntKind.i64 (fI Med.tabB (Int.toNat (bE n)) (0 : Nat)))) else none) := by
    kernel_rfl
  rw [e, eF (by omega), dT (show (0 : Int) ≤ bE n ∧ bE n < ((32 : Nat) : Int) from h1), h2]
/-- bytes as they lie -/
def brow (b : List UInt8) : Abs.Rows := b.map fun c => [F.lit (Value.int IntKind.u8 (c.toNat : Int))]
theorem brow_app (b : List UInt8) (c : UInt8) : brow b ++ [[F.lit (Value.int IntKind.u8 (c.toNat : Int))]] = brow (b ++ [c]) := by simp [brow]
theorem brow_bytes (b : List UInt8) : rowsBytes (brow b) = bs b := by
  have key : ∀ (b a : List UInt8), ((brow b).map rowInt).foldl (fun r n => r.push (UInt8.ofNat n.toNat)) (bs a) = bs (a ++ b) := by
    intro b
    induction b with
    | nil => intro a; simp [brow]
    | cons c b ih =>
      intro a
      have h1 : (bs a).push (UInt8.ofNat (rowInt [F.lit (Value.int IntKind.u8 (c.toNat : Int))]).toNat) = bs (a ++ [c]) := by
        have : UInt8.ofNat (rowInt [F.lit (Value.int IntKind.u8 (c.toNat : Int))]).toNat = c := by
          show UInt8.ofNat (c.toNat : Int).toNat = c
          simp
        rw [this]
        apply ByteArray.ext
        simp [bs, ByteArray.push]
      show ((brow b).map rowInt).foldl (fun r n => r.push (UInt8.ofNat n.toNat)) ((bs a).push (UInt8.ofNat (rowInt [F.lit (Value.int IntKind.u8 (c.toNat : Int))]).toNat)) = _
      rw [h1, ih, List.append_assoc]
      rfl
  exact key b []
def shr (A : Nat → Nat) (E : Nat → Bool) : Nat → Nat → List UInt8 → Option (List UInt8)
  | 0, _, _ => none
  | f + 1, i, b => if i ≤ 30 then (if (decide (0 < i) && E i) = true then some b else if A i = 0 then none else shr A E f (i + 1) (b ++ [D12.getD (low (A i)) 0])) else none
theorem lp40_3 (m : Nat) {R : Type} (k : ByteArray → Bool → Option R) (ps : Abs.Rows) (s : ByteArray) (z : Bool) (A : Nat → Nat) (E : Nat → Bool) (hA : ∀ i, A i < 4096)
    (inner : ∀ (i : Nat) (r : Abs.Rows) (K : Int → Bool → Int → Option R), ∃ j : Int, Lp40_8 (m + 1) K ps s z r i ps ps.length (m + 1) 4095 (decide ((i : Int) > 0)) 0 = K (A i) (decide (0 < i) && E i) j) :
    ∀ (f n i : Nat) (b : List UInt8), 31 - i < f → 31 - i < n → b.length = i → i ≤ 31 →
      Lp40_3 (m + 1) (fun s b _ _ => k s b) (fun _ _ => k (bs []) false) ps s z n (brow b) i = match shr A E f i b with
        | some b => k (bs b) true
        | none => k (bs []) false
  | 0, _, _, _, h, _, _, _ => by omega
  | _, 0, _, _, _, h, _, _ => by omega
  | f + 1, n + 1, i, b, h1, h2, h3, h4 => by
    rw [Lp40_3, shr]
    simp only [Lp40_3_step]
    by_cases hi : i ≤ 30
    · rw [dT (by omega), if_pos hi]
      obtain ⟨j, hj⟩ := inner i (brow b) (fun i346 b347 i348 => bif b347 then k (rowsBytes (brow b)) true else (bif i346 == (0 : Int) then k ({ data := #[] }) false else (Fn81 (m + 1) i346 (fun i351 => bif decide ((0 : Int) ≤ i351 ∧ i351 < (((bs D12).size : Nat) : Int)) then (bif decide (List.length (brow b) + List.length [[F.lit (Value.int IntKind.u8 ((UInt8.toNat (Array.getD (bs D12).data (Int.toNat i351) (0 : UInt8)) : Nat) : Int))]] ≤ rowMax) then (letV (brow b ++ [[F.lit (Value.int IntKind.u8 ((UInt8.toNat (Array.getD (bs D12).data (Int.toNat i351) (0 : UInt8)) : Nat) : Int))]]) (fun r352 => Lp40_3 (m + 1) (fun s b _ _ => k s b) (fun _ _ => k (bs []) false) ps s z n r352 (IntKind.wrap IntKind.i64 ((i : Int) + (1 : Int))))) else none) else none))))
      refine Eq.trans (b := _) (Eq.trans rfl hj) ?_
      by_cases hE : (decide (0 < i) && E i) = true
      · rw [if_pos hE, hE, brow_bytes]
        rfl
      · rw [if_neg hE, Bool.eq_false_iff.2 hE]
        simp only [cond_false]
        by_cases h0 : A i = 0
        · rw [if_pos h0, eT (by omega)]
        · obtain ⟨q1, q2⟩ := fn81 (R := R) m h0 (hA i) (fun i351 => bif decide ((0 : Int) ≤ i351 ∧ i351 < (((bs D12).size : Nat) : Int)) then (bif decide (List.length (brow b) + List.length [[F.lit (Value.int IntKind.u8 ((UInt8.toNat (Array.getD (bs D12).data (Int.toNat i351) (0 : UInt8)) : Nat) : Int))]] ≤ rowMax) then (letV (brow b ++ [[F.lit (Value.int IntKind.u8 ((UInt8.toNat (Array.getD (bs D12).data (Int.toNat i351) (0 : UInt8)) : Nat) : Int))]]) (fun r352 => Lp40_3 (m + 1) (fun s b _ _ => k s b) (fun _ _ => k (bs []) false) ps s z n r352 (IntKind.wrap IntKind.i64 ((i : Int) + (1 : Int))))) else none) else none)
          rw [if_neg h0, eF (by omega), q1]
          have hs : (bs D12).size = 12 := rfl
          rw [hs, dT (by omega), dT (by rw [rM]; simp [brow]; omega)]
          simp only [letV]
          rw [show Int.toNat ((low (A i) : Nat) : Int) = low (A i) by omega, bs_at, brow_app, w64 (by omega) (by omega), show (i : Int) + 1 = ((i + 1 : Nat) : Int) by omega]
          exact lp40_3 m k ps s z A E hA inner f n (i + 1) _ (by omega) (by omega) (by simp; omega) (by omega)
    · rw [dF (by omega), if_neg hi]
theorem and12 {x : Nat} (h : x < 4096) : 4095 &&& x = x := by
  rw [Nat.and_comm, show 4095 = 2 ^ 12 - 1 from rfl, Nat.and_two_pow_sub_one_eq_mod, Nat.mod_eq_of_lt h]
abbrev prow (p : Pat) : List F := [F.lst [LT.int IntKind.u16] (mrow p.1), F.lit (Value.int IntKind.u8 (p.2 : Int))]
theorem inner1 (m : Nat) {p : Pat} (hp : PatOk p) (i : Nat) (r : Abs.Rows) (s : ByteArray) (z : Bool) {R : Type} (K : Int → Bool → Int → Option R) :
    Lp40_8 (m + 4) K [prow p] s z r i [prow p] ((List.length [prow p] : Nat) : Int) (m + 4) 4095 (decide ((i : Int) > 0)) 0 = K (Mk p i) (decide (0 < i) && Ek p i) 1 := by
  have e0 : fR [prow p] (Int.toNat (0 : Int)) 0 = mrow p.1 := rfl
  have e1 : fI [prow p] (Int.toNat (0 : Int)) 1 = p.2 := rfl
  have h4095 : bitsOp IntKind.u16 (BitVec.ofInt (16 : Nat) (4095 : Int) &&& BitVec.ofInt (16 : Nat) (Mk p i : Int)) = (Mk p i : Int) := by
    have := and16 (a := 4095) (b := Mk p i) (by decide) (by have := Mk_lt hp i; omega)
    rw [and12 (Mk_lt hp i)] at this
    exact this
  have hd : decide ((i : Int) > 0) = decide (0 < i) := by rw [decide_eq_decide]; omega
  simp only [Lp40_8, Lp40_8_step, List.length_cons, List.length_nil, e0, e1]
  rw [dT (by omega), dT (by omega), fn80 (m + 3) hp i]
  simp only [h4095, hd]
  rw [w64 (by omega) (by omega)]
  cases decide (0 < i) with
  | true => simp only [cond_true, Bool.true_and]; rw [dF (by omega)]; rfl
  | false => simp only [cond_false, Bool.false_and]; rw [dF (by omega)]; rfl
theorem inner2 (m : Nat) {p q : Pat} (hp : PatOk p) (hq : PatOk q) (i : Nat) (r : Abs.Rows) (s : ByteArray) (z : Bool) {R : Type} (K : Int → Bool → Int → Option R) :
    Lp40_8 (m + 4) K [prow p, prow q] s z r i [prow p, prow q] ((List.length [prow p, prow q] : Nat) : Int) (m + 4) 4095 (decide ((i : Int) > 0)) 0 = K ((Mk p i &&& Mk q i : Nat) : Int) (decide (0 < i) && (Ek p i && Ek q i)) 2 := by
  have e0 : fR [prow p, prow q] (Int.toNat (0 : Int)) 0 = mrow p.1 := rfl
  have e1 : fI [prow p, prow q] (Int.toNat (0 : Int)) 1 = p.2 := rfl
  have e2 : fR [prow p, prow q] (Int.toNat (1 : Int)) 0 = mrow q.1 := rfl
  have e3 : fI [prow p, prow q] (Int.toNat (1 : Int)) 1 = q.2 := rfl
  have h4095 : bitsOp IntKind.u16 (BitVec.ofInt (16 : Nat) (4095 : Int) &&& BitVec.ofInt (16 : Nat) (Mk p i : Int)) = (Mk p i : Int) := by
    have := and16 (a := 4095) (b := Mk p i) (by decide) (by have := Mk_lt hp i; omega)
    rw [and12 (Mk_lt hp i)] at this
    exact this
  have hpq := and16 (a := Mk p i) (b := Mk q i) (by have := Mk_lt hp i; omega) (by have := Mk_lt hq i; omega)
  have hd : decide ((i : Int) > 0) = decide (0 < i) := by rw [decide_eq_decide]; omega
  have w1 : IntKind.wrap .i64 ((0 : Int) + 1) = 1 := w64 (by omega) (by omega)
  have w2 : IntKind.wrap .i64 ((1 : Int) + 1) = 2 := w64 (by omega) (by omega)
  simp only [Lp40_8, Lp40_8_step, List.length_cons, List.length_nil, e0, e1]
  rw [dT (by omega), dT (by omega), fn80 (m + 3) hp i]
  simp only [h4095, hd, w1, w2]
  cases decide (0 < i) with
  | true =>
    simp only [cond_true, Bool.true_and, e2, e3]
    rw [dT (by omega), dT (by omega), fn80 (m + 3) hq i]
    simp only [hpq]
    cases Ek p i with
    | true => simp only [cond_true, Bool.true_and]; rw [dF (by omega)]
    | false => simp only [cond_false, Bool.false_and]; rw [dF (by omega)]
  | false =>
    simp only [cond_false, Bool.false_and, e2, e3]
    rw [dT (by omega), dT (by omega), fn80 (m + 3) hq i]
    simp only [hpq, cond_false]
    rw [dF (by omega)]
end Go.Proofs.YtngjadgglbkjlaaDoor.Med
end
section
set_option linter.unusedVariables false
set_option linter.unusedSimpArgs false
set_option linter.unusedSectionVars false
namespace Go.Proofs.YtngjadgglbkjlaaDoor.Med
open Go Go.Abs Go.Proofs
set_option linter.unusedVariables false
set_option linter.unusedSimpArgs false
def inL (p : Pat) (i : Nat) : List UInt8 := if i < p.1.length then (p.1.getD i (0, [])).2 else D12
def Ax (p : Pat) (i : Nat) : Nat := if i < p.1.length then eAt p i else 4095
theorem bit4095 : ((List.range 12).all fun j => (4095 : Nat).testBit j && decide (D12.getD j 0 ∈ D12)) = true := by decide
theorem mem_bit {p : Pat} (hp : PatOk p) (i : Nat) {j : Nat} (hj : j < 12) : (Ax p i).testBit j = decide (D12.getD j 0 ∈ inL p i) := by
  unfold Ax inL
  by_cases h : i < p.1.length
  · rw [if_pos h, if_pos h]
    unfold eAt
    have hm : p.1.getD i (0, []) ∈ p.1 := by
      rw [List.getD_eq_getElem?_getD, List.getElem?_eq_getElem h]
      exact List.getElem_mem h
    have := List.all_eq_true.1 (hp.es _ hm).2 j (List.mem_range.2 hj)
    simpa using this
  · rw [if_neg h, if_neg h]
    have := List.all_eq_true.1 bit4095 j (List.mem_range.2 hj)
    simp only [Bool.and_eq_true, decide_eq_true_eq] at this
    rw [this.1, decide_eq_true this.2]
theorem Ax_lt {p : Pat} (hp : PatOk p) (i : Nat) : Ax p i < 4096 := by
  unfold Ax
  split
  · rename_i h; exact eAt_lt hp h
  · decide
theorem srow_fS (p : Pat) (i : Nat) (h : i < p.1.length) : fS (srow p.1) i 0 = bs (inL p i) := by
  show F.toStr ((Abs.rowAt (srow p.1) i).headD default) = _
  unfold Abs.rowAt srow inL
  rw [if_pos h, List.getD_eq_getElem?_getD, List.getD_eq_getElem?_getD, List.getElem?_map, List.getElem?_eq_getElem h]
  rfl
end Go.Proofs.YtngjadgglbkjlaaDoor.Med
end
section
set_option linter.unusedVariables false
set_option linter.unusedSimpArgs false
set_option linter.unusedSectionVars false
namespace Go.Proofs.YtngjadgglbkjlaaDoor.Med
open Go Go.Abs Go.Proofs
set_option linter.unusedVariables false
set_option linter.unusedSimpArgs false
def shP (p q : Pat) : Option (List UInt8) := shr (fun i => Mk p i &&& Mk q i) (fun i => Ek p i && Ek q i) 32 0 []
theorem shP_one (p : Pat) : shP p p = shr (Mk p) (Ek p) 32 0 [] := by
  unfold shP
  congr 1
  · funext i; exact Nat.and_self _
  · funext i; exact Bool.and_self _
theorem fn40_1 (m : Nat) (hm : 100 ≤ m) {p : Pat} (hp : PatOk p) {R : Type} (k : ByteArray → Bool → Option R) : Fn40 (m + 5) [prow p] k = match shP p p with
    | some b => k (bs b) true
    | none => k (bs []) false := by
  rw [shP_one]
  simp only [Fn40]
  exact lp40_3 (m + 3) k [prow p] _ false (Mk p) (Ek p) (fun i => Mk_lt hp i) (fun i r K => ⟨1, inner1 m hp i r _ false K⟩) 32 (m + 4) 0 [] (by omega) (by omega) rfl (by omega)
theorem fn8 (m : Nat) (hm : 300 ≤ m) (l : List UInt8) {R : Type} (k : ByteArray → Int → Option R) : Fn8 (m + 43) (bs l) k = match readP l with
    | none => k (bs []) (faultP l)
    | some p => k (bs ((shP p p).getD [])) 0 := by
  have hf : ∀ l, faultP l ≠ 0 := fun l => by unfold faultP; split <;> decide
  simp only [Fn8]
  rw [fn39 m (by omega)]
  cases h1 : readP l with
  | none => simp only; rw [nT (hf l)]
  | some p =>
    simp only
    rw [nF rfl]
    refine Eq.trans (fn40_1 (m + 37) (by omega) (read_ok h1).1 _) ?_
    cases shP p p <;> rfl
def p0 : Pat := ([(fromN 50 57, D10.drop 2), (8, [49])], 0)
theorem r0 : readP [78, 49] = some p0 := by kernel_rfl
theorem sh0 : shP p0 p0 = some [50, 49] := by kernel_rfl
theorem fn12 (m : Nat) (hm : 300 ≤ m) {R : Type} (k : Bool → Option R) : Fn12 (m + 44) k = k true := by
  simp only [Fn12]
  refine Eq.trans (fn8 m hm [78, 49] _) ?_
  rw [r0]
  simp only [sh0]
  rw [eT rfl]
  congr 1
  show ((bs [50, 49]).toList == (bs [50, 49]).toList) = true
  simp
theorem fn10 (m : Nat) (a b : Int) {R : Type} (k : Int → Option R) : Fn10 (m + 5) [[F.lit (Value.int IntKind.i64 a)], [F.lit (Value.int IntKind.i64 b)]] k = k (if a ≠ 0 then a else b) := by
  have e0 : fI [[F.lit (Value.int IntKind.i64 a)], [F.lit (Value.int IntKind.i64 b)]] 0 0 = a := rfl
  have e1 : fI [[F.lit (Value.int IntKind.i64 a)], [F.lit (Value.int IntKind.i64 b)]] 1 0 = b := rfl
  simp (disch := omega) only [Fn10, Lp10_2, Lp10_2_step, List.length_cons, List.length_nil, ↓dT, ↓dF, w64, Int.toNat_zero, e0, e1, Int.reduceAdd, Int.reduceToNat]
  by_cases ha : a = 0
  · rw [nF ha, if_neg (by simpa using ha)]
    by_cases hb : b = 0
    · rw [nF hb, hb]
    · rw [nT hb]
  · rw [nT ha, if_pos (by simpa using ha)]
end Go.Proofs.YtngjadgglbkjlaaDoor.Med
end
section
set_option linter.unusedVariables false
set_option linter.unusedSimpArgs false
set_option linter.unusedSectionVars false
namespace Go.Proofs.YtngjadgglbkjlaaDoor.Med
open Go Go.Abs Go.Proofs
set_option linter.unusedVariables false
set_option linter.unusedSimpArgs false
theorem gn60 (m : Nat) {x y : Int} (hy : 1 ≤ y) (hy2 : y ≤ 1099511627776) {R : Type} {k : Int → Option R} : Fn60 (m + 1) x y k = k (x % y) := by
  have h2 : Int.tmod x y = x % y ∨ (Int.tmod x y + y = x % y ∧ Int.tmod x y < 0 ∧ -y < Int.tmod x y) := by
    by_cases h : 0 ≤ x
    · exact .inl (Int.tmod_eq_emod_of_nonneg h)
    · have h3 := Int.tmod_eq_emod (a := x) (b := y)
      have h4 := Int.emod_nonneg x (show y ≠ 0 by omega)
      have h5 := Int.emod_lt_of_pos x (show 0 < y by omega)
      by_cases hd : y ∣ x
      · left; rw [h3]; simp [hd]
      · right
        have h6 : Int.tmod x y = x % y - y := by
          rw [h3, if_neg (by simp; exact ⟨by omega, hd⟩)]
          omega
        have h7 : x % y ≠ 0 := fun h => hd (Int.dvd_of_emod_eq_zero h)
        omega
  have h4 := Int.emod_nonneg x (show y ≠ 0 by omega)
  simp only [Fn60]
  rw [dF (by omega), dT (by omega)]
  rcases h2 with h2 | ⟨h2, h3, h5⟩
  · rw [dF (by omega), h2]
  · rw [dT h3, w64 (by omega) (by omega), h2]
def nx (r : Abs.Rows) (i : Int) : Int := if (r.length : Int) = 0 then IntKind.wrap .i64 ((i + 1) * 7919) else
  IntKind.wrap IntKind.i64 (fI r (Int.toNat (Int.tmod i (r.length : Int))) 0 % 1073741824 + IntKind.wrap IntKind.i64 (IntKind.wrap IntKind.i64 (Int.tdiv i (r.length : Int)) * IntKind.wrap IntKind.i64 (7919 + Int.tmod i (r.length : Int))))
theorem gn25 (m : Nat) (r : Abs.Rows) {i n : Int} (h0 : 0 ≤ i) (h1 : i ≤ 1099511627776) (hn : 1 ≤ n) (hn2 : n ≤ 1099511627776) {R : Type} {k : Int → Int → Option R} :
    Fn25 (m + 2) r i n k = k (nx r i % n) (i + 1) := by
  have e1 : IntKind.wrap .i64 (i + 1) = i + 1 := w64 (by omega) (by omega)
  have e2 : IntKind.wrap .i64 (i + 1 - 1) = i := by rw [show i + 1 - 1 = i by omega]; exact w64 (by omega) (by omega)
  by_cases hr : (r.length : Int) = 0
  · simp only [Fn25, e1, nx, hr, if_true]
    rw [eT rfl, gn60 m hn hn2]
  · have hm1 : 0 ≤ Int.tmod i (r.length : Int) := Int.tmod_nonneg _ h0
    have hm2 : Int.tmod i (r.length : Int) < (r.length : Int) := Int.tmod_lt_of_pos _ (by omega)
    simp only [Fn25, e1, e2, nx, if_neg hr]
    rw [eF hr, dT hr, dT hr, dT ⟨hm1, hm2⟩, gn60 m (by omega) (by omega), gn60 m hn hn2]
    try rfl
theorem gn34 (m : Nat) (r : Abs.Rows) {i n : Int} (h0 : 0 ≤ i) (h1 : i ≤ 1099511627776) (hn : 1 ≤ n) (hn2 : n ≤ 1099511627776) {R : Type} {k : Bool → Int → Option R} :
    Fn34 (m + 3) r i n k = k (nx r i % n == 0) (i + 1) := by
  simp only [Fn34]
  rw [gn25 m r h0 h1 hn hn2]
/-- one of some numbers -/
def pk (rows q : Abs.Rows) (i : Int) : Int := fI rows (nx q i % (rows.length : Int)).toNat 0
theorem gn37 (m : Nat) (r : Abs.Rows) {i : Int} (rows : Abs.Rows) (h0 : 0 ≤ i) (h1 : i ≤ 1099511627776) (hn : 1 ≤ (rows.length : Int)) (hn2 : (rows.length : Int) ≤ 1099511627776) {R : Type} {k : Int → Int → Option R} :
    Fn37 (m + 3) r i rows k = k (pk rows r i) (i + 1) := by
  have h4 := Int.emod_nonneg (nx r i) (show (rows.length : Int) ≠ 0 by omega)
  have h5 := Int.emod_lt_of_pos (nx r i) (show 0 < (rows.length : Int) by omega)
  simp only [Fn37]
  rw [gn25 m r h0 h1 hn hn2, dT ⟨h4, h5⟩]
  rfl
/-- each of some numbers is so: the one that is drawn is so -/
theorem pk_all {P : Int → Prop} (rows q : Abs.Rows) (i : Int) (h0 : 0 < rows.length) (h : ∀ j, j < rows.length → P (fI rows j 0)) : P (pk rows q i) := by
  have h4 := Int.emod_nonneg (nx q i) (show (rows.length : Int) ≠ 0 by omega)
  have h5 := Int.emod_lt_of_pos (nx q i) (show 0 < (rows.length : Int) by omega)
  exact h _ (by omega)
theorem gn72 (m : Nat) (r : Abs.Rows) {i lo hi : Int} (h0 : 0 ≤ i) (h1 : i ≤ 1099511627776) (hl : -500000000000 ≤ lo) (hh : hi ≤ 500000000000) (hlh : lo ≤ hi) {R : Type} {k : Int → Int → Option R} :
    Fn72 (m + 3) r i lo hi k = k (lo + nx r i % (hi - lo + 1)) (i + 1) := by
  have h4 := Int.emod_nonneg (nx r i) (show hi - lo + 1 ≠ 0 by omega)
  have h5 := Int.emod_lt_of_pos (nx r i) (show 0 < hi - lo + 1 by omega)
  simp only [Fn72]
  rw [dF (by omega), w64 (x := hi - lo) (by omega) (by omega), w64 (x := hi - lo + 1) (by omega) (by omega), gn25 m r h0 h1 (by omega) (by omega), w64 (by omega) (by omega)]
end Go.Proofs.YtngjadgglbkjlaaDoor.Med
end
section
set_option linter.unusedVariables false
set_option linter.unusedSimpArgs false
set_option linter.unusedSectionVars false
namespace Go.Proofs.YtngjadgglbkjlaaDoor.Med
open Go Go.Abs Go.Proofs
set_option linter.unusedVariables false
set_option linter.unusedSimpArgs false
/-! patterns that are drawn -/
theorem gn35 (m : Nat) (q : Abs.Rows) {i : Int} (rows : Abs.Rows) (h0 : 0 ≤ i) (h1 : i ≤ 1099511627776) (hn : 1 ≤ (rows.length : Int)) (hn2 : (rows.length : Int) ≤ 1099511627776) {R : Type} (k : ByteArray → Int → Option R) :
    Fn35 (m + 3) q i rows k = k (fS rows (Int.toNat (nx q i % (rows.length : Int))) 0) (i + 1) := by
  have h4 := Int.emod_nonneg (nx q i) (show (rows.length : Int) ≠ 0 by omega)
  have h5 := Int.emod_lt_of_pos (nx q i) (show 0 < (rows.length : Int) by omega)
  simp only [Fn35]
  rw [gn25 m q h0 h1 hn hn2, dT ⟨h4, h5⟩]
theorem some_ok (q : Abs.Rows) (rows : Abs.Rows) (hr : rows.length ≠ 0) (hs : (List.range rows.length).all (fun j => decide ((fS rows j 0).size ≤ 100)) = true) (hn2 : rows.length ≤ 1000) {i : Int} (h0 : 0 ≤ i) (h1 : i ≤ 100000) :
    ∃ s : List UInt8, s.length ≤ 100 ∧ ∀ (m : Nat) (R : Type) (k : ByteArray → Int → Option R), Fn35 (m + 3) q i rows k = k (bs s) (i + 1) := by
  have h4 := Int.emod_nonneg (nx q i) (show (rows.length : Int) ≠ 0 by omega)
  have h5 := Int.emod_lt_of_pos (nx q i) (show 0 < (rows.length : Int) by omega)
  have := List.all_eq_true.1 hs (Int.toNat (nx q i % (rows.length : Int))) (List.mem_range.2 (by omega))
  simp only [decide_eq_true_eq] at this
  refine ⟨(fS rows (Int.toNat (nx q i % (rows.length : Int))) 0).data.toList, by rw [← Lib.size_eq]; exact this, fun m R k => ?_⟩
  rw [gn35 m q rows h0 (by omega) (by omega) (by omega), ← bs_of]
theorem lp33 (m : Nat) (q : Abs.Rows) : ∀ (d n : Nat) (N i j : Int) (s : List UInt8), i + d = N → 0 ≤ i → N ≤ 10 → d < n → 0 ≤ j → j + d ≤ 2000 → s.length ≤ 100 * i →
    ∃ (s' : List UInt8) (a b : Int), s'.length ≤ 1000 ∧ j ≤ b ∧ b ≤ j + d ∧ ∀ (R : Type) (kx0 : ByteArray → Int → Int → Option R), Lp33_3 (m + 3) kx0 N q n (bs s) i j = kx0 (bs s') a b
  | _, 0, _, _, _, _, _, _, _, h, _, _, _ => by omega
  | 0, n + 1, N, i, j, s, h1, h2, h3, h4, h5, h6, h7 => by
    refine ⟨s, i, j, by omega, by omega, by omega, fun R kx0 => ?_⟩
    rw [Lp33_3]
    simp only [Lp33_3_step]
    rw [dF (by omega)]
  | d + 1, n + 1, N, i, j, s, h1, h2, h3, h4, h5, h6, h7 => by
    obtain ⟨t, ht, hk⟩ := some_ok q ([[F.lit (Value.string { data := #[(49 : UInt8)] })], [F.lit (Value.string { data := #[(50 : UInt8)] })], [F.lit (Value.string { data := #[(50 : UInt8)] })], [F.lit (Value.string { data := #[(57 : UInt8)] })], [F.lit (Value.string { data := #[(48 : UInt8)] })], [F.lit (Value.string { data := #[(42 : UInt8)] })], [F.lit (Value.string { data := #[(88 : UInt8)] })], [F.lit (Value.string { data := #[(88 : UInt8)] })], [F.lit (Value.string { data := #[(78 : UInt8)] })], [F.lit (Value.string { data := #[(90 : UInt8)] })], [F.lit (Value.string { data := #[(91 : UInt8), (49 : UInt8), (50 : UInt8), (93 : UInt8)] })], [F.lit (Value.string { data := #[(91 : UInt8), (50 : UInt8), (45 : UInt8), (52 : UInt8), (93 : UInt8)] })], [F.lit (Value.string { data := #[(91 : UInt8), (49 : UInt8), (45 : UInt8), (51 : UInt8), (53 : UInt8), (93 : UInt8)] })], [F.lit (Value.string { data := #[(91 : UInt8), (50 : UInt8), (57 : UInt8), (93 : UInt8)] })]]) (by decide) (by kernel_rfl) (by decide) h5 (by omega)
    obtain ⟨s', a, b, g1, g2, g3, g4⟩ := lp33 m q d n N (i + 1) (j + 1) (s ++ t) (by omega) (by omega) h3 (by omega) (by omega) (by omega) (by rw [List.length_append]; omega)
    refine ⟨s', a, b, g1, by omega, by omega, fun R kx0 => ?_⟩
    rw [Lp33_3]
    simp only [Lp33_3_step]
    rw [dT (by omega), hk, dT (by rw [bs_size, bs_size, sMax]; omega), bs_app, w64 (by omega) (by omega)]
    exact g4 R kx0
theorem fn33 (m : Nat) (hm : 20 ≤ m) (q : Abs.Rows) {i : Int} (h0 : 0 ≤ i) (h1 : i ≤ 1000) : ∃ (s : List UInt8) (i' : Int), s.length ≤ 1100 ∧ i ≤ i' ∧ i' ≤ i + 20 ∧ ∀ (R : Type) (k : ByteArray → Int → Option R), Fn33 (m + 4) q i k = k (bs s) i' := by
  have b1 := Int.emod_nonneg (nx q i) (show (4 - 1 + 1 : Int) ≠ 0 by omega)
  have b2 := Int.emod_lt_of_pos (nx q i) (show (0 : Int) < 4 - 1 + 1 by omega)
  obtain ⟨d, hd⟩ := Int.eq_ofNat_of_zero_le (show 0 ≤ 1 + nx q i % (4 - 1 + 1) by omega)
  obtain ⟨s', a, b, g1, g2, g3, g4⟩ := lp33 m q d (m + 3) (1 + nx q i % (4 - 1 + 1)) 0 (i + 1) [] (by omega) (by omega) (by omega) (by omega) (by omega) (by omega) (by simp)
  obtain ⟨t, ht, hk⟩ := some_ok q ([[F.lit (Value.string { data := #[] })], [F.lit (Value.string { data := #[] })], [F.lit (Value.string { data := #[] })], [F.lit (Value.string { data := #[(46 : UInt8)] })], [F.lit (Value.string { data := #[(33 : UInt8)] })]]) (by decide) (by kernel_rfl) (by decide) (show 0 ≤ b by omega) (by omega)
  refine ⟨s' ++ t, b + 1, by rw [List.length_append]; omega, by omega, by omega, fun R k => ?_⟩
  simp only [Fn33]
  rw [gn72 m q h0 (by omega) (by omega) (by omega) (by omega)]
  refine Eq.trans (g4 R _) ?_
  rw [hk, dT (by rw [bs_size, bs_size, sMax]; omega), bs_app]
theorem enc9 {j : Nat} (hj : j < 9) : ∃ c : UInt8, Utf8.encode (IntKind.wrap IntKind.i32 (((UInt8.toNat (Array.getD ({ data := #[(49 : UInt8), (50 : UInt8), (88 : UInt8), (46 : UInt8), (33 : UInt8), (91 : UInt8), (93 : UInt8), (45 : UInt8), (78 : UInt8)] } : ByteArray).data j (0 : UInt8)) : Nat)) : Int)) = bs [c] := by
  rcases (show j = 0 ∨ j = 1 ∨ j = 2 ∨ j = 3 ∨ j = 4 ∨ j = 5 ∨ j = 6 ∨ j = 7 ∨ j = 8 by omega) with rfl | rfl | rfl | rfl | rfl | rfl | rfl | rfl | rfl
  · exact ⟨49, by kernel_rfl⟩
  · exact ⟨50, by kernel_rfl⟩
  · exact ⟨88, by kernel_rfl⟩
  · exact ⟨46, by kernel_rfl⟩
  · exact ⟨33, by kernel_rfl⟩
  · exact ⟨91, by kernel_rfl⟩
  · exact ⟨93, by kernel_rfl⟩
  · exact ⟨45, by kernel_rfl⟩
  · exact ⟨78, by kernel_rfl⟩
theorem fn38 (q : Abs.Rows) (l : List UInt8) (hl : l.length ≤ 2000) {i : Int} (h0 : 0 ≤ i) (h1 : i ≤ 2000) : ∃ (s : List UInt8) (i' : Int), s.length ≤ l.length + 10 ∧ i ≤ i' ∧ i' ≤ i + 3 ∧ ∀ (m : Nat) (R : Type) (k : ByteArray → Int → Option R), Fn38 (m + 4) q i (bs l) { data := #[(49 : UInt8), (50 : UInt8), (88 : UInt8), (46 : UInt8), (33 : UInt8), (91 : UInt8), (93 : UInt8), (45 : UInt8), (78 : UInt8)] } k = k (bs s) i' := by
  by_cases hn : l = []
  · refine ⟨[49, 50, 88, 46, 33, 91, 93, 45, 78], i, by simp, by omega, by omega, fun m R k => ?_⟩
    simp only [Fn38]
    exact lT (y := (bs []).toList) (by rw [bs_toList, bs_toList]; exact hn)
  · have hlen : 0 < l.length := by
      rcases Nat.eq_zero_or_pos l.length with h | h
      · exact (hn (List.length_eq_zero_iff.1 h)).elim
      · exact h
    have b1 := Int.emod_nonneg (nx q i) (show (l.length : Int) ≠ 0 by omega)
    have b2 := Int.emod_lt_of_pos (nx q i) (show (0 : Int) < (l.length : Int) by omega)
    have b3 := Int.emod_nonneg (nx q (i + 1)) (show (9 : Int) ≠ 0 by omega)
    have b4 := Int.emod_lt_of_pos (nx q (i + 1)) (show (0 : Int) < 9 by omega)
    have b5 := Int.emod_nonneg (nx q (i + 2)) (show (3 : Int) ≠ 0 by omega)
    have b6 := Int.emod_lt_of_pos (nx q (i + 2)) (show (0 : Int) < 3 by omega)
    obtain ⟨P, hP⟩ := Int.eq_ofNat_of_zero_le b1
    obtain ⟨J, hJ⟩ := Int.eq_ofNat_of_zero_le b3
    obtain ⟨c, hc⟩ := enc9 (j := J) (by omega)
    have nP : Int.toNat (P : Int) = P := by omega
    have eP : IntKind.wrap .i64 ((P : Int) + 1) = ((P + 1 : Nat) : Int) := by rw [w64 (by omega) (by omega)]; omega
    have nP1 : Int.toNat ((P + 1 : Nat) : Int) = P + 1 := by omega
    have t1 : (l.take P).length ≤ l.length := by simp; omega
    have t2 : (l.drop P).length ≤ l.length := by simp
    have t3 : (l.drop (P + 1)).length ≤ l.length := by simp
    have S9 : ((([49, 50, 88, 46, 33, 91, 93, 45, 78] : List UInt8).length : Nat) : Int) = 9 := rfl
    have hc' : Utf8.encode (IntKind.wrap IntKind.i32 (((UInt8.toNat (Array.getD (#[49, 50, 88, 46, 33, 91, 93, 45, 78] : Array UInt8) J (0 : UInt8)) : Nat)) : Int)) = bs [c] := hc
    have key : ∃ (s : List UInt8), s.length ≤ l.length + 10 ∧ ∀ (m : Nat) (R : Type) (k : ByteArray → Int → Option R), Jn38_3 (m + 3) k (bs l) { data := #[(49 : UInt8), (50 : UInt8), (88 : UInt8), (46 : UInt8), (33 : UInt8), (91 : UInt8), (93 : UInt8), (45 : UInt8), (78 : UInt8)] } { data := #[] } q i = k (bs s) (i + 3) := by
      have base : ∀ (m : Nat) (R : Type) (k : ByteArray → Int → Option R) (v : Option R), True := fun _ _ _ _ => trivial
      by_cases c0 : nx q (i + 2) % 3 = 0
      · refine ⟨l.take P ++ [c] ++ l.drop (P + 1), by rw [List.length_append, List.length_append]; simp only [List.length_cons, List.length_nil]; simp; omega, fun m R k => ?_⟩
        simp only [Jn38_3, bs_size]
        rw [gn25 (m + 1) q h0 (by omega) (by omega) (by omega), S9, gn25 (m + 1) q (by omega) (by omega) (by omega) (by omega), hP, hJ, dT (by omega), show i + 1 + 1 = i + 2 by omega, gn25 (m + 1) q (by omega) (by omega) (by omega) (by omega), eT c0, dT (by omega), show Int.toNat (J : Int) = J by omega, hc', nP, bs_take, eP, nP1]
        rw [dT (by rw [bs_size, bs_size, sMax]; simp; omega), dT (by omega)]
        have hd : (bs l).extract (P + 1) l.length = bs (l.drop (P + 1)) := by have := bs_drop l (P + 1); rwa [bs_size] at this
        rw [hd, bs_app (l.take P) [c], dT (by rw [bs_size, bs_size, sMax, List.length_append]; simp only [List.length_cons, List.length_nil]; omega)]
        simp only [letV]
        rw [bs_app]
        congr 1
        omega
      by_cases c1 : nx q (i + 2) % 3 = 1
      · refine ⟨l.take P ++ [c] ++ l.drop P, by rw [List.length_append, List.length_append]; simp only [List.length_cons, List.length_nil]; simp; omega, fun m R k => ?_⟩
        simp only [Jn38_3, bs_size]
        rw [gn25 (m + 1) q h0 (by omega) (by omega) (by omega), S9, gn25 (m + 1) q (by omega) (by omega) (by omega) (by omega), hP, hJ, dT (by omega), show i + 1 + 1 = i + 2 by omega, gn25 (m + 1) q (by omega) (by omega) (by omega) (by omega), eF c0, eT c1, dT (by omega), show Int.toNat (J : Int) = J by omega, hc', nP, bs_take]
        rw [dT (by rw [bs_size, bs_size, sMax]; simp; omega), dT (by omega)]
        have hd : (bs l).extract P l.length = bs (l.drop P) := by have := bs_drop l P; rwa [bs_size] at this
        rw [hd, bs_app (l.take P) [c], dT (by rw [bs_size, bs_size, sMax, List.length_append]; simp only [List.length_cons, List.length_nil]; omega)]
        simp only [letV]
        rw [bs_app]
        congr 1
        omega
      · refine ⟨l.take P ++ l.drop (P + 1), by rw [List.length_append]; simp; omega, fun m R k => ?_⟩
        simp only [Jn38_3, bs_size]
        rw [gn25 (m + 1) q h0 (by omega) (by omega) (by omega), S9, gn25 (m + 1) q (by omega) (by omega) (by omega) (by omega), hP, hJ, dT (by omega), show i + 1 + 1 = i + 2 by omega, gn25 (m + 1) q (by omega) (by omega) (by omega) (by omega), eF c0, eF c1, dT (by omega), nP, bs_take, eP, nP1, dT (by omega)]
        have hd : (bs l).extract (P + 1) l.length = bs (l.drop (P + 1)) := by have := bs_drop l (P + 1); rwa [bs_size] at this
        rw [hd, dT (by rw [bs_size, bs_size, sMax]; omega), bs_app]
        congr 1
        omega
    obtain ⟨s, hs, hk⟩ := key
    refine ⟨s, i + 3, hs, by omega, by omega, fun m R k => ?_⟩
    simp only [Fn38]
    refine Eq.trans (lF (y := (bs []).toList) (by rw [bs_toList, bs_toList]; exact hn)) ?_
    refine Eq.trans (lF (x := (bs [49, 50, 88, 46, 33, 91, 93, 45, 78]).toList) (y := (bs []).toList) (by rw [bs_toList, bs_toList]; simp)) ?_
    exact hk m R _
end Go.Proofs.YtngjadgglbkjlaaDoor.Med
end
section
set_option linter.unusedVariables false
set_option linter.unusedSimpArgs false
set_option linter.unusedSectionVars false
namespace Go.Proofs.YtngjadgglbkjlaaDoor.Med
open Go Go.Abs Go.Proofs
set_option linter.unusedVariables false
set_option linter.unusedSimpArgs false
theorem lp6_5 (m : Nat) (q : Abs.Rows) : ∀ (d n : Nat) (N i j : Int) (s : List UInt8), i + d = N → 0 ≤ i → N ≤ 10 → d < n → 0 ≤ j → j + 3 * d ≤ 2000 → s.length + 10 * d ≤ 2000 →
    ∃ (s' : List UInt8) (a b : Int), s'.length ≤ 2000 ∧ j ≤ b ∧ b ≤ j + 3 * d ∧ ∀ (R : Type) (kx0 : ByteArray → Int → Int → Option R), Lp6_5 (m + 4) kx0 N q n (bs s) i j = kx0 (bs s') a b
  | _, 0, _, _, _, _, _, _, _, h, _, _, _ => by omega
  | 0, n + 1, N, i, j, s, h1, h2, h3, h4, h5, h6, h7 => by
    refine ⟨s, i, j, by omega, by omega, by omega, fun R kx0 => ?_⟩
    rw [Lp6_5]
    simp only [Lp6_5_step]
    rw [dF (by omega)]
  | d + 1, n + 1, N, i, j, s, h1, h2, h3, h4, h5, h6, h7 => by
    obtain ⟨t, j', g1, g2, g3, hk⟩ := fn38 q s (by omega) h5 (by omega)
    obtain ⟨s', a, b, k1, k2, k3, k4⟩ := lp6_5 m q d n N (i + 1) j' t (by omega) (by omega) h3 (by omega) (by omega) (by omega) (by omega)
    refine ⟨s', a, b, k1, by omega, by omega, fun R kx0 => ?_⟩
    rw [Lp6_5]
    simp only [Lp6_5_step]
    rw [dT (by omega), hk, w64 (by omega) (by omega)]
    exact k4 R kx0
theorem jn6 (m : Nat) (q : Abs.Rows) (a : ByteArray) (l : List UInt8) (hl : l.length ≤ 1500) {i : Int} (h0 : 0 ≤ i) (h1 : i ≤ 1500) : ∃ (s : List UInt8) (i' : Int), s.length ≤ 2000 ∧ i ≤ i' ∧ i' ≤ i + 10 ∧ ∀ (R : Type) (k : ByteArray → ByteArray → Int → Option R), Jn6_3 (m + 4) k a (bs l) q i = k (bs s) (bs s) i' := by
  have hp : 0 ≤ pk [[F.lit (Value.int IntKind.i64 (0 : Int))], [F.lit (Value.int IntKind.i64 (0 : Int))], [F.lit (Value.int IntKind.i64 (0 : Int))], [F.lit (Value.int IntKind.i64 (0 : Int))], [F.lit (Value.int IntKind.i64 (1 : Int))]] q i ∧ pk [[F.lit (Value.int IntKind.i64 (0 : Int))], [F.lit (Value.int IntKind.i64 (0 : Int))], [F.lit (Value.int IntKind.i64 (0 : Int))], [F.lit (Value.int IntKind.i64 (0 : Int))], [F.lit (Value.int IntKind.i64 (1 : Int))]] q i ≤ 1 := by
    refine pk_all (P := fun x => 0 ≤ x ∧ x ≤ 1) _ q i (by simp) (fun j hj => ?_)
    simp at hj
    rcases (show j = 0 ∨ j = 1 ∨ j = 2 ∨ j = 3 ∨ j = 4 by omega) with rfl | rfl | rfl | rfl | rfl <;> decide
  generalize hv : pk [[F.lit (Value.int IntKind.i64 (0 : Int))], [F.lit (Value.int IntKind.i64 (0 : Int))], [F.lit (Value.int IntKind.i64 (0 : Int))], [F.lit (Value.int IntKind.i64 (0 : Int))], [F.lit (Value.int IntKind.i64 (1 : Int))]] q i = v at hp
  obtain ⟨d, rfl⟩ := Int.eq_ofNat_of_zero_le hp.1
  obtain ⟨s', x, b, g1, g2, g3, g4⟩ := lp6_5 m q d (m + 4) d 0 (i + 1) l (by omega) (by omega) (by omega) (by omega) (by omega) (by omega) (by omega)
  refine ⟨s', b, g1, by omega, by omega, fun R k => ?_⟩
  simp only [Jn6_3]
  rw [gn37 (m + 1) q _ h0 (by omega) (by simp) (by simp), hv]
  exact g4 R _
theorem fn6 (m : Nat) (hm : 30 ≤ m) (q : Abs.Rows) {i : Int} (h0 : 0 ≤ i) (h1 : i ≤ 500) : ∃ (s : List UInt8) (i' : Int), s.length ≤ 2000 ∧ i ≤ i' ∧ i' ≤ i + 100 ∧ ∀ (R : Type) (k : ByteArray → Int → Option R), Fn6 (m + 5) q i k = k (bs s) i' := by
  obtain ⟨s, j, g1, g2, g3, g4⟩ := fn33 m (by omega) q h0 (by omega)
  by_cases hb : (nx q j % 8 == 0) = true
  · obtain ⟨t, ht, hk⟩ := some_ok q ([[F.lit (Value.string { data := #[] })], [F.lit (Value.string { data := #[(46 : UInt8)] })], [F.lit (Value.string { data := #[(33 : UInt8)] })], [F.lit (Value.string { data := #[(91 : UInt8), (49 : UInt8), (50 : UInt8), (51 : UInt8), (93 : UInt8)] })], [F.lit (Value.string { data := #[(91 : UInt8), (50 : UInt8), (45 : UInt8), (57 : UInt8), (93 : UInt8)] })], [F.lit (Value.string { data := #[(91 : UInt8), (49 : UInt8), (93 : UInt8)] })], [F.lit (Value.string { data := #[(91 : UInt8), (93 : UInt8)] })], [F.lit (Value.string { data := #[(91 : UInt8), (50 : UInt8), (49 : UInt8), (93 : UInt8)] })], [F.lit (Value.string { data := #[(49 : UInt8), (46 : UInt8), (50 : UInt8)] })], [F.lit (Value.string { data := #[(91 : UInt8), (49 : UInt8), (45 : UInt8), (50 : UInt8), (93 : UInt8)] })], [F.lit (Value.string { data := #[(88 : UInt8), (33 : UInt8), (33 : UInt8)] })], [F.lit (Value.string { data := #[(65 : UInt8)] })], [F.lit (Value.string { data := #[(91 : UInt8), (48 : UInt8), (45 : UInt8), (57 : UInt8), (93 : UInt8)] })], [F.lit (Value.string { data := #[(91 : UInt8), (49 : UInt8), (51 : UInt8)] })], [F.lit (Value.string { data := #[(93 : UInt8)] })], [F.lit (Value.string (repB { data := #[(49 : UInt8)] } (31 : Int)))], [F.lit (Value.string (repB { data := #[(88 : UInt8)] } (29 : Int) ++ { data := #[(33 : UInt8)] }))], [F.lit (Value.string (repB { data := #[(91 : UInt8), (49 : UInt8), (50 : UInt8), (93 : UInt8)] } (16 : Int)))]]) (by decide) (by kernel_rfl) (by decide) (show 0 ≤ j + 1 by omega) (by omega)
    obtain ⟨s', i', k1, k2, k3, k4⟩ := jn6 m q { data := #[] } t (by omega) (show 0 ≤ j + 1 + 1 by omega) (by omega)
    refine ⟨s', i', k1, by omega, by omega, fun R k => ?_⟩
    simp only [Fn6]
    have hg := g4 R
    rw [g4, gn34 (m + 1) q (by omega) (by omega) (by omega) (by omega), hb]
    have r1 : repOk { data := #[(49 : UInt8)] } (31 : Int) = true := by kernel_rfl
    have r2 : repOk { data := #[(88 : UInt8)] } (29 : Int) = true := by kernel_rfl
    have r3 : repOk { data := #[(91 : UInt8), (49 : UInt8), (50 : UInt8), (93 : UInt8)] } (16 : Int) = true := by kernel_rfl
    simp only [r1, r2, r3, cond_true]
    rw [hk (m + 1)]
    have hz : ∀ (x : Nat), x ≤ 100000 → x ≤ strMax := fun x hx => by rw [sMax]; omega
    first
      | exact k4 R _
      | (rw [dT (hz _ (by decide))]; exact k4 R _)
  · obtain ⟨s', i', k1, k2, k3, k4⟩ := jn6 m q { data := #[] } s (by omega) (show 0 ≤ j + 1 by omega) (by omega)
    refine ⟨s', i', k1, by omega, by omega, fun R k => ?_⟩
    simp only [Fn6]
    rw [g4, gn34 (m + 1) q (by omega) (by omega) (by omega) (by omega), Bool.eq_false_iff.2 hb]
    simp only [cond_false]
    exact k4 R _
end Go.Proofs.YtngjadgglbkjlaaDoor.Med
end
section
set_option linter.unusedVariables false
set_option linter.unusedSimpArgs false
set_option linter.unusedSectionVars false
namespace Go.Proofs.YtngjadgglbkjlaaDoor.Med
open Go Go.Abs Go.Proofs
set_option linter.unusedVariables false
set_option linter.unusedSimpArgs false
/-! the signs of a set, in order -/
def sgnR : Nat → Nat → Nat → List UInt8 → List UInt8
  | 0, _, _, s => s
  | n + 1, x, i, s => if i < 12 then (if x / 2 ^ i % 2 = 1 then sgnR n x (i + 1) (s ++ [D12.getD i 0]) else sgnR n x (i + 1) s) else s
def sgn (x : Nat) : List UInt8 := sgnR 13 x 0 []
theorem sgn4 : ((List.range 1024).all fun M => sgn (4 * M) == setL M) = true := by kernel_rfl
theorem sgn1 : ((List.range 12).all fun i => sgn (2 ^ i) == [D12.getD i 0]) = true := by kernel_rfl
theorem sgnR_len : ∀ (n x i : Nat) (s : List UInt8), (sgnR n x i s).length ≤ s.length + (12 - i)
  | 0, _, _, s => by simp [sgnR]
  | n + 1, x, i, s => by
    rw [sgnR]
    split
    · split
      · have h1 := sgnR_len n x (i + 1) (s ++ [D12.getD i 0])
        rw [List.length_append, List.length_singleton] at h1
        omega
      · have := sgnR_len n x (i + 1) s; omega
    · omega
theorem sgn_len (x : Nat) : (sgn x).length ≤ 12 := by have := sgnR_len 13 x 0 []; simpa [sgn] using this
theorem elem_sgn {l : List UInt8} {x : Nat} {S : List UInt8} {n : Nat} (h : elemP l = some (x, S, n)) : S = sgn x := by
  cases l with
  | nil => cases h
  | cons c r =>
    simp only [elemP] at h
    cases hi : ixB c D12 with
    | some i =>
      rw [hi] at h
      simp only [Option.some.injEq, Prod.mk.injEq] at h
      obtain ⟨rfl, rfl, rfl⟩ := h
      obtain ⟨h1, h2, _⟩ := ixB_lt hi
      have := List.all_eq_true.1 sgn1 i (List.mem_range.2 h1)
      rw [h2] at this
      exact (beq_iff_eq.1 this).symm
    | none =>
      rw [hi] at h
      simp only at h
      split at h
      · simp only [Option.some.injEq, Prod.mk.injEq] at h
        obtain ⟨rfl, rfl, rfl⟩ := h
        kernel_rfl
      split at h
      · simp only [Option.some.injEq, Prod.mk.injEq] at h
        obtain ⟨rfl, rfl, rfl⟩ := h
        kernel_rfl
      split at h
      · simp only [Option.some.injEq, Prod.mk.injEq] at h
        obtain ⟨rfl, rfl, rfl⟩ := h
        kernel_rfl
      split at h
      · split at h
        · cases h
        · rename_i e he
          split at h
          · cases h
          · rename_i a ha
            simp only [Option.some.injEq, Prod.mk.injEq] at h
            obtain ⟨rfl, rfl, rfl⟩ := h
            obtain ⟨M, hM, rfl, h3, h4⟩ := rs_some ha
            have := List.all_eq_true.1 sgn4 M (List.mem_range.2 hM)
            rw [show 4 * M / 4 = M by omega]
            exact (beq_iff_eq.1 this).symm
      · cases h
def Ord (p : Pat) : Prop := ∀ e ∈ p.1, e.2 = sgn e.1
theorem parse_sgn : ∀ (f : Nat) (l : List UInt8) (es : List (Nat × List UInt8)) (t : Nat), parseP f l = some (es, t) → ∀ e ∈ es, e.2 = sgn e.1
  | 0, _, _, _, h => by cases h
  | f + 1, l, es, t, h => by
    rw [parseP] at h
    split at h
    · cases h; simp
    split at h
    · cases h; simp
    split at h
    · cases h; simp
    split at h
    · cases h
    · rename_i x S n he
      split at h
      · cases h
      · rename_i es' t' hp
        cases h
        have h1 := parse_sgn f _ es' t hp
        intro e hm
        rcases List.mem_cons.1 hm with rfl | hm
        · exact elem_sgn he
        · exact h1 e hm
theorem read_sgn {l : List UInt8} {p : Pat} (h : readP l = some p) : Ord p := by
  unfold readP at h
  split at h
  · cases h
  · split at h
    · cases h
    · rename_i q hq
      split at h
      · cases h
        obtain ⟨es, t⟩ := p
        exact parse_sgn _ _ _ _ hq
      · cases h
theorem d12_ext {i : Nat} (h : i < 12) : (bs D12).extract i (i + 1) = bs [D12.getD i 0] := by
  rcases (show i = 0 ∨ i = 1 ∨ i = 2 ∨ i = 3 ∨ i = 4 ∨ i = 5 ∨ i = 6 ∨ i = 7 ∨ i = 8 ∨ i = 9 ∨ i = 10 ∨ i = 11 by omega) with rfl | rfl | rfl | rfl | rfl | rfl | rfl | rfl | rfl | rfl | rfl | rfl <;> rfl
theorem lp86_5 (m : Nat) {x : Nat} (hx : x < 4096) {R : Type} (kx0 : ByteArray → Int → Option R) : ∀ (d f n i : Nat) (s : List UInt8), i + d = 12 → d < f → d < n → s.length ≤ i → Lp86_5 m kx0 x n (bs s) i = kx0 (bs (sgnR f x i s)) 12
  | _, 0, _, _, _, _, h, _, _ => by omega
  | _, _, 0, _, _, _, _, h, _ => by omega
  | 0, f + 1, n + 1, i, s, h1, h2, h3, h4 => by
    have hi : i = 12 := by omega
    subst hi
    rw [Lp86_5, sgnR]
    simp only [Lp86_5_step]
    rw [dF (by omega), if_neg (by omega)]
    rfl
  | d + 1, f + 1, n + 1, i, s, h1, h2, h3, h4 => by
    have n0 : Int.toNat (i : Int) = i := by omega
    have e1 : IntKind.wrap .i64 ((i : Int) + 1) = ((i + 1 : Nat) : Int) := by rw [w64 (by omega) (by omega)]; omega
    have n1 : Int.toNat ((i + 1 : Nat) : Int) = i + 1 := by omega
    have e2 : Int.fdiv (x : Int) ((2 : Int) ^ min (Int.toNat (i : Int)) (16 : Nat)) = ((x / 2 ^ i : Nat) : Int) := by
      rw [n0, Nat.min_eq_left (by omega), Int.fdiv_eq_ediv_of_nonneg _ (Int.pow_nonneg (by decide))]
      rw [Int.natCast_ediv, Int.natCast_pow]
      rfl
    have hq : x / 2 ^ i ≤ x := Nat.div_le_self _ _
    have e3 : bitsOp IntKind.u16 (BitVec.ofInt (16 : Nat) ((x / 2 ^ i : Nat) : Int) &&& BitVec.ofInt (16 : Nat) (1 : Int)) = ((x / 2 ^ i % 2 : Nat) : Int) := by
      have := and16 (a := x / 2 ^ i) (b := 1) (by omega) (by decide)
      rw [Nat.and_one_is_mod] at this
      exact this
    have hs : (bs D12).size = 12 := rfl
    rw [Lp86_5, sgnR]
    simp only [Lp86_5_step, e2]
    rw [dT (by omega), if_pos (by omega), dT (by omega), e3, e1]
    by_cases hc : x / 2 ^ i % 2 = 1
    · rw [nT (by omega), if_pos hc, n1, n0]
      refine Eq.trans (dT (show (0 : Int) ≤ ((i + 1 : Nat) : Int) ∧ ((i + 1 : Nat) : Int) ≤ (((bs D12).size : Nat) : Int) by rw [hs]; omega)) ?_
      rw [dT (by omega)]
      refine Eq.trans (dT (show (bs s).size + ((bs D12).extract i (i + 1)).size ≤ strMax by rw [d12_ext (by omega), bs_size, bs_size, sMax]; simp; omega)) ?_
      refine Eq.trans (b := Lp86_5 m kx0 x n (bs s ++ (bs D12).extract i (i + 1)) ((i + 1 : Nat) : Int)) rfl ?_
      rw [d12_ext (by omega), bs_app]
      exact lp86_5 m hx kx0 d f n (i + 1) _ (by omega) (by omega) (by omega) (by simp; omega)
    · rw [nF (by omega), if_neg hc]
      exact lp86_5 m hx kx0 d f n (i + 1) s (by omega) (by omega) (by omega) (by omega)
def rkS (p : Pat) (i : Nat) : List UInt8 := if i < p.1.length then (p.1.getD i (0, [])).2 else []
def cd (t : Nat) : Nat := if t = 46 then 100 else if t = 33 then 102 else 101
def rkN (p : Pat) (i : Nat) : Nat := if i < p.1.length then (rkS p i).length else if i = p.1.length then cd p.2 else 101
theorem fn86 (m : Nat) (hm : 20 ≤ m) {p : Pat} (hp : PatOk p) (ho : Ord p) (i : Nat) {R : Type} (k : Int → ByteArray → Option R) : Fn86 (m + 1) (mrow p.1) p.2 i k = k (rkN p i) (bs (rkS p i)) := by
  simp only [Fn86, mrow_len]
  by_cases h : i < p.1.length
  · have hx := eAt_lt hp h
    have hmem : p.1.getD i (0, []) ∈ p.1 := by
      rw [List.getD_eq_getElem?_getD, List.getElem?_eq_getElem h]
      exact List.getElem_mem h
    have hS := ho _ hmem
    rw [dT (by omega), dT (by omega), show Int.toNat (i : Int) = i by omega, mrow_fI, if_pos h]
    refine Eq.trans (lp86_5 m hx _ 12 13 m 0 [] (by omega) (by omega) (by omega) (by simp)) ?_
    simp only [rkN, rkS, if_pos h, hS]
    show k ((bs (sgnR 13 (eAt p i) 0 [])).size : Nat) _ = _
    rw [bs_size]
    rfl
  · rw [dF (by omega)]
    have e1 : rkS p i = [] := by unfold rkS; rw [if_neg h]
    have e2 : rkN p i = if i = p.1.length then cd p.2 else 101 := by unfold rkN; rw [if_neg h]
    rw [e1, e2]
    by_cases c : i = p.1.length
    · rw [eT (by omega), if_pos c]
      rcases hp.tail with ht | ht | ht
      · rw [ht]
        simp only [Jn86_13, mrow_len]
        rw [bF (by decide), eT (by omega), eF (by decide)]
        rfl
      · rw [ht]
        rfl
      · rw [ht]
        simp only [Jn86_13, mrow_len]
        rw [bF (by decide), eT (by omega), eT (by decide)]
        rfl
    · rw [eF (by omega), if_neg c]
      simp only [Jn86_13, mrow_len]
      rw [bF rfl, eF (by omega)]
      rfl
def cm (a b : Int) : Int := if a < b then -1 else if b < a then 1 else 0
theorem fn88 (m : Nat) (a b : Int) {R : Type} (k : Int → Option R) : Fn88 (m + 2) a b k = k (cm a b) := by
  simp only [Fn88, Fn111, bne_self_eq_false, cond_false, cm]
  by_cases h : a < b
  · rw [dT h, if_pos h]
  · rw [dF h, if_neg h]
    by_cases h2 : b < a
    · rw [dT h2, if_pos h2]
    · rw [dF h2, if_neg h2]
theorem fn87 (m : Nat) (a b : Int) {R : Type} (k : Int → Option R) : Fn87 (m + 4) [[F.lit (Value.int IntKind.i64 a)], [F.lit (Value.int IntKind.i64 b)]] k = k (if a ≠ 0 then a else b) := by
  have e0 : fI [[F.lit (Value.int IntKind.i64 a)], [F.lit (Value.int IntKind.i64 b)]] 0 0 = a := rfl
  have e1 : fI [[F.lit (Value.int IntKind.i64 a)], [F.lit (Value.int IntKind.i64 b)]] 1 0 = b := rfl
  simp (disch := omega) only [Fn87, Lp87_3, Lp87_3_step, List.length_cons, List.length_nil, ↓dT, ↓dF, w64, Int.toNat_zero, e0, e1, Int.reduceAdd, Int.reduceToNat]
  by_cases ha : a = 0
  · rw [nF ha, if_neg (by simpa using ha)]
    by_cases hb : b = 0
    · rw [nF hb, hb]
    · rw [nT hb]
  · rw [nT ha, if_pos (by simpa using ha)]
end Go.Proofs.YtngjadgglbkjlaaDoor.Med
end
section
set_option linter.unusedVariables false
set_option linter.unusedSimpArgs false
set_option linter.unusedSectionVars false
namespace Go.Proofs.YtngjadgglbkjlaaDoor.Med
open Go Go.Abs Go.Proofs
set_option linter.unusedVariables false
set_option linter.unusedSimpArgs false
/-! which of two patterns is before the other: the program -/
def cmS (a b : List UInt8) : Int := Lib.compareBytes a b
theorem cmpB_bs (a b : List UInt8) : cmpB (bs a) (bs b) = cmS a b := rfl
def cmE (a b : List UInt8) : Int := if cm a.length b.length ≠ 0 then cm a.length b.length else cmS a b
def bef : List (Nat × List UInt8) → Nat → List (Nat × List UInt8) → Nat → Int
  | [], t, [], t' => cm (cd t) (cd t')
  | [], _, _ :: _, _ => 1
  | _ :: _, _, [], _ => -1
  | e :: es, t, e' :: es', t' => if cmE e.2 e'.2 ≠ 0 then cmE e.2 e'.2 else bef es t es' t'
theorem cd_b (t : Nat) : 100 ≤ cd t ∧ cd t ≤ 102 := by unfold cd; split; omega; split <;> omega
theorem drop_at (p : Pat) (i : Nat) (h : i < p.1.length) : p.1.drop i = p.1.getD i (0, []) :: p.1.drop (i + 1) := by
  rw [List.drop_eq_getElem_cons h, List.getD_eq_getElem?_getD, List.getElem?_eq_getElem h]
  rfl
theorem rk_at {p : Pat} (ho : Ord p) {i : Nat} (h : i < p.1.length) : rkS p i = (p.1.getD i (0, [])).2 ∧ rkN p i = (p.1.getD i (0, [])).2.length ∧ (p.1.getD i (0, [])).2.length ≤ 12 := by
  have hmem : p.1.getD i (0, []) ∈ p.1 := by
    rw [List.getD_eq_getElem?_getD, List.getElem?_eq_getElem h]
    exact List.getElem_mem h
  have e : rkS p i = (p.1.getD i (0, [])).2 := by unfold rkS; rw [if_pos h]
  refine ⟨e, ?_, ?_⟩
  · unfold rkN; rw [if_pos h, e]
  · rw [ho _ hmem]; exact sgn_len _
theorem rk_end {p : Pat} {i : Nat} (h : i = p.1.length) : rkS p i = [] ∧ rkN p i = cd p.2 := by
  subst h
  unfold rkS rkN
  rw [if_neg (by omega), if_neg (by omega), if_pos rfl]
  exact ⟨rfl, rfl⟩
theorem max_i (a b : Nat) : (if (b : Int) > (a : Int) then (b : Int) else (a : Int)) = ((max a b : Nat) : Int) := by
  split <;> omega
theorem lp47 (m : Nat) (hm : 30 ≤ m) {p q : Pat} (hp : PatOk p) (hq : PatOk q) (op : Ord p) (oq : Ord q) {R : Type} (k : Int → Option R) (z : Int) : ∀ (d n i : Nat), 32 - i ≤ d → d < n → i ≤ p.1.length → i ≤ q.1.length →
    Lp47_2 (m + 4) (fun a _ => k a) (fun _ => k 0) (mrow p.1) p.2 (mrow q.1) q.2 z n i = k (bef (p.1.drop i) p.2 (q.1.drop i) q.2)
  | _, 0, _, _, h, _, _ => by omega
  | 0, n + 1, i, h, _, h1, h2 => by have := hp.len; omega
  | d + 1, n + 1, i, h, h0, h1, h2 => by
    have hpl := hp.len
    have e1 : IntKind.wrap .i64 ((i : Int) + 1) = ((i + 1 : Nat) : Int) := by rw [w64 (by omega) (by omega)]; omega
    rw [Lp47_2]
    simp only [Lp47_2_step, mrow_len, max_i, e1]
    rw [dT (by omega)]
    refine Eq.trans (fn86 (m + 3) (by omega) hp op i _) ?_
    refine Eq.trans (fn86 (m + 3) (by omega) hq oq i _) ?_
    refine Eq.trans (fn88 (m + 2) _ _ _) ?_
    refine Eq.trans (fn87 m _ _ _) ?_
    rw [cmpB_bs]
    by_cases c1 : i < p.1.length
    · obtain ⟨a1, a2, a3⟩ := rk_at op c1
      by_cases c2 : i < q.1.length
      · obtain ⟨b1, b2, b3⟩ := rk_at oq c2
        rw [a1, a2, b1, b2, drop_at p i c1, drop_at q i c2]
        show (bif cmE _ _ != 0 then k (cmE _ _) else _) = k (if cmE _ _ ≠ 0 then cmE _ _ else _)
        by_cases c : cmE (p.1.getD i (0, [])).2 (q.1.getD i (0, [])).2 = 0
        · rw [nF c, if_neg (by simpa using c)]
          exact lp47 m hm hp hq op oq k z d n (i + 1) (by omega) (by omega) (by omega) (by omega)
        · rw [nT c, if_pos c]
      · obtain ⟨b1, b2⟩ := rk_end (p := q) (i := i) (by omega)
        have := cd_b q.2
        have hc : cm ((p.1.getD i (0, [])).2.length : Int) (cd q.2 : Int) = -1 := by unfold cm; rw [if_pos (by omega)]
        rw [a1, a2, b1, b2, drop_at p i c1, List.drop_eq_nil_of_le (by omega : q.1.length ≤ i), hc, if_pos (by decide), nT (by decide)]
        rfl
    · obtain ⟨a1, a2⟩ := rk_end (p := p) (i := i) (by omega)
      by_cases c2 : i < q.1.length
      · obtain ⟨b1, b2, b3⟩ := rk_at oq c2
        have := cd_b p.2
        have hc : cm (cd p.2 : Int) ((q.1.getD i (0, [])).2.length : Int) = 1 := by unfold cm; rw [if_neg (by omega), if_pos (by omega)]
        rw [a1, a2, b1, b2, drop_at q i c2, List.drop_eq_nil_of_le (by omega : p.1.length ≤ i), hc, if_pos (by decide), nT (by decide)]
        rfl
      · obtain ⟨b1, b2⟩ := rk_end (p := q) (i := i) (by omega)
        rw [a1, a2, b1, b2, List.drop_eq_nil_of_le (by omega : q.1.length ≤ i), List.drop_eq_nil_of_le (by omega : p.1.length ≤ i)]
        show (bif (if cm (cd p.2) (cd q.2) ≠ 0 then cm (cd p.2) (cd q.2) else cmS [] []) != 0 then k (if cm (cd p.2) (cd q.2) ≠ 0 then cm (cd p.2) (cd q.2) else cmS [] []) else _) = k (cm (cd p.2) (cd q.2))
        by_cases c : cm (cd p.2 : Int) (cd q.2 : Int) = 0
        · rw [c]
          refine Eq.trans (nF (by rfl)) ?_
          cases n with
          | zero => omega
          | succ n =>
            rw [Lp47_2]
            simp only [Lp47_2_step, mrow_len, max_i]
            rw [dF (by omega)]
        · rw [if_pos c, nT c]
theorem fn47 (m : Nat) (hm : 60 ≤ m) {p q : Pat} (hp : PatOk p) (hq : PatOk q) (op : Ord p) (oq : Ord q) {R : Type} (k : Int → Option R) : Fn47 (m + 5) (mrow p.1) p.2 (mrow q.1) q.2 k = k (bef p.1 p.2 q.1 q.2) := by
  simp only [Fn47]
  exact lp47 m (by omega) hp hq op oq k 0 32 (m + 4) 0 (by omega) (by omega) (by omega) (by omega)
def befP (p q : Pat) : Int := bef p.1 p.2 q.1 q.2
theorem fn15 (m : Nat) (hm : 300 ≤ m) (l1 l2 : List UInt8) {R : Type} (k : Int → Int → Option R) : Fn15 (m + 43) (bs l1) (bs l2) k = match readP l1 with
    | none => k 0 (faultP l1)
    | some p => match readP l2 with
      | none => k 0 (faultP l2)
      | some q => k (befP p q) 0 := by
  have hf : ∀ l, faultP l ≠ 0 := fun l => by unfold faultP; split <;> decide
  simp only [Fn15]
  refine Eq.trans (fn39 m (by omega) l1 _) ?_
  cases h1 : readP l1 with
  | none => simp only; rw [nT (hf l1)]
  | some p =>
    simp only
    rw [nF rfl]
    refine Eq.trans (fn39 m (by omega) l2 _) ?_
    cases h2 : readP l2 with
    | none => simp only; rw [nT (hf l2)]
    | some q =>
      simp only
      rw [nF rfl]
      exact fn47 (m + 37) (by omega) (read_ok h1).1 (read_ok h2).1 (read_sgn h1) (read_sgn h2) _
end Go.Proofs.YtngjadgglbkjlaaDoor.Med
end
section
set_option linter.unusedVariables false
set_option linter.unusedSimpArgs false
set_option linter.unusedSectionVars false
namespace Go.Proofs.YtngjadgglbkjlaaDoor.Med
open Go Go.Abs Go.Proofs
set_option linter.unusedVariables false
set_option linter.unusedSimpArgs false
/-! which of two patterns is before the other: the reference -/
def ri (a : List Int) : Abs.Rows := a.map fun z => [F.lit (.int .i64 z)]
theorem ri_len (a : List Int) : (ri a).length = a.length := by simp [ri]
theorem ri_fI (a : List Int) (i : Nat) (h : i < a.length) : fI (ri a) i 0 = a.getD i 0 := by
  show F.toInt ((Abs.rowAt (ri a) i).headD default) = _
  unfold Abs.rowAt ri
  rw [List.getD_eq_getElem?_getD, List.getD_eq_getElem?_getD, List.getElem?_map, List.getElem?_eq_getElem h]
  rfl
def cmpI : List Int → List Int → Int
  | [], [] => 0
  | [], _ :: _ => -1
  | _ :: _, [] => 1
  | a :: xs, b :: ys => if cm a b ≠ 0 then cm a b else cmpI xs ys
theorem dropI (a : List Int) (i : Nat) (h : i < a.length) : a.drop i = a.getD i 0 :: a.drop (i + 1) := by
  rw [List.drop_eq_getElem_cons h, List.getD_eq_getElem?_getD, List.getElem?_eq_getElem h]
  rfl
theorem lp53 (m : Nat) (a b : List Int) (ha : a.length ≤ 1000) (hb : b.length ≤ 1000) {R : Type} (k : Int → Option R) (z : Int) : ∀ (d n i : Nat), a.length - i ≤ d → d < n → i ≤ a.length → i ≤ b.length →
    Lp53_2 (m + 2) (fun x _ => k x) (fun _ => bif decide ((a.length : Int) < (b.length : Int)) then k (-1 : Int) else k (0 : Int)) (ri a) (ri b) z (ri a) a.length n i = k (cmpI (a.drop i) (b.drop i))
  | _, 0, _, _, h, _, _ => by omega
  | d, n + 1, i, h, h0, h1, h2 => by
    have e1 : IntKind.wrap .i64 ((i : Int) + 1) = ((i + 1 : Nat) : Int) := by rw [w64 (by omega) (by omega)]; omega
    rw [Lp53_2]
    simp only [Lp53_2_step, ri_len, e1]
    by_cases c1 : i < a.length
    · rw [dT (by omega), dT (by omega), dropI a i c1]
      by_cases c2 : i < b.length
      · rw [dF (by omega), dT (by omega), dropI b i c2, show Int.toNat (i : Int) = i by omega, ri_fI a i c1, ri_fI b i c2]
        refine Eq.trans (fn88 m _ _ _) ?_
        by_cases c : cm (a.getD i 0) (b.getD i 0) = 0
        · rw [nF c]
          cases d with
          | zero => omega
          | succ d =>
            refine Eq.trans (lp53 m a b ha hb k z d n (i + 1) (by omega) (by omega) (by omega) (by omega)) ?_
            rw [cmpI, if_neg (fun h => h c)]
        · rw [nT c, cmpI, if_pos c]
      · rw [dT (by omega), List.drop_eq_nil_of_le (by omega : b.length ≤ i)]
        rfl
    · rw [dF (by omega), List.drop_eq_nil_of_le (by omega : a.length ≤ i)]
      by_cases c2 : i < b.length
      · rw [dT (by omega), dropI b i c2]
        rfl
      · rw [dF (by omega), List.drop_eq_nil_of_le (by omega : b.length ≤ i)]
        rfl
theorem fn53 (m : Nat) (hm : 1000 ≤ m) (a b : List Int) (ha : a.length ≤ 1000) (hb : b.length ≤ 1000) {R : Type} (k : Int → Option R) : Fn53 (m + 3) (ri a) (ri b) k = k (cmpI a b) := by
  simp only [Fn53, ri_len]
  exact lp53 m a b ha hb k 0 a.length (m + 2) 0 (by omega) (by omega) (by omega) (by omega)
theorem fn52 (m : Nat) (hm : 1000 ≤ m) (a b : List Int) (ha : a.length ≤ 1000) (hb : b.length ≤ 1000) {R : Type} (k : Int → Option R) : Fn52 (m + 4) (ri a) (ri b) k = k (cmpI a b) := by
  simp only [Fn52]
  exact fn53 m hm a b ha hb _
def rr (L : List (List Int)) : Abs.Rows := L.map fun a => [F.lst [LT.int .i64] (ri a)]
theorem rr_len (L : List (List Int)) : (rr L).length = L.length := by simp [rr]
theorem rr_fR (L : List (List Int)) (i : Nat) (h : i < L.length) : fR (rr L) i 0 = ri (L.getD i []) := by
  show F.toRows ((Abs.rowAt (rr L) i).headD default) = _
  unfold Abs.rowAt rr
  rw [List.getD_eq_getElem?_getD, List.getD_eq_getElem?_getD, List.getElem?_map, List.getElem?_eq_getElem h]
  rfl
def cmpL : List (List Int) → List (List Int) → Int
  | [], [] => 0
  | [], _ :: _ => -1
  | _ :: _, [] => 1
  | a :: xs, b :: ys => if cmpI a b ≠ 0 then cmpI a b else cmpL xs ys
theorem dropL (a : List (List Int)) (i : Nat) (h : i < a.length) : a.drop i = a.getD i [] :: a.drop (i + 1) := by
  rw [List.drop_eq_getElem_cons h, List.getD_eq_getElem?_getD, List.getElem?_eq_getElem h]
  rfl
theorem getL (a : List (List Int)) (i : Nat) (h : i < a.length) : a.getD i [] ∈ a := by
  rw [List.getD_eq_getElem?_getD, List.getElem?_eq_getElem h]
  exact List.getElem_mem h
theorem lp50 (m : Nat) (hm : 1000 ≤ m) (a b : List (List Int)) (ha : a.length ≤ 1000) (hb : b.length ≤ 1000) (la : ∀ x ∈ a, x.length ≤ 1000) (lb : ∀ x ∈ b, x.length ≤ 1000) {R : Type} (k : Int → Option R) (z : Int) : ∀ (d n i : Nat), a.length - i ≤ d → d < n → i ≤ a.length → i ≤ b.length →
    Lp50_2 (m + 4) (fun x _ => k x) (fun _ => bif decide ((a.length : Int) < (b.length : Int)) then k (-1 : Int) else k (0 : Int)) (rr a) (rr b) z (rr a) a.length n i = k (cmpL (a.drop i) (b.drop i))
  | _, 0, _, _, h, _, _ => by omega
  | d, n + 1, i, h, h0, h1, h2 => by
    have e1 : IntKind.wrap .i64 ((i : Int) + 1) = ((i + 1 : Nat) : Int) := by rw [w64 (by omega) (by omega)]; omega
    rw [Lp50_2]
    simp only [Lp50_2_step, rr_len, e1]
    by_cases c1 : i < a.length
    · rw [dT (by omega), dT (by omega), dropL a i c1]
      by_cases c2 : i < b.length
      · rw [dF (by omega), dT (by omega), dropL b i c2, show Int.toNat (i : Int) = i by omega, rr_fR a i c1, rr_fR b i c2]
        refine Eq.trans (fn52 m hm _ _ (la _ (getL a i c1)) (lb _ (getL b i c2)) _) ?_
        by_cases c : cmpI (a.getD i []) (b.getD i []) = 0
        · rw [nF c]
          cases d with
          | zero => omega
          | succ d =>
            refine Eq.trans (lp50 m hm a b ha hb la lb k z d n (i + 1) (by omega) (by omega) (by omega) (by omega)) ?_
            rw [cmpL, if_neg (fun h => h c)]
        · rw [nT c, cmpL, if_pos c]
      · rw [dT (by omega), List.drop_eq_nil_of_le (by omega : b.length ≤ i)]
        rfl
    · rw [dF (by omega), List.drop_eq_nil_of_le (by omega : a.length ≤ i)]
      by_cases c2 : i < b.length
      · rw [dT (by omega), dropL b i c2]
        rfl
      · rw [dF (by omega), List.drop_eq_nil_of_le (by omega : b.length ≤ i)]
        rfl
theorem fn50 (m : Nat) (hm : 1000 ≤ m) (a b : List (List Int)) (ha : a.length ≤ 1000) (hb : b.length ≤ 1000) (la : ∀ x ∈ a, x.length ≤ 1000) (lb : ∀ x ∈ b, x.length ≤ 1000) {R : Type} (k : Int → Option R) : Fn50 (m + 5) (rr a) (rr b) k = k (cmpL a b) := by
  simp only [Fn50, rr_len]
  exact lp50 m hm a b ha hb la lb k 0 a.length (m + 4) 0 (by omega) (by omega) (by omega) (by omega)
def rowE (S : List UInt8) : List Int := (S.length : Int) :: S.map fun b => (b.toNat : Int)
def rowsP (p : Pat) : List (List Int) := p.1.map (fun e => rowE e.2) ++ [[(cd p.2 : Int)]]
theorem cmp_bytes : ∀ (s t : List UInt8), cmpI (s.map fun b => (b.toNat : Int)) (t.map fun b => (b.toNat : Int)) = cmS s t
  | [], [] => rfl
  | [], _ :: _ => rfl
  | _ :: _, [] => rfl
  | a :: xs, b :: ys => by
    have ih := cmp_bytes xs ys
    have e : ∀ v, cm (a.toNat : Int) (b.toNat : Int) = v → cmpI ((a :: xs).map fun b => (b.toNat : Int)) ((b :: ys).map fun b => (b.toNat : Int)) = if v ≠ 0 then v else cmS xs ys := by
      intro v hv
      subst hv
      rw [← ih]
      rfl
    have e2 : cmS (a :: xs) (b :: ys) = if a < b then -1 else if b < a then 1 else cmS xs ys := rfl
    rw [e2]
    by_cases h1 : a < b
    · have h3 : (a.toNat : Int) < b.toNat := by have := UInt8.lt_iff_toNat_lt.1 h1; omega
      rw [if_pos h1, e (-1) (by unfold cm; rw [if_pos h3]), if_pos (by decide)]
    · have n1 : ¬ (a.toNat : Int) < b.toNat := fun h => h1 (UInt8.lt_iff_toNat_lt.2 (by omega))
      rw [if_neg h1]
      by_cases h2 : b < a
      · have h3 : (b.toNat : Int) < a.toNat := by have := UInt8.lt_iff_toNat_lt.1 h2; omega
        rw [if_pos h2, e 1 (by unfold cm; rw [if_neg n1, if_pos h3]), if_pos (by decide)]
      · have n2 : ¬ (b.toNat : Int) < a.toNat := fun h => h2 (UInt8.lt_iff_toNat_lt.2 (by omega))
        rw [if_neg h2, e 0 (by unfold cm; rw [if_neg n1, if_neg n2]), if_neg (by simp)]
theorem cmp_rowE (s t : List UInt8) : cmpI (rowE s) (rowE t) = cmE s t := by
  show (if cm s.length t.length ≠ 0 then cm s.length t.length else cmpI (s.map fun b => (b.toNat : Int)) (t.map fun b => (b.toNat : Int))) = _
  rw [cmp_bytes]
  rfl
theorem bef_ref (t t' : Nat) : ∀ (es es' : List (Nat × List UInt8)), (∀ e ∈ es, e.2.length ≤ 12) → (∀ e ∈ es', e.2.length ≤ 12) → cmpL (rowsP (es, t)) (rowsP (es', t')) = bef es t es' t'
  | [], [], _, _ => by
    show (if cmpI [(cd t : Int)] [(cd t' : Int)] ≠ 0 then cmpI [(cd t : Int)] [(cd t' : Int)] else 0) = cm (cd t) (cd t')
    by_cases c : cm (cd t : Int) (cd t' : Int) = 0
    · have e0 : cmpI [(cd t : Int)] [(cd t' : Int)] = 0 := by
        show (if cm (cd t : Int) (cd t' : Int) ≠ 0 then cm (cd t : Int) (cd t' : Int) else 0) = 0
        rw [if_neg (fun h => h c)]
      rw [e0, if_neg (fun h => h rfl), c]
    · have e0 : cmpI [(cd t : Int)] [(cd t' : Int)] = cm (cd t) (cd t') := by
        show (if cm (cd t : Int) (cd t' : Int) ≠ 0 then cm (cd t : Int) (cd t' : Int) else 0) = _
        rw [if_pos c]
      rw [e0, if_pos c]
  | [], e :: es, _, h => by
    have h1 := h e (by simp)
    have h2 := cd_b t
    have hc : cm (cd t : Int) (e.2.length : Int) = 1 := by unfold cm; rw [if_neg (by omega), if_pos (by omega)]
    show (if cmpI [(cd t : Int)] (rowE e.2) ≠ 0 then cmpI [(cd t : Int)] (rowE e.2) else _) = 1
    have e0 : cmpI [(cd t : Int)] (rowE e.2) = 1 := by
      show (if cm (cd t : Int) (e.2.length : Int) ≠ 0 then cm (cd t : Int) (e.2.length : Int) else _) = 1
      rw [hc, if_pos (by decide)]
    rw [e0, if_pos (by decide)]
  | e :: es, [], h, _ => by
    have h1 := h e (by simp)
    have h2 := cd_b t'
    have hc : cm (e.2.length : Int) (cd t' : Int) = -1 := by unfold cm; rw [if_pos (by omega)]
    show (if cmpI (rowE e.2) [(cd t' : Int)] ≠ 0 then cmpI (rowE e.2) [(cd t' : Int)] else _) = -1
    have e0 : cmpI (rowE e.2) [(cd t' : Int)] = -1 := by
      show (if cm (e.2.length : Int) (cd t' : Int) ≠ 0 then cm (e.2.length : Int) (cd t' : Int) else _) = -1
      rw [hc, if_pos (by decide)]
    rw [e0, if_pos (by decide)]
  | e :: es, e' :: es', h, h' => by
    have ih := bef_ref t t' es es' (fun x hx => h x (by simp [hx])) (fun x hx => h' x (by simp [hx]))
    show (if cmpI (rowE e.2) (rowE e'.2) ≠ 0 then cmpI (rowE e.2) (rowE e'.2) else cmpL (rowsP (es, t)) (rowsP (es', t'))) = _
    rw [cmp_rowE, ih]
    rfl
end Go.Proofs.YtngjadgglbkjlaaDoor.Med
end
section
set_option linter.unusedVariables false
set_option linter.unusedSimpArgs false
set_option linter.unusedSectionVars false
namespace Go.Proofs.YtngjadgglbkjlaaDoor.Med
open Go Go.Abs Go.Proofs
set_option linter.unusedVariables false
set_option linter.unusedSimpArgs false
theorem fn41s (m : Nat) (hm : 1300 ≤ m) {l : List UInt8} {p : Pat} (h : readP l = some p) {R : Type} (k : Abs.Rows → Int → Bool → Option R) : Fn41 (m + 2) (bs l) k = k (srow p.1) p.2 true := by
  obtain ⟨rr, tt, h1⟩ := fn41 m hm l (read_ok h).2 k
  rw [h1, h]
theorem lp51_10 (m : Nat) (S : List UInt8) (hS : S.length ≤ 100) {R : Type} (kx0 : Abs.Rows → Int → Option R) (a1 a3 a4 : Abs.Rows) (z1 z2 z3 : Int) : ∀ (d n i : Nat) (L : List Int), i + d = S.length → d < n → L.length ≤ i + 1 →
    Lp51_10 m kx0 a1 z1 a3 (bs S) a4 z2 z3 S.length n (ri L) i = kx0 (ri (L ++ (S.drop i).map fun b => (b.toNat : Int))) S.length
  | _, 0, _, _, _, h, _ => by omega
  | 0, n + 1, i, L, h1, h2, h3 => by
    have hi : i = S.length := by omega
    subst hi
    rw [Lp51_10]
    simp only [Lp51_10_step]
    rw [dF (by omega), List.drop_length]
    simp
  | d + 1, n + 1, i, L, h1, h2, h3 => by
    have e1 : IntKind.wrap .i64 ((i : Int) + 1) = ((i + 1 : Nat) : Int) := by rw [w64 (by omega) (by omega)]; omega
    have hb := (S.getD i 0).toNat_lt
    have e2 : IntKind.wrap .i64 ((S.getD i 0).toNat : Int) = ((S.getD i 0).toNat : Int) := w64 (by omega) (by omega)
    rw [Lp51_10]
    simp only [Lp51_10_step, bs_size, bs_at, arr_at, e1, show Int.toNat (i : Int) = i by omega, e2]
    rw [dT (by omega), dT (by omega), dT (by rw [ri_len, rM]; simp; omega)]
    have e3 : ri L ++ [[F.lit (Value.int IntKind.i64 ((S.getD i 0).toNat : Int))]] = ri (L ++ [((S.getD i 0).toNat : Int)]) := by simp [ri]
    simp only [e3]
    refine Eq.trans (lp51_10 m S hS kx0 a1 a3 a4 z1 z2 z3 d n (i + 1) (L ++ [((S.getD i 0).toNat : Int)]) (by omega) (by omega) (by simp; omega)) ?_
    have hd : S.drop i = S.getD i 0 :: S.drop (i + 1) := by
      rw [List.drop_eq_getElem_cons (by omega), List.getD_eq_getElem?_getD, List.getElem?_eq_getElem (by omega)]
      rfl
    rw [hd, List.map_cons, List.append_assoc]
    rfl
theorem rr_app (L : List (List Int)) (a : List Int) : rr L ++ [[F.lst [LT.int IntKind.i64] (ri a)]] = rr (L ++ [a]) := by simp [rr]
theorem lp51_4 (m : Nat) (hm : 110 ≤ m) {p : Pat} (hp : PatOk p) (op : Ord p) {R : Type} (kx0 : Abs.Rows → Int → Option R) (a : Abs.Rows) (z : Int) : ∀ (d n i : Nat) (L : List (List Int)), i + d = p.1.length → d < n → L.length ≤ i →
    Lp51_4 m kx0 a z (srow p.1) p.1.length n (rr L) i = kx0 (rr (L ++ (p.1.drop i).map fun e => rowE e.2)) p.1.length
  | _, 0, _, _, _, h, _ => by omega
  | 0, n + 1, i, L, h1, h2, h3 => by
    have hi : i = p.1.length := by omega
    rw [Lp51_4]
    simp only [Lp51_4_step]
    rw [dF (by omega), hi, List.drop_length]
    simp
  | d + 1, n + 1, i, L, h1, h2, h3 => by
    have hpl := hp.len
    have hi : i < p.1.length := by omega
    have e1 : IntKind.wrap .i64 ((i : Int) + 1) = ((i + 1 : Nat) : Int) := by rw [w64 (by omega) (by omega)]; omega
    obtain ⟨q1, q2, q3⟩ := rk_at op hi
    have hin : inL p i = (p.1.getD i (0, [])).2 := by unfold inL; rw [if_pos hi]
    rw [Lp51_4]
    simp only [Lp51_4_step, srow_len, e1, show Int.toNat (i : Int) = i by omega, srow_fS p i hi, hin, bs_size]
    rw [dT (by omega), dT (by omega)]
    have hd := drop_at p i hi
    generalize (p.1.getD i (0, [])) = e at *
    refine Eq.trans (lp51_10 m e.2 (by omega) _ a (rr L) (srow p.1) z p.1.length i e.2.length m 0 [(e.2.length : Int)] (by omega) (by omega) (by simp)) ?_
    rw [dT (by rw [rr_len, rM]; simp; omega)]
    have e3 : ri ([(e.2.length : Int)] ++ (e.2.drop 0).map fun b => (b.toNat : Int)) = ri (rowE e.2) := rfl
    rw [e3]
    refine Eq.trans (b := Lp51_4 m kx0 a z (srow p.1) p.1.length n (rr L ++ [[F.lst [LT.int IntKind.i64] (ri (rowE e.2))]]) ((i + 1 : Nat) : Int)) rfl ?_
    rw [rr_app]
    refine Eq.trans (lp51_4 m hm hp op kx0 a z d n (i + 1) (L ++ [rowE e.2]) (by omega) (by omega) (by simp; omega)) ?_
    rw [hd, List.map_cons, List.append_assoc]
    rfl
theorem fn51 (m : Nat) (hm : 1400 ≤ m) {l : List UInt8} {p : Pat} (h : readP l = some p) {R : Type} (k : Abs.Rows → Option R) : Fn51 (m + 3) (bs l) k = k (rr (rowsP p)) := by
  obtain ⟨hp, _⟩ := read_ok h
  have op := read_sgn h
  have hpl := hp.len
  simp only [Fn51]
  refine Eq.trans (fn41s m (by omega) h _) ?_
  simp only [srow_len]
  refine Eq.trans (lp51_4 (m + 2) (by omega) hp op _ _ _ p.1.length (m + 2) 0 [] (by omega) (by omega) (by simp)) ?_
  rw [dT (by rw [rr_len, rM]; simp; omega)]
  rcases hp.tail with ht | ht | ht <;> (rw [ht]; show k _ = _; congr 1; unfold rowsP; rw [← rr_app, ht]; rfl)
def cmL (p q : Pat) : Int := cmpL (rowsP p) (rowsP q)
theorem cm_ref {p q : Pat} (op : Ord p) (oq : Ord q) : cmpL (rowsP p) (rowsP q) = befP p q := by
  obtain ⟨es, t⟩ := p
  obtain ⟨es', t'⟩ := q
  exact bef_ref t t' es es' (fun e he => by rw [op e he]; exact sgn_len _) (fun e he => by rw [oq e he]; exact sgn_len _)
theorem rowsP_ok {p : Pat} (hp : PatOk p) (op : Ord p) : (rowsP p).length ≤ 1000 ∧ ∀ x ∈ rowsP p, x.length ≤ 1000 := by
  have := hp.len
  unfold rowsP
  refine ⟨by simp; omega, fun x hx => ?_⟩
  rcases List.mem_append.1 hx with hx | hx
  · obtain ⟨e, he, rfl⟩ := List.mem_map.1 hx
    have h1 : e.2.length ≤ 12 := by rw [op e he]; exact sgn_len _
    simp [rowE]; omega
  · rw [List.mem_singleton.1 hx]; simp
theorem fn17 (m : Nat) (hm : 1500 ≤ m) {l1 l2 : List UInt8} {p q : Pat} (h1 : readP l1 = some p) (h2 : readP l2 = some q) {R : Type} (k : Int → Option R) : Fn17 (m + 6) (bs l1) (bs l2) k = k (befP p q) := by
  obtain ⟨hp, _⟩ := read_ok h1
  obtain ⟨hq, _⟩ := read_ok h2
  have op := read_sgn h1
  have oq := read_sgn h2
  simp only [Fn17]
  refine Eq.trans (fn51 (m + 2) (by omega) h1 _) ?_
  refine Eq.trans (fn51 (m + 2) (by omega) h2 _) ?_
  refine Eq.trans (fn50 m (by omega) _ _ (rowsP_ok hp op).1 (rowsP_ok hq oq).1 (rowsP_ok hp op).2 (rowsP_ok hq oq).2 _) ?_
  rw [cm_ref op oq]
end Go.Proofs.YtngjadgglbkjlaaDoor.Med
end
section
set_option linter.unusedVariables false
set_option linter.unusedSimpArgs false
set_option linter.unusedSectionVars false
namespace Go.Proofs.YtngjadgglbkjlaaDoor.Med
open Go Go.Abs Go.Proofs
set_option linter.unusedVariables false
set_option linter.unusedSimpArgs false
/-! what is dialled -/
theorem mem_dropW {b : UInt8} {p : UInt8 → Bool} (hb : p b = false) : ∀ (l : List UInt8), b ∈ l → b ∈ l.dropWhile p
  | [], h => by cases h
  | a :: l, h => by
    rw [List.dropWhile_cons]
    by_cases c : p a = true
    · rw [if_pos c]
      rcases List.mem_cons.1 h with rfl | h
      · rw [hb] at c; cases c
      · exact mem_dropW hb l h
    · rw [if_neg c]; exact h
theorem dropW_all {p : UInt8 → Bool} : ∀ (l : List UInt8), (∀ b ∈ l, p b = true) → l.dropWhile p = []
  | [], _ => rfl
  | a :: l, h => by
    rw [List.dropWhile_cons, if_pos (h a (by simp))]
    exact dropW_all l fun b hb => h b (by simp [hb])
theorem trim_nil (s cs : List UInt8) : Lib.trimS s cs = [] ↔ ∀ b ∈ s, b ∈ cs := by
  unfold Lib.trimS Lib.trimLeftS Lib.trimRightS
  constructor
  · intro h b hb
    by_cases c : b ∈ cs
    · exact c
    · exfalso
      have hp : (fun x => cs.contains x) b = false := by simpa using c
      have h1 : b ∈ (s.reverse.dropWhile fun x => cs.contains x).reverse := List.mem_reverse.2 (mem_dropW hp _ (List.mem_reverse.2 hb))
      have h2 := mem_dropW hp _ h1
      rw [h] at h2
      cases h2
  · intro h
    rw [dropW_all s.reverse fun b hb => by simpa using h b (List.mem_reverse.1 hb)]
    rfl
def dOk (s : List UInt8) : Bool := decide (1 ≤ s.length) && (decide (s.length ≤ 30) && s.all fun b => decide (b ∈ D12))
theorem fn45 (m : Nat) (s : List UInt8) {R : Type} (k : Bool → Option R) : Fn45 (m + 1) (bs s) 1 k = k (dOk s) := by
  simp only [Fn45, bs_size]
  unfold dOk
  by_cases h1 : 1 ≤ s.length
  · rw [dT (by omega), decide_eq_true h1, Bool.true_and]
    by_cases h2 : s.length ≤ 30
    · rw [dT (by omega), decide_eq_true h2, Bool.true_and]
      have ht : trimOk (bs s) (bs D12) = true := by
        unfold trimOk
        rw [bs_size, bs_size, decide_eq_true (by omega), decide_eq_true (by decide)]
        decide
      refine Eq.trans (bT ht) ?_
      congr 1
      show ((bs (Lib.trimS s D12)).toList == (bs []).toList) = _
      rw [bs_toList, bs_toList]
      rw [Bool.eq_iff_iff]
      simp only [beq_iff_eq, trim_nil, List.all_eq_true, decide_eq_true_eq]
    · rw [dF (by omega), decide_eq_false h2]; rfl
  · rw [dF (by omega), decide_eq_false h1]; rfl
theorem lp49 (m : Nat) (s : List UInt8) {R : Type} (k : Bool → Option R) (kx1 : Int → Option R) (z : Bool) : ∀ (d n i : Nat), i + d = s.length → d < n → s.length ≤ 100 →
    Lp49_2 (m + 2) (fun b _ => k b) (fun _ => k true) (bs s) (bs D12) z s.length n i = k ((s.drop i).all fun b => decide (b ∈ D12))
  | _, 0, _, _, h, _ => by omega
  | 0, n + 1, i, h1, h2, h3 => by
    have hi : i = s.length := by omega
    rw [Lp49_2]
    simp only [Lp49_2_step]
    rw [dF (by omega), hi, List.drop_length]
    rfl
  | d + 1, n + 1, i, h1, h2, h3 => by
    have e1 : IntKind.wrap .i64 ((i : Int) + 1) = ((i + 1 : Nat) : Int) := by rw [w64 (by omega) (by omega)]; omega
    have hd : s.drop i = s.getD i 0 :: s.drop (i + 1) := by
      rw [List.drop_eq_getElem_cons (by omega), List.getD_eq_getElem?_getD, List.getElem?_eq_getElem (by omega)]
      rfl
    rw [Lp49_2]
    simp only [Lp49_2_step, bs_size, bs_at, arr_at, e1, show Int.toNat (i : Int) = i by omega]
    rw [dT (by omega), dT (by omega)]
    refine Eq.trans (fn42 m D12 ((s.getD i 0).toNat : Int) _) ?_
    have hcc : ((s.getD i 0).toNat : Int).toNat.toUInt8 = s.getD i 0 := by simp
    rw [hcc, hd, List.all_cons]
    by_cases c : s.getD i 0 ∈ D12
    · have := ixI_nn.2 c
      rw [dF (by omega), decide_eq_true c, Bool.true_and]
      exact lp49 m s k kx1 z d n (i + 1) (by omega) (by omega) h3
    · have : ¬ 0 ≤ ixI (s.getD i 0) D12 := fun h => c (ixI_nn.1 h)
      rw [dT (by omega), decide_eq_false c]
      rfl
theorem fn16 (m : Nat) (hm : 100 ≤ m) (s : List UInt8) {R : Type} (k : Int → Option R) : Fn16 (m + 4) (bs s) k = k (if dOk s = true then 0 else 3) := by
  simp only [Fn16, bs_size]
  refine Eq.trans (fn48 (m + 2) _ _ _ _) ?_
  unfold dOk
  by_cases h : 1 ≤ s.length ∧ s.length ≤ 30
  · rw [decide_eq_true (show (1 : Int) ≤ (s.length : Int) ∧ (s.length : Int) ≤ 30 by omega), decide_eq_true h.1, decide_eq_true h.2]
    refine Eq.trans (bF rfl) ?_
    have e : Fn49 (m + 3) (bs s) (bs D12) (fun b643 => bif !b643 then k (3 : Int) else k (0 : Int)) = (fun b643 => bif !b643 then k (3 : Int) else k (0 : Int)) (s.all fun b => decide (b ∈ D12)) := by
      simp only [Fn49, bs_size]
      have := lp49 m s (fun b643 => bif !b643 then k (3 : Int) else k (0 : Int)) (fun _ => none) false s.length (m + 2) 0 (by omega) (by omega) (by omega)
      exact this
    refine Eq.trans e ?_
    cases hA : s.all fun b => decide (b ∈ D12) <;> rfl
  · rw [decide_eq_false (show ¬ ((1 : Int) ≤ (s.length : Int) ∧ (s.length : Int) ≤ 30) by omega)]
    refine Eq.trans (bT rfl) ?_
    by_cases h1 : 1 ≤ s.length
    · rw [decide_eq_true h1, decide_eq_false (show ¬ s.length ≤ 30 by omega)]; rfl
    · rw [decide_eq_false h1]; rfl
/-! does a pattern match -/
def mAt (p : Pat) (s : List UInt8) (i : Nat) : Bool := decide (s.getD i 0 ∈ inL p i) && (decide (i < p.1.length) || decide (p.2 ≠ 0))
def mAll (p : Pat) (s : List UInt8) : Nat → Nat → Bool
  | 0, _ => true
  | d + 1, i => mAt p s i && mAll p s d (i + 1)
def mtP (p : Pat) (s : List UInt8) : Bool := mAll p s s.length 0 && Ek p s.length
theorem ix_of {c : UInt8} (h : c ∈ D12) : ∃ i, ixB c D12 = some i ∧ i < 12 ∧ D12.getD i 0 = c := by
  cases hc : ixB c D12 with
  | none => exact (ixB_none.1 hc h).elim
  | some i => obtain ⟨h1, h2, _⟩ := ixB_lt hc; exact ⟨i, rfl, h1, h2⟩
theorem and_bit (x i : Nat) : (x &&& 2 ^ i = 0) ↔ x.testBit i = false := by
  constructor
  · intro h
    have h1 : (x &&& 2 ^ i).testBit i = (0 : Nat).testBit i := by rw [h]
    rw [Nat.testBit_and, Nat.testBit_two_pow_self, Bool.and_true, Nat.zero_testBit] at h1
    exact h1
  · intro h
    apply Nat.eq_of_testBit_eq
    intro j
    rw [Nat.testBit_and, Nat.testBit_two_pow, Nat.zero_testBit]
    by_cases c : i = j
    · subst c; rw [h, Bool.false_and]
    · rw [decide_eq_false c, Bool.and_false]
theorem lp46 (m : Nat) {p : Pat} (hp : PatOk p) (s : List UInt8) (hs : ∀ b ∈ s, b ∈ D12) (hl : s.length ≤ 100) {R : Type} (kx0 : Bool → Bool → Int → Option R) (kx1 : Int → Option R) (z1 z2 : Bool) : ∀ (d n i : Nat), i + d = s.length → d < n →
    ∃ w : Int, Lp46_2 (m + 3) kx0 kx1 (bs s) (mrow p.1) p.2 z1 z2 s.length n i = if mAll p s d i = true then kx1 s.length else kx0 false false w
  | _, 0, _, _, h => by omega
  | 0, n + 1, i, h1, h2 => by
    have hi : i = s.length := by omega
    refine ⟨0, ?_⟩
    rw [Lp46_2]
    simp only [Lp46_2_step]
    rw [dF (by omega), hi]
    rfl
  | d + 1, n + 1, i, h1, h2 => by
    have e1 : IntKind.wrap .i64 ((i : Int) + 1) = ((i + 1 : Nat) : Int) := by rw [w64 (by omega) (by omega)]; omega
    have hmem : s.getD i 0 ∈ s := by
      rw [List.getD_eq_getElem?_getD, List.getElem?_eq_getElem (by omega)]
      exact List.getElem_mem _
    obtain ⟨j, hj1, hj2, hj3⟩ := ix_of (hs _ hmem)
    have hpw : 2 ^ j < 65536 := Nat.lt_of_lt_of_le (Nat.pow_lt_pow_right (by decide : 1 < 2) hj2) (by decide)
    obtain ⟨w, ih⟩ := lp46 m hp s hs hl kx0 kx1 z1 z2 d n (i + 1) (by omega) (by omega)
    have hM := Mk_lt hp i
    have hbit : (Mk p i &&& 2 ^ j = 0) ↔ mAt p s i = false := by
      rw [and_bit]
      unfold mAt Mk
      have hb := mem_bit hp i hj2
      rw [hj3] at hb
      unfold Ax at hb
      by_cases c : i < p.1.length
      · rw [if_pos c, decide_eq_true c, Bool.true_or, Bool.and_true]
        rw [if_pos c] at hb
        rw [hb]
      · rw [if_neg c, decide_eq_false c, Bool.false_or]
        rw [if_neg c] at hb
        by_cases c2 : p.2 = 0
        · rw [if_pos c2, decide_eq_false (show ¬ p.2 ≠ 0 from fun h => h c2), Bool.and_false, Nat.zero_testBit]
        · rw [if_neg c2, decide_eq_true c2, Bool.and_true, hb]
    have head : Lp46_2 (m + 3) kx0 kx1 (bs s) (mrow p.1) p.2 z1 z2 s.length (n + 1) i = bif ((Mk p i &&& 2 ^ j : Nat) : Int) == 0 then kx0 false false i else Lp46_2 (m + 3) kx0 kx1 (bs s) (mrow p.1) p.2 z1 z2 s.length n ((i + 1 : Nat) : Int) := by
      rw [Lp46_2]
      simp only [Lp46_2_step, bs_size, bs_at, arr_at, e1, show Int.toNat (i : Int) = i by omega]
      rw [dT (by omega)]
      refine Eq.trans (fn80 (m + 2) hp i _) ?_
      rw [dT (by omega)]
      refine Eq.trans (fn85s m hj1 _) ?_
      rw [and16 (by omega) hpw]
    rw [head]
    by_cases c : mAt p s i = true
    · refine ⟨w, ?_⟩
      rw [eF (by have := mt hbit.1 (by rw [c]; simp); omega), ih]
      show _ = if (mAt p s i && mAll p s d (i + 1)) = true then _ else _
      rw [c, Bool.true_and]
    · have c' : mAt p s i = false := Bool.eq_false_iff.2 c
      refine ⟨i, ?_⟩
      rw [eT (by have := hbit.2 c'; omega)]
      show _ = if (mAt p s i && mAll p s d (i + 1)) = true then _ else _
      rw [c', Bool.false_and, if_neg (by decide)]
theorem fn46 (m : Nat) (hm : 200 ≤ m) {p : Pat} (hp : PatOk p) (s : List UInt8) (hs : ∀ b ∈ s, b ∈ D12) (hl : s.length ≤ 100) {R : Type} (k : Bool → Bool → Option R) : ∃ b, Fn46 (m + 4) (mrow p.1) p.2 (bs s) k = k b (mtP p s) := by
  obtain ⟨w, h⟩ := lp46 m hp s hs hl (fun b374 b375 i376 => k b374 b375) (fun i377 => Fn80 (m + 3) (mrow p.1) p.2 (s.length : Int) (fun i378 b379 => bif i378 != (0 : Int) then k true b379 else k b379 b379)) false false s.length (m + 3) 0 (by omega) (by omega)
  simp only [Fn46, bs_size]
  by_cases c : mAll p s s.length 0 = true
  · rw [if_pos c] at h
    have h80 : Fn80 (m + 3) (mrow p.1) p.2 (s.length : Int) (fun i378 b379 => bif i378 != (0 : Int) then k true b379 else k b379 b379) = _ := fn80 (m + 2) hp s.length _
    have e : mtP p s = Ek p s.length := by unfold mtP; rw [c, Bool.true_and]
    rw [e]
    by_cases c2 : (Mk p s.length : Int) = 0
    · exact ⟨_, h.trans (h80.trans (nF c2))⟩
    · exact ⟨_, h.trans (h80.trans (nT c2))⟩
  · rw [if_neg c] at h
    have e : mtP p s = false := by unfold mtP; rw [Bool.eq_false_iff.2 c, Bool.false_and]
    rw [e]
    exact ⟨_, h⟩
theorem dOk_some {s : List UInt8} (h : dOk s = true) : (∀ b ∈ s, b ∈ D12) ∧ s.length ≤ 30 := by
  unfold dOk at h
  simp only [Bool.and_eq_true, decide_eq_true_eq, List.all_eq_true] at h
  exact ⟨h.2.2, h.2.1⟩
theorem fn14 (m : Nat) (hm : 300 ≤ m) (l s : List UInt8) {R : Type} (k : Bool → Int → Option R) : Fn14 (m + 43) (bs l) (bs s) k = match readP l with
    | none => k false (faultP l)
    | some p => if dOk s = true then k (mtP p s) 0 else k false 3 := by
  have hf : ∀ l, faultP l ≠ 0 := fun l => by unfold faultP; split <;> decide
  simp only [Fn14]
  refine Eq.trans (fn39 m (by omega) l _) ?_
  cases h1 : readP l with
  | none => simp only; rw [nT (hf l)]
  | some p =>
    simp only
    rw [nF rfl]
    refine Eq.trans (fn45 (m + 41) s _) ?_
    by_cases c : dOk s = true
    · obtain ⟨d1, d2⟩ := dOk_some c
      rw [if_pos c, c]
      refine Eq.trans (bF rfl) ?_
      obtain ⟨b, h⟩ := fn46 (m + 38) (by omega) (read_ok h1).1 s d1 (by omega) (fun b382 b383 => k b383 (0 : Int))
      exact h
    · rw [if_neg c, Bool.eq_false_iff.2 c]
      rfl
end Go.Proofs.YtngjadgglbkjlaaDoor.Med
end
section
set_option linter.unusedVariables false
set_option linter.unusedSimpArgs false
set_option linter.unusedSectionVars false
namespace Go.Proofs.YtngjadgglbkjlaaDoor.Med
open Go Go.Abs Go.Proofs
set_option linter.unusedVariables false
set_option linter.unusedSimpArgs false
def aR (p : Pat) (s : List UInt8) : Nat → Nat → Bool
  | 0, _ => true
  | d + 1, i => decide (s.getD i 0 ∈ inL p i) && aR p s d (i + 1)
theorem lp19g (m : Nat) {p : Pat} {R : Type} (kx0 : Bool → Int → Option R) (kx1 : Int → Option R) (s : List UInt8) (hs : s.length ≤ 40) (z : Bool) (a : Abs.Rows) (y : Int) (hlen : p.1.length ≤ s.length) : ∀ (d n i : Nat), i + d = p.1.length → d < n →
    ∃ w : Int, Lp19_6 (m + 2) kx0 kx1 (bs s) z a y (srow p.1) p.1.length n i = if aR p s d i = true then kx1 p.1.length else kx0 false w
  | _, 0, _, _, h => by omega
  | 0, n + 1, i, h1, _ => by
    have hi : i = p.1.length := by omega
    refine ⟨0, ?_⟩
    rw [Lp19_6]
    simp only [Lp19_6_step]
    rw [dF (by omega), hi]
    rfl
  | d + 1, n + 1, i, h1, h2 => by
    have e1 : IntKind.wrap .i64 ((i : Int) + 1) = ((i + 1 : Nat) : Int) := by rw [w64 (by omega) (by omega)]; omega
    obtain ⟨w, ih⟩ := lp19g m kx0 kx1 s hs z a y hlen d n (i + 1) (by omega) (by omega)
    have hcc : ((s.getD i 0).toNat : Int).toNat.toUInt8 = s.getD i 0 := by simp
    have head : Lp19_6 (m + 2) kx0 kx1 (bs s) z a y (srow p.1) p.1.length (n + 1) i = bif decide (ixI (s.getD i 0) (inL p i) < 0) then kx0 false i else Lp19_6 (m + 2) kx0 kx1 (bs s) z a y (srow p.1) p.1.length n ((i + 1 : Nat) : Int) := by
      rw [Lp19_6]
      simp only [Lp19_6_step, srow_len, bs_at, arr_at, bs_size, e1]
      rw [dT (by omega), dT (by omega), dT (by omega), show Int.toNat (i : Int) = i by omega, srow_fS p i (by omega)]
      refine Eq.trans (fn42 m (inL p i) ((s.getD i 0).toNat : Int) _) ?_
      rw [hcc]
    rw [head]
    by_cases c : s.getD i 0 ∈ inL p i
    · have := ixI_nn.2 c
      refine ⟨w, ?_⟩
      rw [dF (by omega), ih]
      show _ = if (decide (s.getD i 0 ∈ inL p i) && aR p s d (i + 1)) = true then _ else _
      rw [decide_eq_true c, Bool.true_and]
    · have : ¬ 0 ≤ ixI (s.getD i 0) (inL p i) := fun h => c (ixI_nn.1 h)
      refine ⟨i, ?_⟩
      rw [dT (by omega)]
      show _ = if (decide (s.getD i 0 ∈ inL p i) && aR p s d (i + 1)) = true then _ else _
      rw [decide_eq_false c, Bool.false_and, if_neg (by decide)]
theorem aR_all {p : Pat} {s : List UInt8} : ∀ (d i : Nat), aR p s d i = true ↔ ∀ j, i ≤ j → j < i + d → s.getD j 0 ∈ inL p j
  | 0, i => by simp only [aR, true_iff]; intro j h1 h2; omega
  | d + 1, i => by
    rw [aR, Bool.and_eq_true, decide_eq_true_eq, aR_all d (i + 1)]
    constructor
    · rintro ⟨h1, h2⟩ j h3 h4
      by_cases h : j = i
      · subst h; exact h1
      · exact h2 j (by omega) (by omega)
    · intro h
      exact ⟨h i (by omega) (by omega), fun j h3 h4 => h j (by omega) (by omega)⟩
theorem mAll_all {p : Pat} {s : List UInt8} : ∀ (d i : Nat), mAll p s d i = true ↔ ∀ j, i ≤ j → j < i + d → mAt p s j = true
  | 0, i => by simp only [mAll, true_iff]; intro j h1 h2; omega
  | d + 1, i => by
    rw [mAll, Bool.and_eq_true, mAll_all d (i + 1)]
    constructor
    · rintro ⟨h1, h2⟩ j h3 h4
      by_cases h : j = i
      · subst h; exact h1
      · exact h2 j (by omega) (by omega)
    · intro h
      exact ⟨h i (by omega) (by omega), fun j h3 h4 => h j (by omega) (by omega)⟩
def refM (p : Pat) (s : List UInt8) : Bool := if s.length < p.1.length then false else aR p s p.1.length 0 && (if s.length = p.1.length then decide (p.2 ≠ 46) else decide (p.2 ≠ 0))
theorem ref_mt {p : Pat} (hp : PatOk p) {s : List UInt8} (hs : ∀ b ∈ s, b ∈ D12) : refM p s = mtP p s := by
  unfold refM mtP
  by_cases c1 : s.length < p.1.length
  · rw [if_pos c1]
    have : Ek p s.length = false := by unfold Ek; rw [if_pos c1]
    rw [this, Bool.and_false]
  · rw [if_neg c1]
    have hD : ∀ j, j < s.length → ¬ j < p.1.length → s.getD j 0 ∈ inL p j := fun j hj hn => by
      unfold inL
      rw [if_neg hn]
      apply hs
      rw [List.getD_eq_getElem?_getD, List.getElem?_eq_getElem hj]
      exact List.getElem_mem hj
    have hall : mAll p s s.length 0 = (aR p s p.1.length 0 && (decide (s.length = p.1.length) || decide (p.2 ≠ 0))) := by
      rw [Bool.eq_iff_iff, Bool.and_eq_true, mAll_all, aR_all, Bool.or_eq_true, decide_eq_true_eq, decide_eq_true_eq]
      constructor
      · intro h
        refine ⟨fun j h1 h2 => ?_, ?_⟩
        · have := h j (by omega) (by omega)
          unfold mAt at this
          rw [Bool.and_eq_true, decide_eq_true_eq] at this
          exact this.1
        · by_cases c : s.length = p.1.length
          · exact .inl c
          · right
            have := h p.1.length (by omega) (by omega)
            unfold mAt at this
            rw [Bool.and_eq_true, Bool.or_eq_true, decide_eq_true_eq, decide_eq_true_eq, decide_eq_true_eq] at this
            exact this.2.resolve_left (by omega)
      · rintro ⟨h1, h2⟩ j h3 h4
        unfold mAt
        rw [Bool.and_eq_true, Bool.or_eq_true, decide_eq_true_eq, decide_eq_true_eq, decide_eq_true_eq]
        by_cases c : j < p.1.length
        · exact ⟨h1 j (by omega) (by omega), .inl c⟩
        · exact ⟨hD j (by omega) c, .inr (h2.resolve_left (by omega))⟩
    rw [hall, Bool.and_assoc]
    congr 1
    unfold Ek
    rw [if_neg c1]
    by_cases c2 : s.length = p.1.length
    · rw [if_pos c2, decide_eq_true c2, Bool.true_or, Bool.true_and]
      rcases hp.tail with ht | ht | ht
      · rw [ht, if_neg (by decide), if_neg (by decide)]; rfl
      · rw [ht, if_pos rfl, decide_eq_false (by omega : ¬ p.1.length < s.length)]; rfl
      · rw [ht, if_neg (by decide), if_pos rfl]; rfl
    · rw [if_neg c2, decide_eq_false c2, Bool.false_or]
      rcases hp.tail with ht | ht | ht
      · rw [ht, if_neg (by decide), if_neg (by decide)]; rfl
      · rw [ht, if_pos rfl, decide_eq_true (by omega : p.1.length < s.length)]; rfl
      · rw [ht, if_neg (by decide), if_pos rfl]; rfl
theorem fn19 (m : Nat) (hm1 : 1400 ≤ m) {l : List UInt8} {p : Pat} (hr : readP l = some p) (s : List UInt8) (hs : s.length ≤ 40) (hD : ∀ b ∈ s, b ∈ D12) {R : Type} (k : Bool → Option R) : Fn19 (m + 4) (bs l) (bs s) k = k (mtP p s) := by
  obtain ⟨hp, hl⟩ := read_ok hr
  rw [← ref_mt hp hD]
  simp only [Fn19]
  refine Eq.trans (fn41s (m + 1) (by omega) hr _) ?_
  simp only [srow_len, bs_size]
  have hpl := hp.len
  unfold refM
  by_cases c1 : s.length < p.1.length
  · rw [dT (by omega), if_pos c1]
  · rw [dF (by omega), if_neg c1]
    have hw : IntKind.wrap .i64 ((s.length : Int) - (p.1.length : Int)) = (s.length : Int) - p.1.length := w64 (by omega) (by omega)
    simp only [hw]
    obtain ⟨w, h⟩ := lp19g (m + 1) (p := p) (fun b755 i756 => k b755) (fun i757 => bif (s.length : Int) - (p.1.length : Int) == (0 : Int) then (bif (p.2 : Int) != (46 : Int) then (k true) else
      (bif decide ((s.length : Int) - (p.1.length : Int) > (0 : Int)) then (k ((p.2 : Int) != (0 : Int))) else
      (k false))) else
      (bif decide ((s.length : Int) - (p.1.length : Int) > (0 : Int)) then (k ((p.2 : Int) != (0 : Int))) else
      (k false))) s hs false (srow p.1) p.2 (by omega) p.1.length (m + 3) 0 (by omega) (by omega)
    refine Eq.trans h ?_
    cases hA : aR p s p.1.length 0 with
    | false => rfl
    | true =>
      rw [if_pos rfl, Bool.true_and]
      rcases hp.tail with ht | ht | ht
      · rw [ht]
        by_cases c2 : s.length = p.1.length
        · rw [eT (by omega), nT (by decide), if_pos c2]; rfl
        · rw [eF (by omega), dT (by omega), if_neg c2]; rfl
      · rw [ht]
        by_cases c2 : s.length = p.1.length
        · rw [eT (by omega), nF (by decide), dF (by omega), if_pos c2]; rfl
        · rw [eF (by omega), dT (by omega), if_neg c2]; rfl
      · rw [ht]
        by_cases c2 : s.length = p.1.length
        · rw [eT (by omega), nT (by decide), if_pos c2]; rfl
        · rw [eF (by omega), dT (by omega), if_neg c2]; rfl
end Go.Proofs.YtngjadgglbkjlaaDoor.Med
end
section
set_option linter.unusedVariables false
set_option linter.unusedSimpArgs false
set_option linter.unusedSectionVars false
namespace Go.Proofs.YtngjadgglbkjlaaDoor.Med
open Go Go.Abs Go.Proofs
set_option linter.unusedVariables false
set_option linter.unusedSimpArgs false
def D8 : Abs.Rows := [[F.lit (Value.string { data := #[(49 : UInt8)] })], [F.lit (Value.string { data := #[(50 : UInt8)] })], [F.lit (Value.string { data := #[(50 : UInt8)] })], [F.lit (Value.string { data := #[(51 : UInt8)] })], [F.lit (Value.string { data := #[(57 : UInt8)] })], [F.lit (Value.string { data := #[(48 : UInt8)] })], [F.lit (Value.string { data := #[(42 : UInt8)] })], [F.lit (Value.string { data := #[(35 : UInt8)] })]]
theorem lp44 (m : Nat) (q : Abs.Rows) : ∀ (d n : Nat) (N i j : Int) (s : List UInt8), i + d = N → 0 ≤ i → N ≤ 10 → d < n → 0 ≤ j → j + d ≤ 2000 → s.length ≤ 100 * i →
    ∃ (s' : List UInt8) (a b : Int), s'.length ≤ 1000 ∧ j ≤ b ∧ b ≤ j + d ∧ ∀ (R : Type) (kx0 : ByteArray → Int → Int → Option R), Lp44_3 (m + 3) kx0 N q n (bs s) i j = kx0 (bs s') a b
  | _, 0, _, _, _, _, _, _, _, h, _, _, _ => by omega
  | 0, n + 1, N, i, j, s, h1, h2, h3, h4, h5, h6, h7 => by
    refine ⟨s, i, j, by omega, by omega, by omega, fun R kx0 => ?_⟩
    rw [Lp44_3]
    simp only [Lp44_3_step]
    rw [dF (by omega)]
  | d + 1, n + 1, N, i, j, s, h1, h2, h3, h4, h5, h6, h7 => by
    obtain ⟨t, ht, hk⟩ := some_ok q D8 (by decide) (by kernel_rfl) (by decide) h5 (by omega)
    obtain ⟨s', a, b, g1, g2, g3, g4⟩ := lp44 m q d n N (i + 1) (j + 1) (s ++ t) (by omega) (by omega) h3 (by omega) (by omega) (by omega) (by rw [List.length_append]; omega)
    refine ⟨s', a, b, g1, by omega, by omega, fun R kx0 => ?_⟩
    rw [Lp44_3]
    simp only [Lp44_3_step]
    rw [dT (by omega)]
    refine Eq.trans (hk m R _) ?_
    rw [dT (by rw [bs_size, bs_size, sMax]; omega), bs_app, w64 (by omega) (by omega)]
    exact g4 R kx0
theorem fn44 (m : Nat) (hm : 20 ≤ m) (q : Abs.Rows) {i : Int} (h0 : 0 ≤ i) (h1 : i ≤ 1000) : ∃ (s : List UInt8) (i' : Int), s.length ≤ 1100 ∧ i ≤ i' ∧ i' ≤ i + 20 ∧ ∀ (R : Type) (k : ByteArray → Int → Option R), Fn44 (m + 4) q i k = k (bs s) i' := by
  have b1 := Int.emod_nonneg (nx q i) (show (6 - 1 + 1 : Int) ≠ 0 by omega)
  have b2 := Int.emod_lt_of_pos (nx q i) (show (0 : Int) < 6 - 1 + 1 by omega)
  obtain ⟨d, hd⟩ := Int.eq_ofNat_of_zero_le (show 0 ≤ 1 + nx q i % (6 - 1 + 1) by omega)
  obtain ⟨s', a, b, g1, g2, g3, g4⟩ := lp44 m q d (m + 3) (1 + nx q i % (6 - 1 + 1)) 0 (i + 1) [] (by omega) (by omega) (by omega) (by omega) (by omega) (by omega) (by simp)
  refine ⟨s', b, by omega, by omega, by omega, fun R k => ?_⟩
  simp only [Fn44]
  rw [gn72 m q h0 (by omega) (by omega) (by omega) (by omega)]
  exact g4 R _
theorem fn13 (m : Nat) (hm : 30 ≤ m) (q : Abs.Rows) {i : Int} (h0 : 0 ≤ i) (h1 : i ≤ 500) : ∃ (s : List UInt8) (i' : Int), s.length ≤ 2000 ∧ i ≤ i' ∧ i' ≤ i + 100 ∧ ∀ (R : Type) (k : ByteArray → Int → Option R), Fn13 (m + 5) q i k = k (bs s) i' := by
  by_cases hb : (nx q i % 25 == 0) = true
  · obtain ⟨t, ht, hk⟩ := some_ok q ([[F.lit (Value.string { data := #[] })], [F.lit (Value.string { data := #[(49 : UInt8), (50 : UInt8), (97 : UInt8)] })], [F.lit (Value.string { data := #[(49 : UInt8), (32 : UInt8), (50 : UInt8)] })], [F.lit (Value.string (repB { data := #[(49 : UInt8)] } (30 : Int)))], [F.lit (Value.string (repB { data := #[(49 : UInt8)] } (31 : Int)))], [F.lit (Value.string { data := #[(43 : UInt8), (49 : UInt8)] })]]) (by decide) (by kernel_rfl) (by decide) (show 0 ≤ i + 1 by omega) (by omega)
    refine ⟨t, i + 1 + 1, by omega, by omega, by omega, fun R k => ?_⟩
    simp only [Fn13]
    rw [gn34 (m + 1) q (by omega) (by omega) (by omega) (by omega), hb]
    have r1 : repOk { data := #[(49 : UInt8)] } (30 : Int) = true := by kernel_rfl
    have r2 : repOk { data := #[(49 : UInt8)] } (31 : Int) = true := by kernel_rfl
    simp only [r1, r2, cond_true]
    exact hk (m + 1) R _
  · obtain ⟨s', i', k1, k2, k3, k4⟩ := fn44 m (by omega) q (show 0 ≤ i + 1 by omega) (by omega)
    refine ⟨s', i', by omega, by omega, by omega, fun R k => ?_⟩
    simp only [Fn13]
    rw [gn34 (m + 1) q (by omega) (by omega) (by omega) (by omega), Bool.eq_false_iff.2 hb]
    exact k4 R _
def fE (l : List UInt8) : Int := match readP l with
  | none => faultP l
  | some _ => 0
theorem fE_none {l : List UInt8} (h : readP l = none) : fE l = faultP l := by unfold fE; rw [h]
theorem fE_some {l : List UInt8} {p : Pat} (h : readP l = some p) : fE l = 0 := by unfold fE; rw [h]
theorem fault_nz (l : List UInt8) : faultP l ≠ 0 := by unfold faultP; split <;> decide
theorem fn9e (m : Nat) (hm : 1300 ≤ m) (l : List UInt8) {R : Type} (k : Int → Option R) : Fn9 (m + 3) (bs l) k = k (fE l) := by
  rw [fn9 m hm l k]
  unfold fE
  cases readP l <;> rfl
theorem fn18 (m : Nat) (hm : 200 ≤ m) (l : List UInt8) {R : Type} (k : Int → Option R) : Fn18 (m + 43) (bs l) k = k (fE l) := by
  simp only [Fn18]
  refine Eq.trans (fn39 m hm l _) ?_
  unfold fE
  cases readP l <;> rfl
theorem fn4a (M : Nat) (hM : 2000 ≤ M) (r : Abs.Rows) {R : Type} (k : Bool → Option R) : Fn4 (M + 60) r k = k true := by
  obtain ⟨s, i, g1, g2, g3, g4⟩ := fn6 (M + 54) (by omega) r (i := 0) (by omega) (by omega)
  obtain ⟨t, j, g5, g6, g7, g8⟩ := fn6 (M + 54) (by omega) r (i := i) (by omega) (by omega)
  obtain ⟨d, j2, g9, g10, g11, g12⟩ := fn13 (M + 54) (by omega) r (i := j) (by omega) (by omega)
  simp only [Fn4]
  rw [g4, g8, g12]
  refine Eq.trans (fn14 (M + 16) (by omega) s d _) ?_
  have h12 := fun (k : Bool → Option R) => fn12 (M + 15) (by omega) k
  have nz := fault_nz
  cases h1 : readP s with
  | none =>
    have q1 := fE_none h1
    simp only
    refine Eq.trans (fn15 (M + 16) (by omega) s t _) ?_
    rw [h1]
    simp only
    refine Eq.trans (fn9e (M + 56) (by omega) s _) ?_
    refine Eq.trans (fn9e (M + 56) (by omega) s _) ?_
    refine Eq.trans (fn9e (M + 56) (by omega) t _) ?_
    refine Eq.trans (fn10 (M + 54) _ _ _) ?_
    refine Eq.trans (fn16 (M + 55) (by omega) d _) ?_
    refine Eq.trans (fn10 (M + 54) _ _ _) ?_
    rw [q1, if_pos (nz s), if_pos (nz s), eF (nz s)]
    simp only [Jn4_9]
    refine Eq.trans (fn18 (M + 16) (by omega) s _) ?_
    rw [q1, eT rfl, eT rfl, eF (nz s)]
    refine Eq.trans (bT rfl) ?_
    rw [eT rfl, eT rfl]
    exact fn12 (M + 15) (by omega) k
  | some p =>
    have q1 := fE_some h1
    simp only
    cases h2 : readP t with
    | none =>
      have q2 := fE_none h2
      by_cases c : dOk d = true
      · obtain ⟨d1, d2⟩ := dOk_some c
        rw [if_pos c]
        refine Eq.trans (fn15 (M + 16) (by omega) s t _) ?_
        rw [h1, h2]
        simp only
        refine Eq.trans (fn9e (M + 56) (by omega) s _) ?_
        refine Eq.trans (fn9e (M + 56) (by omega) s _) ?_
        refine Eq.trans (fn9e (M + 56) (by omega) t _) ?_
        refine Eq.trans (fn10 (M + 54) _ _ _) ?_
        refine Eq.trans (fn16 (M + 55) (by omega) d _) ?_
        refine Eq.trans (fn10 (M + 54) _ _ _) ?_
        rw [q1, q2, if_pos c, if_neg (by decide), if_neg (by decide), eF (nz t)]
        simp only [Jn4_9]
        refine Eq.trans (fn18 (M + 16) (by omega) s _) ?_
        rw [q1, eT rfl, eT rfl, eT rfl]
        refine Eq.trans (fn19 (M + 55) (by omega) h1 d (by omega) d1 _) ?_
        rw [bT (beq_self_eq_true _), eT rfl, eT rfl]
        exact fn12 (M + 15) (by omega) k
      · rw [if_neg c]
        refine Eq.trans (fn15 (M + 16) (by omega) s t _) ?_
        rw [h1, h2]
        simp only
        refine Eq.trans (fn9e (M + 56) (by omega) s _) ?_
        refine Eq.trans (fn9e (M + 56) (by omega) s _) ?_
        refine Eq.trans (fn9e (M + 56) (by omega) t _) ?_
        refine Eq.trans (fn10 (M + 54) _ _ _) ?_
        refine Eq.trans (fn16 (M + 55) (by omega) d _) ?_
        refine Eq.trans (fn10 (M + 54) _ _ _) ?_
        rw [q1, q2, if_neg c, if_neg (by decide), if_neg (by decide), eF (nz t)]
        simp only [Jn4_9]
        refine Eq.trans (fn18 (M + 16) (by omega) s _) ?_
        rw [q1, eT rfl, eT rfl, eF (by decide)]
        refine Eq.trans (bT rfl) ?_
        rw [eT rfl, eT rfl]
        exact fn12 (M + 15) (by omega) k
    | some p2 =>
      have q2 := fE_some h2
      by_cases c : dOk d = true
      · obtain ⟨d1, d2⟩ := dOk_some c
        rw [if_pos c]
        refine Eq.trans (fn15 (M + 16) (by omega) s t _) ?_
        rw [h1, h2]
        simp only
        refine Eq.trans (fn9e (M + 56) (by omega) s _) ?_
        refine Eq.trans (fn9e (M + 56) (by omega) s _) ?_
        refine Eq.trans (fn9e (M + 56) (by omega) t _) ?_
        refine Eq.trans (fn10 (M + 54) _ _ _) ?_
        refine Eq.trans (fn16 (M + 55) (by omega) d _) ?_
        refine Eq.trans (fn10 (M + 54) _ _ _) ?_
        rw [q1, q2, if_pos c, if_neg (by decide), eT rfl]
        refine Eq.trans (fn17 (M + 53) (by omega) h1 h2 _) ?_
        simp only [Jn4_9]
        refine Eq.trans (fn18 (M + 16) (by omega) s _) ?_
        rw [q1, eT rfl, eT rfl, eT rfl]
        refine Eq.trans (fn19 (M + 55) (by omega) h1 d (by omega) d1 _) ?_
        rw [bT (beq_self_eq_true _), eT rfl, eT rfl]
        exact fn12 (M + 15) (by omega) k
      · rw [if_neg c]
        refine Eq.trans (fn15 (M + 16) (by omega) s t _) ?_
        rw [h1, h2]
        simp only
        refine Eq.trans (fn9e (M + 56) (by omega) s _) ?_
        refine Eq.trans (fn9e (M + 56) (by omega) s _) ?_
        refine Eq.trans (fn9e (M + 56) (by omega) t _) ?_
        refine Eq.trans (fn10 (M + 54) _ _ _) ?_
        refine Eq.trans (fn16 (M + 55) (by omega) d _) ?_
        refine Eq.trans (fn10 (M + 54) _ _ _) ?_
        rw [q1, q2, if_neg c, if_neg (by decide), if_neg (by decide), eT rfl]
        refine Eq.trans (fn17 (M + 53) (by omega) h1 h2 _) ?_
        simp only [Jn4_9]
        refine Eq.trans (fn18 (M + 16) (by omega) s _) ?_
        rw [q1, eT rfl, eT rfl, eF (by decide)]
        refine Eq.trans (bT rfl) ?_
        rw [eT rfl, eT rfl]
        exact fn12 (M + 15) (by omega) k
theorem fn4 (m : Nat) (q : Abs.Rows) {R : Type} (k : Bool → Option R) : Fn4 (m + 2000 + 60) q k = k true := fn4a (m + 2000) (by omega) q k
end Go.Proofs.YtngjadgglbkjlaaDoor.Med
end
section
set_option linter.unusedVariables false
set_option linter.unusedSimpArgs false
set_option linter.unusedSectionVars false
namespace Go.Proofs.YtngjadgglbkjlaaDoor.Med
open Go Go.Abs Go.Proofs Go.RowKit
def tabZ : List Int := [0, 1, 28, 2, 29, 14, 24, 3, 30, 22, 20, 15, 25, 17, 4, 8, 31, 27, 13, 23, 21, 19, 16, 7, 26, 12, 18, 6, 11, 5, 10, 9]
theorem fn4_ok (rows : Abs.Rows) (m : Nat) (h : ∀ (R : Type) (k : Bool → Option R), Fn4 m rows k = k true) : FnOk Tryd.prog 4 [.f (.lst [.int .i64] rows)] (vBool true) [.undef] := by
  refine law_of (okT50 m) fun R k => ?_
  exact h R _
theorem glob4 {w : World} (hg : ∀ i, i < tabZ.length → w.cell? ⟨0, i, none⟩ = some (.int .u8 (tabZ.getD i 0))) : GlobOk fun b => w.heap[b]? := fun g ts rows e => by
  match g, e with
  | 0, e =>
    cases e
    exact glob_ints (by decide) hg
  | g + 1, e => cases e
theorem walk4 (w : World) (a : Option Addr) (len cap : Nat) (zs : List Int) (h : IsInts .i64 w a len cap zs) (hg : ∀ i, i < tabZ.length → w.cell? ⟨0, i, none⟩ = some (.int .u8 (tabZ.getD i 0))) :
    Calls Tryd.prog 4 #[.slice a len cap] w fun e w' => e = .returned (.bool true) ∧ Below w.heap.size w w' := by
  obtain ⟨body, hb⟩ : ∃ b, Tryd.f4.body = some b := ⟨_, rfl⟩
  exact law_calls Tryd.func4 (by kernel_rfl) hb h (glob4 hg) (fn4_ok _ (0 + 2000 + 60) fun R k => fn4 0 _ k)
end Go.Proofs.YtngjadgglbkjlaaDoor.Med
end
