/- A part of the proofs of the seat YtjhfbmhblpjigaaGreatDoor: no statement of the seat stands here. -/
import Derived.Lib.Strings
import Derived.Lib.Bytealg
import Derived.Lib.AtoiBound
import Derived.Lib.ItoaLen
import Derived.Test.YtjhfbmhblpjigaaGreatDoorMedTyped
import Derived.Test.YtjhfbmhblpjigaaGreatDoorAbsD
section
set_option linter.unusedVariables false
set_option linter.unusedSimpArgs false
set_option linter.unusedSectionVars false
namespace Go.Proofs.YtjhfbmhblpjigaaGreatDoor.Med
open Go Go.Abs Go.Proofs
set_option linter.unusedVariables false
set_option linter.unusedSimpArgs false
section
variable {α : Type} {a b : α}
theorem dT {p : Prop} [Decidable p] (h : p) : (bif decide p then a else b) = a := by rw [decide_eq_true h]; rfl
theorem dF {p : Prop} [Decidable p] (h : ¬p) : (bif decide p then a else b) = b := by rw [decide_eq_false h]; rfl
theorem eT {x y : Int} (h : x = y) : (bif x == y then a else b) = a := by simp [h]
theorem nT {x y : Int} (h : ¬ x = y) : (bif x != y then a else b) = a := by rw [bne_iff_ne.2 h]; rfl
theorem nF {x y : Int} (h : x = y) : (bif x != y then a else b) = b := by subst h; rw [bne_self_eq_false]; rfl
theorem eF {x y : Int} (h : ¬ x = y) : (bif x == y then a else b) = b := by rw [beq_false_of_ne h]; rfl
theorem andC {p q : Bool} : (bif p && q then a else b) = bif p then (bif q then a else b) else b := by cases p <;> rfl
theorem orC {p q : Bool} : (bif p || q then a else b) = bif p then a else (bif q then a else b) := by cases p <;> rfl
theorem notC {p : Bool} : (bif !p then a else b) = bif p then b else a := by cases p <;> rfl
theorem bT {c : Bool} (h : c = true) : (bif c then a else b) = a := by subst h; rfl
theorem bF {c : Bool} (h : c = false) : (bif c then a else b) = b := by subst h; rfl
end
theorem w64 {x : Int} (h0 : -9223372036854775808 ≤ x) (h1 : x < 9223372036854775808) : IntKind.wrap .i64 x = x := by
 rw [IntKind.wrap_i64]; omega
theorem w64b (x : Int) : -9223372036854775808 ≤ IntKind.wrap .i64 x ∧ IntKind.wrap .i64 x < 9223372036854775808 := by
 rw [IntKind.wrap_i64]; omega
theorem w8 {x : Int} (h0 : 0 ≤ x) (h1 : x < 256) : IntKind.wrap .u8 x = x := by
 rw [IntKind.wrap_u8]; omega
theorem w8b (x : Int) : 0 ≤ IntKind.wrap .u8 x ∧ IntKind.wrap .u8 x < 256 := by
 rw [IntKind.wrap_u8]; omega
theorem rM : rowMax = 1073741824 := rfl
theorem tm_pos {x y : Int} (h : 0 ≤ x) : Int.tmod x y = x % y := Int.tmod_eq_emod_of_nonneg h
theorem td_pos {x y : Int} (h : 0 ≤ x) : Int.tdiv x y = x / y := Int.tdiv_eq_ediv_of_nonneg h
/-- - -/
theorem stR1 (t : LT) (r : Abs.Rows) (i : Nat) (x : F) : stR [t] r i 0 [x] = r.set i [x] := rfl
theorem fI_set {r : Abs.Rows} {i : Nat} {k : IntKind} {n : Int} (h : i < r.length) : fI (r.set i [F.lit (.int k n)]) i 0 = n := by
 simp [fI, dropF, Abs.rowAt, List.getD_eq_getElem?_getD, h, F.toInt]
theorem fI_set_ne {r : Abs.Rows} {i j : Nat} {x : List F} (h : i ≠ j) : fI (r.set i x) j 0 = fI r j 0 := by
 simp [fI, dropF, Abs.rowAt, List.getD_eq_getElem?_getD, List.getElem?_set_ne h]
theorem fI_app {r : Abs.Rows} {k : IntKind} {n : Int} : fI (r ++ [[F.lit (.int k n)]]) r.length 0 = n := by
 simp [fI, dropF, Abs.rowAt, List.getD_eq_getElem?_getD, F.toInt]
theorem fI_app_lt {r s : Abs.Rows} {i : Nat} (h : i < r.length) : fI (r ++ s) i 0 = fI r i 0 := by
 simp [fI, dropF, Abs.rowAt, List.getD_eq_getElem?_getD, List.getElem?_append_left h]
/-! lists that are made place by place -/
def mk (t : IntKind) (g : Nat → Int) (n : Nat) : Abs.Rows := (List.range n).map fun j => [F.lit (.int t (g j))]
theorem mk_len (t : IntKind) (g : Nat → Int) (n : Nat) : (mk t g n).length = n := by simp [mk]
theorem mk_succ (t : IntKind) (g : Nat → Int) (n : Nat) : mk t g (n + 1) = mk t g n ++ [[F.lit (.int t (g n))]] := by simp [mk, List.range_succ]
theorem mk_set (t : IntKind) (g : Nat → Int) (n d : Nat) (z : List F) : (mk t g n ++ List.replicate (d + 1) z).set n [F.lit (.int t (g n))] = mk t g (n + 1) ++ List.replicate d z := by
 rw [mk_succ, List.set_append_right _ _ (by simp [mk_len]), mk_len, Nat.sub_self, List.replicate_succ, List.set_cons_zero]
 simp
theorem mk_fI (t : IntKind) (g : Nat → Int) {n i : Nat} (h : i < n) : fI (mk t g n) i 0 = g i := by
 simp [fI, dropF, Abs.rowAt, List.getD_eq_getElem?_getD, mk, h, F.toInt]
def Byt (x : Int) : Prop := 0 ≤ x ∧ x < 256
end Go.Proofs.YtjhfbmhblpjigaaGreatDoor.Med
end
section
set_option linter.unusedVariables false
set_option linter.unusedSimpArgs false
set_option linter.unusedSectionVars false
namespace Go.Proofs.YtjhfbmhblpjigaaGreatDoor.Med
open Go Go.Abs Go.Proofs
set_option linter.unusedVariables false
set_option linter.unusedSimpArgs false
/-! strings as lists of bytes -/
abbrev bs (l : List UInt8) : ByteArray := ⟨l.toArray⟩
theorem bs_of (s : ByteArray) : s = bs s.data.toList := (Lib.mk_data s).symm
theorem bs_size (l : List UInt8) : (bs l).size = l.length := by simp [bs, ByteArray.size]
theorem bs_toList (l : List UInt8) : (bs l).toList = l := by rw [Lib.toList_data]
theorem bs_at (l : List UInt8) (i : Nat) : Array.getD (bs l).data i (0 : UInt8) = l.getD i 0 := by
 simp [bs, Array.getD_eq_getD_getElem?, List.getD_eq_getElem?_getD]
theorem arr_at (l : List UInt8) (i : Nat) : Array.getD l.toArray i (0 : UInt8) = l.getD i 0 := bs_at l i
theorem bs_ext (l : List UInt8) (a b : Nat) : (bs l).extract a b = bs ((l.drop a).take (b - a)) := Lib.extract_eq _ _ _
theorem bs_drop (l : List UInt8) (a : Nat) : (bs l).extract a (bs l).size = bs (l.drop a) := by
 rw [bs_ext, bs_size, List.take_of_length_le (by simp)]
theorem bs_take (l : List UInt8) (b : Nat) : (bs l).extract 0 b = bs (l.take b) := by rw [bs_ext]; simp
theorem bs_app (a b : List UInt8) : bs a ++ bs b = bs (a ++ b) := by
 apply ByteArray.ext
 simp [bs]
/-- - -/
def ixB (b : UInt8) : List UInt8 → Option Nat
 | [] => none
 | x :: l => if x = b then some 0 else (ixB b l).map (· + 1)
theorem find_ix (b : UInt8) : ∀ (l : List UInt8), (List.range l.length).find? (fun i => l.getD i 0 == b) = ixB b l
 | [] => rfl
 | x :: l => by
  rw [List.length_cons, List.range_succ_eq_map, List.find?_cons]
  simp only [List.getD_cons_zero, ixB]
  by_cases h : x = b
  ·simp [h]
  ·have h' : (x == b) = false := by simpa using h
   rw [h', if_neg h, List.find?_map]
   have := find_ix b l
   have e : ((fun i => (x :: l).getD i 0 == b) ∘ Nat.succ) = fun i => l.getD i 0 == b := by funext i; simp
   rw [e, this]
theorem bs_get (l : List UInt8) (i : Nat) : (bs l)[i]! = l.getD i 0 := by
 by_cases h : i < l.length
 ·have h' : i < (bs l).size := by rw [bs_size]; exact h
  rw [getElem!_pos (bs l) i h', List.getD_eq_getElem?_getD, List.getElem?_eq_getElem h]
  show (bs l).data[i] = _
  simp [bs]
 ·have h' : ¬ i < (bs l).size := by rw [bs_size]; exact h
  rw [getElem!_neg (bs l) i h', List.getD_eq_getElem?_getD, List.getElem?_eq_none (by omega)]
  rfl
def ixI (b : UInt8) (l : List UInt8) : Int := match ixB b l with
 | some i => i
 | none => -1
theorem idx_bs (l : List UInt8) (c : Int) : idxByte (bs l) c = ixI c.toNat.toUInt8 l := by
 unfold idxByte ixI
 have : (fun i => (bs l)[i]! == c.toNat.toUInt8) = fun i => l.getD i 0 == c.toNat.toUInt8 := by funext i; rw [bs_get]
 rw [this, bs_size, find_ix]
 cases ixB c.toNat.toUInt8 l <;> rfl
theorem ixB_lt {b : UInt8} : ∀ {l : List UInt8} {i : Nat}, ixB b l = some i → i < l.length ∧ l.getD i 0 = b ∧ b ∉ l.take i
 | [], _, h => by cases h
 | x :: l, i, h => by
  simp only [ixB] at h
  split at h
  ·cases h; rename_i hx; exact ⟨by simp, by simpa using hx, by simp⟩
  ·rename_i hx
   simp only [Option.map_eq_some_iff] at h
   obtain ⟨j, hj, rfl⟩ := h
   obtain ⟨h1, h2, h3⟩ := ixB_lt hj
   refine ⟨by simp; omega, by simpa using h2, ?_⟩
   simp only [List.take_succ_cons, List.mem_cons, not_or]
   exact ⟨fun e => hx e.symm, h3⟩
theorem ixB_none {b : UInt8} : ∀ {l : List UInt8}, ixB b l = none ↔ b ∉ l
 | [] => by simp [ixB]
 | x :: l => by
  simp only [ixB]
  split
  ·rename_i h; simp [h]
  ·rename_i h
   simp only [Option.map_eq_none_iff, List.mem_cons, not_or]
   rw [ixB_none]
   exact ⟨fun e => ⟨fun e2 => h e2.symm, e⟩, fun e => e.2⟩
theorem ixI_nn {b : UInt8} {l : List UInt8} : 0 ≤ ixI b l ↔ b ∈ l := by
 unfold ixI
 cases h : ixB b l with
 | none => simp; exact ixB_none.1 h
 | some i =>
  obtain ⟨h1, h2, _⟩ := ixB_lt h
  simp only [Int.natCast_nonneg, true_iff]
  rw [← h2, List.getD_eq_getElem?_getD, List.getElem?_eq_getElem h1]
  exact List.getElem_mem h1
theorem lT {x y : List UInt8} (h : x = y) {α : Type} {a b : α} : (bif x == y then a else b) = a := by simp [h]
theorem lF {x y : List UInt8} (h : ¬ x = y) {α : Type} {a b : α} : (bif x == y then a else b) = b := by
 rw [beq_false_of_ne h]; rfl
theorem lnT {x y : List UInt8} (h : ¬ x = y) {α : Type} {a b : α} : (bif !(x == y) then a else b) = a := by
 rw [beq_false_of_ne h]; rfl
theorem lnF {x y : List UInt8} (h : x = y) {α : Type} {a b : α} : (bif !(x == y) then a else b) = b := by simp [h]
end Go.Proofs.YtjhfbmhblpjigaaGreatDoor.Med
end
section
set_option linter.unusedVariables false
set_option linter.unusedSimpArgs false
set_option linter.unusedSectionVars false
namespace Go.Proofs.YtjhfbmhblpjigaaGreatDoor.Med
open Go Go.Abs Go.Proofs
set_option linter.unusedVariables false
set_option linter.unusedSimpArgs false
/-! the order of strings -/
theorem bytesLess_dec : ∀ (x y : List UInt8), Op.bytesLess x y = decide (x < y)
 | [], [] => by simp [Op.bytesLess]
 | _ :: _, [] => by simp [Op.bytesLess]
 | [], _ :: _ => by simp [Op.bytesLess]
 | a :: x, b :: y => by
  rw [Op.bytesLess, bytesLess_dec x y]
  simp only [List.cons_lt_cons_iff]
  by_cases h1 : a < b <;> by_cases h2 : a = b <;> by_cases h3 : x < y <;> simp [h1, h2, h3]
def cmS (a b : List UInt8) : Int := Lib.compareBytes a b
theorem cmpB_bs (a b : List UInt8) : cmpB (bs a) (bs b) = cmS a b := rfl
theorem u8_irr (a : UInt8) : ¬ a < a := UInt8.lt_irrefl a
theorem cmS_lt : ∀ (a b : List UInt8), cmS a b < 0 ↔ a < b
 | [], [] => by simp [cmS, Lib.compareBytes]
 | _ :: _, [] => by simp [cmS, Lib.compareBytes]
 | [], _ :: _ => by simp [cmS, Lib.compareBytes]
 | a :: x, b :: y => by
  have ih := cmS_lt x y
  unfold cmS at ih ⊢
  rw [Lib.compareBytes, List.cons_lt_cons_iff]
  by_cases h1 : a < b
  ·simp [h1]
  ·by_cases h2 : b < a
   ·have h3 : a ≠ b := fun e => u8_irr b (e ▸ h2)
    simp [h1, h2, h3]
   ·have h3 : a = b := UInt8.le_antisymm (UInt8.not_lt.1 h2) (UInt8.not_lt.1 h1)
    simp [h1, h2, h3, ih]
theorem cmS_eq : ∀ (a b : List UInt8), cmS a b = 0 ↔ a = b
 | [], [] => by simp [cmS, Lib.compareBytes]
 | _ :: _, [] => by simp [cmS, Lib.compareBytes]
 | [], _ :: _ => by simp [cmS, Lib.compareBytes]
 | a :: x, b :: y => by
  have ih := cmS_eq x y
  unfold cmS at ih ⊢
  rw [Lib.compareBytes, List.cons.injEq]
  by_cases h1 : a < b
  ·have h3 : a ≠ b := fun e => u8_irr b (e ▸ h1)
   simp [h1, h3]
  ·by_cases h2 : b < a
   ·have h3 : a ≠ b := fun e => u8_irr b (e ▸ h2)
    simp [h1, h2, h3]
   ·have h3 : a = b := UInt8.le_antisymm (UInt8.not_lt.1 h2) (UInt8.not_lt.1 h1)
    simp [h1, h2, h3, ih]
theorem lt_irr (a : List UInt8) : ¬ a < a := List.lt_irrefl a
theorem lt_tr {a b c : List UInt8} (h : a < b) (h2 : b < c) : a < c := List.lt_trans h h2
theorem lt_tri (a b : List UInt8) : a < b ∨ a = b ∨ b < a := by
 rcases Int.lt_trichotomy (cmS a b) 0 with h | h | h
 ·exact .inl ((cmS_lt a b).1 h)
 ·exact .inr (.inl ((cmS_eq a b).1 h))
 ·by_cases c : b < a
  ·exact .inr (.inr c)
  ·exact .inl (by
    have := List.not_lt.1 c
    rcases List.le_iff_lt_or_eq.1 this with h1 | h1
    ·exact h1
    ·subst h1; rw [(cmS_eq a a).2 rfl] at h; omega)
/-! the first fault of a loop -/
def fstE (f : Nat → Int) : Nat → Nat → Int
 | 0, _ => 0
 | d + 1, i => if f i = 0 then fstE f d (i + 1) else f i
theorem fstE_z {f : Nat → Int} : ∀ {d i : Nat}, fstE f d i = 0 → ∀ j, i ≤ j → j < i + d → f j = 0
 | 0, i, _, j, h1, h2 => by omega
 | d + 1, i, h, j, h1, h2 => by
  rw [fstE] at h
  split at h
  ·rename_i c
   by_cases e : j = i
   ·subst e; exact c
   ·exact fstE_z h j (by omega) (by omega)
  ·rename_i c; exact (c h).elim
end Go.Proofs.YtjhfbmhblpjigaaGreatDoor.Med
end
section
set_option linter.unusedVariables false
set_option linter.unusedSimpArgs false
set_option linter.unusedSectionVars false
namespace Go.Proofs.YtjhfbmhblpjigaaGreatDoor.Med
open Go Go.Abs Go.Proofs
set_option linter.unusedVariables false
set_option linter.unusedSimpArgs false
theorem gn61 (m : Nat) {x y : Int} (hy : 1 ≤ y) (hy2 : y ≤ 1099511627776) {R : Type} {k : Int → Option R} : Fn61 (m + 1) x y k = k (x % y) := by
 have h2 : Int.tmod x y = x % y ∨ (Int.tmod x y + y = x % y ∧ Int.tmod x y < 0 ∧ -y < Int.tmod x y) := by
  by_cases h : 0 ≤ x
  ·exact .inl (Int.tmod_eq_emod_of_nonneg h)
  ·have h3 := Int.tmod_eq_emod (a := x) (b := y)
   have h4 := Int.emod_nonneg x (show y ≠ 0 by omega)
   have h5 := Int.emod_lt_of_pos x (show 0 < y by omega)
   by_cases hd : y ∣ x
   ·left; rw [h3]; simp [hd]
   ·right
    have h6 : Int.tmod x y = x % y - y := by
     rw [h3, if_neg (by simp; exact ⟨by omega, hd⟩)]
     omega
    have h7 : x % y ≠ 0 := fun h => hd (Int.dvd_of_emod_eq_zero h)
    omega
 have h4 := Int.emod_nonneg x (show y ≠ 0 by omega)
 simp only [Fn61]
 rw [dF (by omega), dT (by omega)]
 rcases h2 with h2 | ⟨h2, h3, h5⟩
 ·rw [dF (by omega), h2]
 ·rw [dT h3, w64 (by omega) (by omega), h2]
def nx (r : Abs.Rows) (i : Int) : Int := if (r.length : Int) = 0 then IntKind.wrap .i64 ((i + 1) * 7919) else
 IntKind.wrap IntKind.i64 (fI r (Int.toNat (Int.tmod i (r.length : Int))) 0 % 1073741824 + IntKind.wrap IntKind.i64 (IntKind.wrap IntKind.i64 (Int.tdiv i (r.length : Int)) * IntKind.wrap IntKind.i64 (7919 + Int.tmod i (r.length : Int))))
theorem gn49 (m : Nat) (r : Abs.Rows) {i n : Int} (h0 : 0 ≤ i) (h1 : i ≤ 1099511627776) (hn : 1 ≤ n) (hn2 : n ≤ 1099511627776) {R : Type} {k : Int → Int → Option R} :
  Fn49 (m + 2) r i n k = k (nx r i % n) (i + 1) := by
 have e1 : IntKind.wrap .i64 (i + 1) = i + 1 := w64 (by omega) (by omega)
 have e2 : IntKind.wrap .i64 (i + 1 - 1) = i := by rw [show i + 1 - 1 = i by omega]; exact w64 (by omega) (by omega)
 by_cases hr : (r.length : Int) = 0
 ·simp only [Fn49, e1, nx, hr, if_true]
  rw [eT rfl, gn61 m hn hn2]
 ·have hm1 : 0 ≤ Int.tmod i (r.length : Int) := Int.tmod_nonneg _ h0
  have hm2 : Int.tmod i (r.length : Int) < (r.length : Int) := Int.tmod_lt_of_pos _ (by omega)
  simp only [Fn49, e1, e2, nx, if_neg hr]
  rw [eF hr, dT hr, dT hr, dT ⟨hm1, hm2⟩, gn61 m (by omega) (by omega), gn61 m hn hn2]
  try rfl
theorem gn19 (m : Nat) (r : Abs.Rows) {i n : Int} (h0 : 0 ≤ i) (h1 : i ≤ 1099511627776) (hn : 1 ≤ n) (hn2 : n ≤ 1099511627776) {R : Type} {k : Bool → Int → Option R} :
  Fn19 (m + 3) r i n k = k (nx r i % n == 0) (i + 1) := by
 simp only [Fn19]
 rw [gn49 m r h0 h1 hn hn2]
/-- - -/
def pk (rows q : Abs.Rows) (i : Int) : Int := fI rows (nx q i % (rows.length : Int)).toNat 0
theorem gn22 (m : Nat) (r : Abs.Rows) {i : Int} (rows : Abs.Rows) (h0 : 0 ≤ i) (h1 : i ≤ 1099511627776) (hn : 1 ≤ (rows.length : Int)) (hn2 : (rows.length : Int) ≤ 1099511627776) {R : Type} {k : Int → Int → Option R} :
  Fn22 (m + 3) r i rows k = k (pk rows r i) (i + 1) := by
 have h4 := Int.emod_nonneg (nx r i) (show (rows.length : Int) ≠ 0 by omega)
 have h5 := Int.emod_lt_of_pos (nx r i) (show 0 < (rows.length : Int) by omega)
 simp only [Fn22]
 rw [gn49 m r h0 h1 hn hn2, dT ⟨h4, h5⟩]
 rfl
/-- - -/
theorem pk_all {P : Int → Prop} (rows q : Abs.Rows) (i : Int) (h0 : 0 < rows.length) (h : ∀ j, j < rows.length → P (fI rows j 0)) : P (pk rows q i) := by
 have h4 := Int.emod_nonneg (nx q i) (show (rows.length : Int) ≠ 0 by omega)
 have h5 := Int.emod_lt_of_pos (nx q i) (show 0 < (rows.length : Int) by omega)
 exact h _ (by omega)
theorem gn50 (m : Nat) (r : Abs.Rows) {i lo hi : Int} (h0 : 0 ≤ i) (h1 : i ≤ 1099511627776) (hl : -500000000000 ≤ lo) (hh : hi ≤ 500000000000) (hlh : lo ≤ hi) {R : Type} {k : Int → Int → Option R} :
  Fn50 (m + 3) r i lo hi k = k (lo + nx r i % (hi - lo + 1)) (i + 1) := by
 have h4 := Int.emod_nonneg (nx r i) (show hi - lo + 1 ≠ 0 by omega)
 have h5 := Int.emod_lt_of_pos (nx r i) (show 0 < hi - lo + 1 by omega)
 simp only [Fn50]
 rw [dF (by omega), w64 (x := hi - lo) (by omega) (by omega), w64 (x := hi - lo + 1) (by omega) (by omega), gn49 m r h0 h1 (by omega) (by omega), w64 (by omega) (by omega)]
/-- - -/
def pkS (rows q : Abs.Rows) (i : Int) : ByteArray := fS rows (nx q i % (rows.length : Int)).toNat 0
theorem gn21 (m : Nat) (r : Abs.Rows) {i : Int} (rows : Abs.Rows) (h0 : 0 ≤ i) (h1 : i ≤ 1099511627776) (hn : 1 ≤ (rows.length : Int)) (hn2 : (rows.length : Int) ≤ 1099511627776) {R : Type} {k : ByteArray → Int → Option R} :
  Fn21 (m + 3) r i rows k = k (pkS rows r i) (i + 1) := by
 have h4 := Int.emod_nonneg (nx r i) (show (rows.length : Int) ≠ 0 by omega)
 have h5 := Int.emod_lt_of_pos (nx r i) (show 0 < (rows.length : Int) by omega)
 simp only [Fn21]
 rw [gn49 m r h0 h1 hn hn2, dT ⟨h4, h5⟩]
 rfl
theorem pkS_all {P : ByteArray → Prop} (rows q : Abs.Rows) (i : Int) (h0 : 0 < rows.length) (h : ∀ j, j < rows.length → P (fS rows j 0)) : P (pkS rows q i) := by
 have h4 := Int.emod_nonneg (nx q i) (show (rows.length : Int) ≠ 0 by omega)
 have h5 := Int.emod_lt_of_pos (nx q i) (show 0 < (rows.length : Int) by omega)
 exact h _ (by omega)
/-- - -/
theorem gn20 (m : Nat) (r : Abs.Rows) {i lo hi : Int} (h0 : 0 ≤ i) (h1 : i ≤ 1000000) (hl : -500000000 ≤ lo) (hh : hi ≤ 500000000) (hlh : lo ≤ hi) :
  ∃ (v i' : Int), i ≤ i' ∧ i' ≤ i + 2 ∧ ∀ (R : Type) (k : Int → Int → Option R), Fn20 (m + 4) r i lo hi k = k v i' := by
 by_cases c : nx r i % 12 = 0
 ·apply Exists.intro
  refine ⟨i + 1 + 1, by omega, by omega, fun R k => ?_⟩
  simp only [Fn20]
  rw [gn19 m r h0 (by omega) (by omega) (by omega), eT c, gn22 m r _ (by omega) (by omega) (by simp) (by simp)]
 ·apply Exists.intro
  refine ⟨i + 1 + 1, by omega, by omega, fun R k => ?_⟩
  simp only [Fn20]
  rw [gn19 m r h0 (by omega) (by omega) (by omega), eF c, gn50 m r (by omega) (by omega) (by omega) (by omega) hlh]
end Go.Proofs.YtjhfbmhblpjigaaGreatDoor.Med
end
section
set_option linter.unusedVariables false
set_option linter.unusedSimpArgs false
set_option linter.unusedSectionVars false
namespace Go.Proofs.YtjhfbmhblpjigaaGreatDoor.Med
open Go Go.Abs Go.Proofs
set_option linter.unusedVariables false
set_option linter.unusedSimpArgs false
/-! what strings are: prefixes, keys, numbers -/
def D10 : List UInt8 := [48, 49, 50, 51, 52, 53, 54, 55, 56, 57]
def S26 : List UInt8 := [97, 98, 99, 100, 101, 102, 103, 104, 105, 106, 107, 108, 109, 110, 111, 112, 113, 114, 115, 116, 117, 118, 119, 120, 121, 122]
def K38 : List UInt8 := [97, 98, 99, 100, 101, 102, 103, 104, 105, 106, 107, 108, 109, 110, 111, 112, 113, 114, 115, 116, 117, 118, 119, 120, 121, 122, 48, 49, 50, 51, 52, 53, 54, 55, 56, 57, 45, 95]
abbrev ls (s : ByteArray) : List UInt8 := s.data.toList
theorem ls_bs (l : List UInt8) : ls (bs l) = l := by simp [ls, bs]
theorem mem_dropW {b : UInt8} {p : UInt8 → Bool} (hb : p b = false) : ∀ (l : List UInt8), b ∈ l → b ∈ l.dropWhile p
 | [], h => by cases h
 | a :: l, h => by
  rw [List.dropWhile_cons]
  by_cases c : p a = true
  ·rw [if_pos c]
   rcases List.mem_cons.1 h with rfl | h
   ·rw [hb] at c; cases c
   ·exact mem_dropW hb l h
  ·rw [if_neg c]; exact h
theorem dropW_all {p : UInt8 → Bool} : ∀ (l : List UInt8), (∀ b ∈ l, p b = true) → l.dropWhile p = []
 | [], _ => rfl
 | a :: l, h => by
  rw [List.dropWhile_cons, if_pos (h a (by simp))]
  exact dropW_all l fun b hb => h b (by simp [hb])
theorem trim_nil (s cs : List UInt8) : Lib.trimS s cs = [] ↔ ∀ b ∈ s, b ∈ cs := by
 unfold Lib.trimS Lib.trimLeftS Lib.trimRightS
 constructor
 ·intro h b hb
  by_cases c : b ∈ cs
  ·exact c
  ·exfalso
   have hp : (fun x => cs.contains x) b = false := by simpa using c
   have h1 : b ∈ (s.reverse.dropWhile fun x => cs.contains x).reverse := List.mem_reverse.2 (mem_dropW hp _ (List.mem_reverse.2 hb))
   have h2 := mem_dropW hp _ h1
   rw [h] at h2
   cases h2
 ·intro h
  rw [dropW_all s.reverse fun b hb => by simpa using h b (List.mem_reverse.1 hb)]
  rfl
theorem trim_eq (s cs : List UInt8) : ((trimB (bs s) (bs cs)).toList == (bs []).toList) = s.all fun b => decide (b ∈ cs) := by
 show ((bs (Lib.trimS s cs)).toList == (bs []).toList) = _
 rw [bs_toList, bs_toList, Bool.eq_iff_iff]
 simp only [beq_iff_eq, trim_nil, List.all_eq_true, decide_eq_true_eq]
theorem trim_ok (s cs : List UInt8) (hs : s.length ≤ 1000) (hc : cs.length ≤ 1000) (hb : (cs.all fun b => decide (b.toNat < 128)) = true) : trimOk (bs s) (bs cs) = true := by
 unfold trimOk
 rw [bs_size, bs_size, decide_eq_true (by omega), decide_eq_true (by omega)]
 exact hb
def keyB (l : List UInt8) : Bool := decide (1 ≤ l.length) && (decide (l.length ≤ 40) && (decide (97 ≤ (l.getD 0 0).toNat) && (decide ((l.getD 0 0).toNat ≤ 122) && l.all fun b => decide (b ∈ K38))))
theorem fn34 (m : Nat) (l : List UInt8) {R : Type} (k : Bool → Option R) : Fn34 (m + 1) (bs l) k = k (keyB l) := by
 simp only [Fn34, bs_size, bs_at, arr_at]
 unfold keyB
 by_cases h1 : 1 ≤ l.length
 ·rw [dT (by omega), decide_eq_true h1, Bool.true_and]
  by_cases h2 : l.length ≤ 40
  ·rw [dT (by omega), decide_eq_true h2, Bool.true_and, dT (by omega)]
   have e0 : Int.toNat 0 = 0 := rfl
   simp only [e0]
   by_cases h3 : 97 ≤ (l.getD 0 0).toNat
   ·rw [dT (by omega), decide_eq_true h3, Bool.true_and, dT (by omega)]
    by_cases h4 : (l.getD 0 0).toNat ≤ 122
    ·rw [dT (by omega), decide_eq_true h4, Bool.true_and]
     refine Eq.trans (bT (trim_ok l K38 (by omega) (by decide) (by decide))) ?_
     congr 1
     exact trim_eq l K38
    ·rw [dF (by omega), decide_eq_false h4, Bool.false_and]
   ·rw [dF (by omega), decide_eq_false h3, Bool.false_and]
  ·rw [dF (by omega), decide_eq_false h2, Bool.false_and]
 ·rw [dF (by omega), decide_eq_false h1, Bool.false_and]
theorem fn32 (m : Nat) (x lo hi : Int) {R : Type} (k : Bool → Option R) : Fn32 (m + 1) x lo hi k = k (decide (lo ≤ x ∧ x ≤ hi)) := by
 simp only [Fn32]
 by_cases h1 : lo ≤ x
 ·rw [dT h1]; congr 1; simp [h1]
 ·rw [dF h1]; congr 1; simp [h1]
theorem fn28 (m : Nat) (x lo hi : Int) {R : Type} (k : Bool → Option R) : Fn28 (m + 1) x lo hi k = k (decide (lo ≤ x ∧ x ≤ hi)) := by
 simp only [Fn28]
 by_cases h1 : lo ≤ x
 ·rw [dT h1]; congr 1; simp [h1]
 ·rw [dF h1]; congr 1; simp [h1]
theorem fn63 (m : Nat) (l : List UInt8) (c : Int) {R : Type} (k : Int → Option R) : Fn63 (m + 2) (bs l) c k = k (ixI c.toNat.toUInt8 l) := by
 simp only [Fn63, Fn82, idx_bs]
theorem lp53 (m : Nat) (s cs : List UInt8) {R : Type} (k : Bool → Option R) (z : Bool) : ∀ (d n i : Nat), i + d = s.length → d < n → s.length ≤ 100000 →
  Lp53_2 (m + 2) (fun b _ => k b) (fun _ => k true) (bs s) (bs cs) z s.length n i = k ((s.drop i).all fun b => decide (b ∈ cs))
 | _, 0, _, _, h, _ => by omega
 | 0, n + 1, i, h1, h2, h3 => by
  have hi : i = s.length := by omega
  rw [Lp53_2]
  simp only [Lp53_2_step]
  rw [dF (by omega), hi, List.drop_length]
  rfl
 | d + 1, n + 1, i, h1, h2, h3 => by
  have e1 : IntKind.wrap .i64 ((i : Int) + 1) = ((i + 1 : Nat) : Int) := by rw [w64 (by omega) (by omega)]; omega
  have hd : s.drop i = s.getD i 0 :: s.drop (i + 1) := by
   rw [List.drop_eq_getElem_cons (by omega), List.getD_eq_getElem?_getD, List.getElem?_eq_getElem (by omega)]
   rfl
  rw [Lp53_2]
  simp only [Lp53_2_step, bs_size, bs_at, arr_at, e1, show Int.toNat (i : Int) = i by omega]
  rw [dT (by omega), dT (by omega)]
  refine Eq.trans (fn63 m cs ((s.getD i 0).toNat : Int) _) ?_
  have hcc : ((s.getD i 0).toNat : Int).toNat.toUInt8 = s.getD i 0 := by simp
  rw [hcc, hd, List.all_cons]
  by_cases c : s.getD i 0 ∈ cs
  ·have := ixI_nn.2 c
   rw [dF (by omega), decide_eq_true c, Bool.true_and]
   exact lp53 m s cs k z d n (i + 1) (by omega) (by omega) h3
  ·have : ¬ 0 ≤ ixI (s.getD i 0) cs := fun h => c (ixI_nn.1 h)
   rw [dT (by omega), decide_eq_false c]
   rfl
theorem fn53 (m : Nat) (s cs : List UInt8) (hs : s.length ≤ 100) (hm : 100 ≤ m) {R : Type} (k : Bool → Option R) : Fn53 (m + 3) (bs s) (bs cs) k = k (s.all fun b => decide (b ∈ cs)) := by
 simp only [Fn53, bs_size]
 exact lp53 m s cs k false s.length (m + 2) 0 (by omega) (by omega) (by omega)
theorem s26 : ((List.range 256).all fun n => decide (n.toUInt8 ∈ S26) == (decide (97 ≤ n) && decide (n ≤ 122))) = true := by kernel_rfl
theorem s26' (b : UInt8) : b ∈ S26 ↔ 97 ≤ b.toNat ∧ b.toNat ≤ 122 := by
 have h := List.all_eq_true.1 s26 b.toNat (List.mem_range.2 b.toNat_lt)
 have e : b.toNat.toUInt8 = b := by simp
 rw [e] at h
 have h := eq_of_beq h
 rw [← Bool.decide_and] at h
 exact decide_eq_decide.1 h
theorem fn30 (m : Nat) (hm : 100 ≤ m) (l : List UInt8) {R : Type} (k : Bool → Option R) : Fn30 (m + 4) (bs l) k = k (keyB l) := by
 simp only [Fn30, bs_size]
 refine Eq.trans (fn28 (m + 2) _ _ _ _) ?_
 unfold keyB
 by_cases h : 1 ≤ l.length ∧ l.length ≤ 40
 ·rw [decide_eq_true (show (1 : Int) ≤ (l.length : Int) ∧ (l.length : Int) ≤ 40 by omega), decide_eq_true h.1, decide_eq_true h.2, Bool.true_and, Bool.true_and]
  refine Eq.trans (bT rfl) ?_
  rw [dT (by omega)]
  have ht : (bs l).extract 0 (Int.toNat 1) = bs [l.getD 0 0] := by
   rw [bs_ext]
   cases l with
   | nil => simp at h
   | cons a t => rfl
  rw [ht]
  refine Eq.trans (fn53 m [l.getD 0 0] S26 (by simp) hm _) ?_
  have e1 : ([l.getD 0 0].all fun b => decide (b ∈ S26)) = (decide (97 ≤ (l.getD 0 0).toNat) && decide ((l.getD 0 0).toNat ≤ 122)) := by
   rw [List.all_cons, List.all_nil, Bool.and_true, ← Bool.decide_and]
   exact decide_eq_decide.2 (s26' _)
  rw [e1]
  cases h3 : decide (97 ≤ (l.getD 0 0).toNat) with
  | false => rfl
  | true =>
   cases h4 : decide ((l.getD 0 0).toNat ≤ 122) with
   | false => rfl
   | true =>
    refine Eq.trans (bT rfl) ?_
    exact fn53 m l K38 (by omega) hm k
 ·rw [decide_eq_false (show ¬ ((1 : Int) ≤ (l.length : Int) ∧ (l.length : Int) ≤ 40) by omega)]
  refine Eq.trans (bF rfl) ?_
  by_cases h1 : 1 ≤ l.length
  ·rw [decide_eq_true h1, decide_eq_false (show ¬ l.length ≤ 40 by omega)]; rfl
  ·rw [decide_eq_false h1]; rfl
/-! the first fault -/
def ei (l : List Int) : Abs.Rows := l.map fun x => [F.lit (.int .i64 x)]
def nz : List Int → Int
 | [] => 0
 | x :: l => if x ≠ 0 then x else nz l
theorem ei_len (l : List Int) : (ei l).length = l.length := by simp [ei]
theorem ei_fI (l : List Int) (i : Nat) (h : i < l.length) : fI (ei l) i 0 = l.getD i 0 := by
 simp [fI, dropF, Abs.rowAt, List.getD_eq_getElem?_getD, ei, h, F.toInt]
theorem lp9 (m : Nat) (l : List Int) (hl : l.length ≤ 1000) {R : Type} (k : Int → Option R) (a : Abs.Rows) (z : Int) : ∀ (d n i : Nat), i + d = l.length → d < n →
  Lp9_2 m (fun x _ => k x) (fun _ => k 0) a z (ei l) l.length n i = k (nz (l.drop i))
 | _, 0, _, _, h => by omega
 | 0, n + 1, i, h1, h2 => by
  rw [Lp9_2]
  simp only [Lp9_2_step]
  rw [dF (by omega), show i = l.length by omega, List.drop_length]
  rfl
 | d + 1, n + 1, i, h1, h2 => by
  have e1 : IntKind.wrap .i64 ((i : Int) + 1) = ((i + 1 : Nat) : Int) := by rw [w64 (by omega) (by omega)]; omega
  have hd : l.drop i = l.getD i 0 :: l.drop (i + 1) := by
   rw [List.drop_eq_getElem_cons (by omega), List.getD_eq_getElem?_getD, List.getElem?_eq_getElem (by omega)]
   rfl
  rw [Lp9_2]
  simp only [Lp9_2_step, ei_len, e1, show Int.toNat (i : Int) = i by omega]
  rw [dT (by omega), dT (by omega), ei_fI l i (by omega), hd, nz]
  by_cases c : l.getD i 0 = 0
  ·rw [nF c, if_neg (by simpa using c)]
   exact lp9 m l hl k a z d n (i + 1) (by omega) (by omega)
  ·rw [nT c, if_pos c]
theorem fn9 (m : Nat) (l : List Int) (hl : l.length ≤ 50) (hm : 51 ≤ m) {R : Type} (k : Int → Option R) : Fn9 (m + 1) (ei l) k = k (nz l) := by
 simp only [Fn9, ei_len]
 exact lp9 m l (by omega) k (ei l) 0 l.length m 0 (by omega) (by omega)
theorem fn12 (m : Nat) (b : Bool) (e : Int) {R : Type} (k : Int → Option R) : Fn12 (m + 1) b e k = k (if b = true then e else 0) := by
 simp only [Fn12]
 cases b <;> rfl
end Go.Proofs.YtjhfbmhblpjigaaGreatDoor.Med
end
section
set_option linter.unusedVariables false
set_option linter.unusedSimpArgs false
set_option linter.unusedSectionVars false
namespace Go.Proofs.YtjhfbmhblpjigaaGreatDoor.Med
open Go Go.Abs Go.Proofs
set_option linter.unusedVariables false
set_option linter.unusedSimpArgs false
/-! codecs as plain data -/
structure Cod where
 t : Int
 n : Int
 s : List UInt8
 deriving DecidableEq, Inhabited
def cRow (c : Cod) : List F := [F.lit (.int .i64 c.t), F.lit (.int .i64 c.n), F.lit (.string (bs c.s))]
def cr (l : List Cod) : Abs.Rows := l.map cRow
theorem cr_len (l : List Cod) : (cr l).length = l.length := by simp [cr]
theorem cr_t {l : List Cod} {i : Nat} (h : i < l.length) : fI (cr l) i 0 = (l[i]).t := by
 simp [cr, fI, Abs.rowAt, List.getD_eq_getElem?_getD, h]; rfl
theorem cr_n {l : List Cod} {i : Nat} (h : i < l.length) : fI (cr l) i 1 = (l[i]).n := by
 simp [cr, fI, Abs.rowAt, List.getD_eq_getElem?_getD, h]; rfl
theorem cr_s {l : List Cod} {i : Nat} (h : i < l.length) : fS (cr l) i 2 = bs (l[i]).s := by
 simp [cr, fS, Abs.rowAt, List.getD_eq_getElem?_getD, h]; rfl
theorem cr_app (l : List Cod) (c : Cod) : cr l ++ [[F.lit (.int .i64 c.t), F.lit (.int .i64 c.n), F.lit (.string (bs c.s))]] = cr (l ++ [c]) := by simp [cr, cRow]
theorem cr_take (l : List Cod) (i : Nat) : (cr l).take i = cr (l.take i) := by simp [cr]
theorem cr_drop (l : List Cod) (i : Nat) : (cr l).drop i = cr (l.drop i) := by simp [cr]
theorem wP1 {i : Nat} (h2 : i ≤ 1000000) : IntKind.wrap .i64 ((i : Int) + 1) = ((i + 1 : Nat) : Int) := by rw [w64 (by omega) (by omega)]; omega
theorem tN (i : Nat) : Int.toNat (i : Int) = i := by omega
/-- - -/
def ixF (p : Cod → Bool) : List Cod → Int → Int
 | [], _ => -1
 | c :: l, i => if p c = true then i else ixF p l (i + 1)
theorem ixF_any (p : Cod → Bool) : ∀ (l : List Cod) (i : Int), 0 ≤ i → (decide (ixF p l i ≥ 0)) = l.any p
 | [], i, h => by simp [ixF]
 | c :: l, i, h => by
  have ih := ixF_any p l (i + 1) (by omega)
  simp only [ixF, List.any_cons, ← ih]
  by_cases hc : p c = true
  ·simp [hc, h]
  ·simp [hc]
def isT (t : Int) (c : Cod) : Bool := c.t == t
def isN (n : Int) (s : List UInt8) (c : Cod) : Bool := c.s == s && c.n == n
theorem bif_and (a b : Bool) : (bif a then b else false) = (a && b) := by cases a <;> rfl
theorem fn29 (m : Nat) (c : Cod) (t n : Int) (s : List UInt8) {R : Type} (k : Bool → Option R) : Fn29 (m + 1) c.t c.n (bs c.s) t n (bs s) k = k (isT t c) := by simp only [Fn29, isT]
theorem fn33 (m : Nat) (c : Cod) (t n : Int) (s : List UInt8) {R : Type} (k : Bool → Option R) : Fn33 (m + 1) c.t c.n (bs c.s) t n (bs s) k = k (isT t c) := by simp only [Fn33, isT]
theorem fn31 (m : Nat) (c : Cod) (t n : Int) (s : List UInt8) {R : Type} (k : Bool → Option R) : Fn31 (m + 1) c.t c.n (bs c.s) t n (bs s) k = k (isN n s c) := by
 simp only [Fn31, isN, bs_toList]; cases h : c.s == s <;> simp
theorem fn39 (m : Nat) (c : Cod) (t n : Int) (s : List UInt8) {R : Type} (k : Bool → Option R) : Fn39 (m + 1) c.t c.n (bs c.s) t n (bs s) k = k (isN n s c) := by
 simp only [Fn39, isN, bs_toList]; cases h : c.s == s <;> simp
theorem isN_comm (n : Int) (s : List UInt8) (c : Cod) : isN n s c = (s == c.s && n == c.n) := by
 unfold isN
 rw [Bool.eq_iff_iff, Bool.and_eq_true, Bool.and_eq_true, beq_iff_eq, beq_iff_eq, beq_iff_eq, beq_iff_eq]
 exact ⟨fun ⟨h1, h2⟩ => ⟨h1.symm, h2.symm⟩, fun ⟨h1, h2⟩ => ⟨h1.symm, h2.symm⟩⟩
theorem fn26 (m : Nat) (c : Cod) (t n : Int) (s : List UInt8) {R : Type} (k : Bool → Option R) : Fn26 (m + 1) t n (bs s) c.t c.n (bs c.s) k = k (isN n s c) := by
 simp only [Fn26, isN_comm, bs_toList]; cases h : s == c.s <;> simp
theorem fn35 (m : Nat) (c : Cod) (t n : Int) (s : List UInt8) {R : Type} (k : Bool → Option R) : Fn35 (m + 2) c.t c.n (bs c.s) t n (bs s) k = k (isN n s c) := by simp only [Fn35, fn26]
theorem fn25 (m : Nat) (c : Cod) (t n : Int) (s : List UInt8) {R : Type} (k : Bool → Option R) : Fn25 (m + 2) c.t c.n (bs c.s) t n (bs s) k = k (isN n s c) := by simp only [Fn25, fn26]
theorem lp51 (m : Nat) (l : List Cod) (hl : l.length ≤ 100000) (t n : Int) (s : List UInt8) (z : Int) {R : Type} (k : Int → Option R) : ∀ (d q i : Nat), i + d = l.length → d < q →
  Lp51_2 (m + 1) (fun i _ => k i) (fun _ => k (-1)) (cr l) t n (bs s) z l.length q i = k (ixF (isT t) (l.drop i) i)
 | _, 0, _, _, h => by omega
 | 0, q + 1, i, h1, h2 => by
  rw [Lp51_2]
  simp only [Lp51_2_step]
  rw [dF (by omega), List.drop_eq_nil_of_le (by omega)]
  rfl
 | d + 1, q + 1, i, h1, h2 => by
  have ih := lp51 m l hl t n s z k d q (i + 1) (by omega) (by omega)
  have hi : i < l.length := by omega
  rw [Lp51_2]
  simp only [Lp51_2_step, wP1 (show i ≤ 1000000 by omega), tN, cr_t hi, cr_n hi, cr_s hi, cr_len, ih, fn29]
  rw [dT (by omega), dT (by omega), List.drop_eq_getElem_cons hi]
  simp only [ixF, Bool.cond_eq_ite]
  grind
theorem fn24 (m : Nat) (hm : 100 ≤ m) (l : List Cod) (hl : l.length ≤ 60) (t n : Int) (s : List UInt8) {R : Type} (k : Bool → Option R) : Fn24 (m + 4) (cr l) t n (bs s) k = k (l.any (isT t)) := by
 simp only [Fn24, Fn51, cr_len]
 rw [← ixF_any (isT t) l 0 (by omega)]
 exact lp51 (m + 1) l (by omega) t n s 0 (fun i => k (decide (i ≥ 0))) l.length (m + 2) 0 (by omega) (by omega)
theorem lp51v1 (m : Nat) (l : List Cod) (hl : l.length ≤ 100000) (t n : Int) (s : List UInt8) (z : Int) {R : Type} (k : Int → Option R) : ∀ (d q i : Nat), i + d = l.length → d < q →
  Lp51_2v1 (m + 1) (fun i _ => k i) (fun _ => k (-1)) (cr l) t n (bs s) z l.length q i = k (ixF (isN n s) (l.drop i) i)
 | _, 0, _, _, h => by omega
 | 0, q + 1, i, h1, h2 => by
  rw [Lp51_2v1]
  simp only [Lp51_2v1_step]
  rw [dF (by omega), List.drop_eq_nil_of_le (by omega)]
  rfl
 | d + 1, q + 1, i, h1, h2 => by
  have ih := lp51v1 m l hl t n s z k d q (i + 1) (by omega) (by omega)
  have hi : i < l.length := by omega
  rw [Lp51_2v1]
  simp only [Lp51_2v1_step, wP1 (show i ≤ 1000000 by omega), tN, cr_t hi, cr_n hi, cr_s hi, cr_len, ih, fn31]
  rw [dT (by omega), dT (by omega), List.drop_eq_getElem_cons hi]
  simp only [ixF, Bool.cond_eq_ite]
  grind
theorem fn24v1 (m : Nat) (hm : 100 ≤ m) (l : List Cod) (hl : l.length ≤ 60) (t n : Int) (s : List UInt8) {R : Type} (k : Bool → Option R) : Fn24v1 (m + 4) (cr l) t n (bs s) k = k (l.any (isN n s)) := by
 simp only [Fn24v1, Fn51v1, cr_len]
 rw [← ixF_any (isN n s) l 0 (by omega)]
 exact lp51v1 (m + 1) l (by omega) t n s 0 (fun i => k (decide (i ≥ 0))) l.length (m + 2) 0 (by omega) (by omega)
theorem lp51v2 (m : Nat) (l : List Cod) (hl : l.length ≤ 100000) (t n : Int) (s : List UInt8) (z : Int) {R : Type} (k : Int → Option R) : ∀ (d q i : Nat), i + d = l.length → d < q →
  Lp51_2v2 (m + 1) (fun i _ => k i) (fun _ => k (-1)) (cr l) t n (bs s) z l.length q i = k (ixF (isT t) (l.drop i) i)
 | _, 0, _, _, h => by omega
 | 0, q + 1, i, h1, h2 => by
  rw [Lp51_2v2]
  simp only [Lp51_2v2_step]
  rw [dF (by omega), List.drop_eq_nil_of_le (by omega)]
  rfl
 | d + 1, q + 1, i, h1, h2 => by
  have ih := lp51v2 m l hl t n s z k d q (i + 1) (by omega) (by omega)
  have hi : i < l.length := by omega
  rw [Lp51_2v2]
  simp only [Lp51_2v2_step, wP1 (show i ≤ 1000000 by omega), tN, cr_t hi, cr_n hi, cr_s hi, cr_len, ih, fn33]
  rw [dT (by omega), dT (by omega), List.drop_eq_getElem_cons hi]
  simp only [ixF, Bool.cond_eq_ite]
  grind
theorem fn24v2 (m : Nat) (hm : 100 ≤ m) (l : List Cod) (hl : l.length ≤ 60) (t n : Int) (s : List UInt8) {R : Type} (k : Bool → Option R) : Fn24v2 (m + 4) (cr l) t n (bs s) k = k (l.any (isT t)) := by
 simp only [Fn24v2, Fn51v2, cr_len]
 rw [← ixF_any (isT t) l 0 (by omega)]
 exact lp51v2 (m + 1) l (by omega) t n s 0 (fun i => k (decide (i ≥ 0))) l.length (m + 2) 0 (by omega) (by omega)
theorem lp51v3 (m : Nat) (l : List Cod) (hl : l.length ≤ 100000) (t n : Int) (s : List UInt8) (z : Int) {R : Type} (k : Int → Option R) : ∀ (d q i : Nat), i + d = l.length → d < q →
  Lp51_2v3 (m + 2) (fun i _ => k i) (fun _ => k (-1)) (cr l) t n (bs s) z l.length q i = k (ixF (isN n s) (l.drop i) i)
 | _, 0, _, _, h => by omega
 | 0, q + 1, i, h1, h2 => by
  rw [Lp51_2v3]
  simp only [Lp51_2v3_step]
  rw [dF (by omega), List.drop_eq_nil_of_le (by omega)]
  rfl
 | d + 1, q + 1, i, h1, h2 => by
  have ih := lp51v3 m l hl t n s z k d q (i + 1) (by omega) (by omega)
  have hi : i < l.length := by omega
  rw [Lp51_2v3]
  simp only [Lp51_2v3_step, wP1 (show i ≤ 1000000 by omega), tN, cr_t hi, cr_n hi, cr_s hi, cr_len, ih, fn35]
  rw [dT (by omega), dT (by omega), List.drop_eq_getElem_cons hi]
  simp only [ixF, Bool.cond_eq_ite]
  grind
theorem fn24v3 (m : Nat) (hm : 100 ≤ m) (l : List Cod) (hl : l.length ≤ 60) (t n : Int) (s : List UInt8) {R : Type} (k : Bool → Option R) : Fn24v3 (m + 4) (cr l) t n (bs s) k = k (l.any (isN n s)) := by
 simp only [Fn24v3, Fn51v3, cr_len]
 rw [← ixF_any (isN n s) l 0 (by omega)]
 exact lp51v3 (m + 0) l (by omega) t n s 0 (fun i => k (decide (i ≥ 0))) l.length (m + 2) 0 (by omega) (by omega)
theorem lp51v4 (m : Nat) (l : List Cod) (hl : l.length ≤ 100000) (t n : Int) (s : List UInt8) (z : Int) {R : Type} (k : Int → Option R) : ∀ (d q i : Nat), i + d = l.length → d < q →
  Lp51_2v4 (m + 2) (fun i _ => k i) (fun _ => k (-1)) (cr l) t n (bs s) z l.length q i = k (ixF (isN n s) (l.drop i) i)
 | _, 0, _, _, h => by omega
 | 0, q + 1, i, h1, h2 => by
  rw [Lp51_2v4]
  simp only [Lp51_2v4_step]
  rw [dF (by omega), List.drop_eq_nil_of_le (by omega)]
  rfl
 | d + 1, q + 1, i, h1, h2 => by
  have ih := lp51v4 m l hl t n s z k d q (i + 1) (by omega) (by omega)
  have hi : i < l.length := by omega
  rw [Lp51_2v4]
  simp only [Lp51_2v4_step, wP1 (show i ≤ 1000000 by omega), tN, cr_t hi, cr_n hi, cr_s hi, cr_len, ih, fn25]
  rw [dT (by omega), dT (by omega), List.drop_eq_getElem_cons hi]
  simp only [ixF, Bool.cond_eq_ite]
  grind
theorem fn24v4 (m : Nat) (hm : 100 ≤ m) (l : List Cod) (hl : l.length ≤ 60) (t n : Int) (s : List UInt8) {R : Type} (k : Bool → Option R) : Fn24v4 (m + 4) (cr l) t n (bs s) k = k (l.any (isN n s)) := by
 simp only [Fn24v4, Fn51v4, cr_len]
 rw [← ixF_any (isN n s) l 0 (by omega)]
 exact lp51v4 (m + 0) l (by omega) t n s 0 (fun i => k (decide (i ≥ 0))) l.length (m + 2) 0 (by omega) (by omega)
theorem lp51v5 (m : Nat) (l : List Cod) (hl : l.length ≤ 100000) (t n : Int) (s : List UInt8) (z : Int) {R : Type} (k : Int → Option R) : ∀ (d q i : Nat), i + d = l.length → d < q →
  Lp51_2v5 (m + 1) (fun i _ => k i) (fun _ => k (-1)) (cr l) t n (bs s) z l.length q i = k (ixF (isN n s) (l.drop i) i)
 | _, 0, _, _, h => by omega
 | 0, q + 1, i, h1, h2 => by
  rw [Lp51_2v5]
  simp only [Lp51_2v5_step]
  rw [dF (by omega), List.drop_eq_nil_of_le (by omega)]
  rfl
 | d + 1, q + 1, i, h1, h2 => by
  have ih := lp51v5 m l hl t n s z k d q (i + 1) (by omega) (by omega)
  have hi : i < l.length := by omega
  rw [Lp51_2v5]
  simp only [Lp51_2v5_step, wP1 (show i ≤ 1000000 by omega), tN, cr_t hi, cr_n hi, cr_s hi, cr_len, ih, fn39]
  rw [dT (by omega), dT (by omega), List.drop_eq_getElem_cons hi]
  simp only [ixF, Bool.cond_eq_ite]
  grind
theorem fn24v5 (m : Nat) (hm : 100 ≤ m) (l : List Cod) (hl : l.length ≤ 60) (t n : Int) (s : List UInt8) {R : Type} (k : Bool → Option R) : Fn24v5 (m + 4) (cr l) t n (bs s) k = k (l.any (isN n s)) := by
 simp only [Fn24v5, Fn51v5, cr_len]
 rw [← ixF_any (isN n s) l 0 (by omega)]
 exact lp51v5 (m + 1) l (by omega) t n s 0 (fun i => k (decide (i ≥ 0))) l.length (m + 2) 0 (by omega) (by omega)
end Go.Proofs.YtjhfbmhblpjigaaGreatDoor.Med
end
section
set_option linter.unusedVariables false
set_option linter.unusedSimpArgs false
set_option linter.unusedSectionVars false
namespace Go.Proofs.YtjhfbmhblpjigaaGreatDoor.Med
open Go Go.Abs Go.Proofs
set_option linter.unusedVariables false
set_option linter.unusedSimpArgs false
/-! are codecs right -/
def cE (l : List Cod) (i : Nat) : Int :=
 let c := l.getD i default
 if ¬ (0 ≤ c.t ∧ c.t ≤ 127) then 1 else if (l.take i).any (isT c.t) = true then 6 else if keyB c.s = false then 5 else
 if ¬ (1000 ≤ c.n ∧ c.n ≤ 96000) then 1 else if (l.take i).any (isN c.n c.s) = true then 6 else 0
def codE (l : List Cod) : Int := if l.length > 20 then 2 else fstE (cE l) l.length 0
theorem lp8 (m : Nat) (hm : 100 ≤ m) (l : List Cod) (hl : l.length ≤ 60) (z : Int) {R : Type} (K kx1 : Int → Option R) : ∀ (d n i : Nat), i + d = l.length → d < n →
  Lp8_5 (m + 4) (fun e _ => K e) kx1 (cr l) z (cr l) l.length n i = if fstE (cE l) d i = 0 then kx1 l.length else K (fstE (cE l) d i)
 | _, 0, _, _, h => by omega
 | 0, n + 1, i, h1, h2 => by
  rw [Lp8_5]
  simp only [Lp8_5_step]
  rw [dF (by omega), show i = l.length by omega]
  rfl
 | d + 1, n + 1, i, h1, h2 => by
  have ih := lp8 m hm l hl z K kx1 d n (i + 1) (by omega) (by omega)
  have hi : i < l.length := by omega
  have hlt : (l.take i).length ≤ 60 := by rw [List.length_take]; omega
  have hg : l.getD i default = l[i] := by rw [List.getD_eq_getElem?_getD, List.getElem?_eq_getElem hi]; rfl
  rw [Lp8_5]
  simp only [Lp8_5_step, wP1 (show i ≤ 1000000 by omega), tN, cr_t hi, cr_n hi, cr_s hi, cr_len, fn28, fn30 m hm, List.drop_zero, Nat.sub_zero, cr_take, fn24 m hm _ hlt, fn24v1 m hm _ hlt, ih, fstE, cE, hg, Bool.cond_eq_ite]
  grind (splits := 40)
theorem lp10 (m : Nat) (hm : 100 ≤ m) (l : List Cod) (hl : l.length ≤ 60) (z : Int) {R : Type} (K kx1 : Int → Option R) : ∀ (d n i : Nat), i + d = l.length → d < n →
  Lp10_5 (m + 4) (fun e _ => K e) kx1 (cr l) z (cr l) l.length n i = if fstE (cE l) d i = 0 then kx1 l.length else K (fstE (cE l) d i)
 | _, 0, _, _, h => by omega
 | 0, n + 1, i, h1, h2 => by
  rw [Lp10_5]
  simp only [Lp10_5_step]
  rw [dF (by omega), show i = l.length by omega]
  rfl
 | d + 1, n + 1, i, h1, h2 => by
  have ih := lp10 m hm l hl z K kx1 d n (i + 1) (by omega) (by omega)
  have hi : i < l.length := by omega
  have hlt : (l.take i).length ≤ 60 := by rw [List.length_take]; omega
  have hg : l.getD i default = l[i] := by rw [List.getD_eq_getElem?_getD, List.getElem?_eq_getElem hi]; rfl
  rw [Lp10_5]
  simp only [Lp10_5_step, wP1 (show i ≤ 1000000 by omega), tN, cr_t hi, cr_n hi, cr_s hi, cr_len, fn32, fn34, List.drop_zero, Nat.sub_zero, cr_take, fn24v2 m hm _ hlt, fn24v3 m hm _ hlt, ih, fstE, cE, hg, Bool.cond_eq_ite]
  grind (splits := 40)
theorem fn8 (m : Nat) (hm : 100 ≤ m) (l : List Cod) {R : Type} (k : Int → Option R) : Fn8 (m + 5) (cr l) k = k (codE l) := by
 simp only [Fn8, cr_len, codE]
 by_cases h : l.length > 20
 ·rw [dT (by omega), if_pos h]
 ·rw [dF (by omega), if_neg h]
  refine Eq.trans (lp8 m hm l (by omega) 0 k (fun _ => k 0) l.length (m + 4) 0 (by omega) (by omega)) ?_
  by_cases h2 : fstE (cE l) l.length 0 = 0
  ·rw [if_pos h2, h2]
  ·rw [if_neg h2]
theorem fn10 (m : Nat) (hm : 100 ≤ m) (l : List Cod) {R : Type} (k : Int → Option R) : Fn10 (m + 5) (cr l) k = k (codE l) := by
 simp only [Fn10, cr_len, codE]
 by_cases h : l.length > 20
 ·rw [dT (by omega), if_pos h]
 ·rw [dF (by omega), if_neg h]
  refine Eq.trans (lp10 m hm l (by omega) 0 k (fun _ => k 0) l.length (m + 4) 0 (by omega) (by omega)) ?_
  by_cases h2 : fstE (cE l) l.length 0 = 0
  ·rw [if_pos h2, h2]
  ·rw [if_neg h2]
end Go.Proofs.YtjhfbmhblpjigaaGreatDoor.Med
end
section
set_option linter.unusedVariables false
set_option linter.unusedSimpArgs false
set_option linter.unusedSectionVars false
namespace Go.Proofs.YtjhfbmhblpjigaaGreatDoor.Med
open Go Go.Abs Go.Proofs
set_option linter.unusedVariables false
set_option linter.unusedSimpArgs false
/-! what both sides want -/
def inB (b : List Cod) (c : Cod) : Bool := b.any (isN c.n c.s)
theorem fRM : rowMax = 1073741824 := rfl
theorem lp6 (m : Nat) (hm : 100 ≤ m) (a b : List Cod) (ha : a.length ≤ 60) (hb : b.length ≤ 60) {R : Type} (K : Abs.Rows → Int → Option R) : ∀ (d n i : Nat) (o : List Cod), i + d = a.length → d < n → o.length ≤ i →
  Lp6_11 (m + 4) K (cr a) (cr b) (cr a) a.length n (cr o) i = K (cr (o ++ (a.drop i).filter (inB b))) a.length
 | _, 0, _, _, _, h, _ => by omega
 | 0, n + 1, i, o, h1, h2, h3 => by
  rw [Lp6_11]
  simp only [Lp6_11_step]
  rw [dF (by omega), List.drop_eq_nil_of_le (by omega), show i = a.length by omega]
  simp
 | d + 1, n + 1, i, o, h1, h2, h3 => by
  have hi : i < a.length := by omega
  have ih1 := lp6 m hm a b ha hb K d n (i + 1) o (by omega) (by omega) (by omega)
  have ih2 := lp6 m hm a b ha hb K d n (i + 1) (o ++ [a[i]]) (by omega) (by omega) (by simp; omega)
  rw [Lp6_11]
  simp only [Lp6_11_step, wP1 (show i ≤ 1000000 by omega), tN, cr_t hi, cr_n hi, cr_s hi, cr_len, fn24v4 m hm b hb, cr_app, letV, ih1, ih2]
  rw [dT (by omega), dT (by omega), List.drop_eq_getElem_cons hi, List.filter_cons]
  rw [dT (show o.length + [[F.lit (Value.int IntKind.i64 (a[i]).t), F.lit (Value.int IntKind.i64 (a[i]).n), F.lit (Value.string (bs (a[i]).s))]].length ≤ rowMax by rw [fRM]; simp; omega)]
  cases hc : b.any (isN (a[i]).n (a[i]).s) with
  | true =>
   have : inB b a[i] = true := hc
   simp [this]
  | false =>
   have : inB b a[i] = false := hc
   simp [this]
theorem fn6 (m : Nat) (hm : 100 ≤ m) (a b : List Cod) {R : Type} (k : Abs.Rows → Int → Option R) : Fn6 (m + 6) (cr a) (cr b) k =
  if codE a ≠ 0 then k rows0 (codE a) else if codE b ≠ 0 then k rows0 (codE b) else if a.filter (inB b) = [] then k rows0 8 else k (cr (a.filter (inB b))) 0 := by
 simp only [Fn6, fn10 m hm]
 by_cases h1 : codE a = 0
 ·rw [nF h1, if_neg (by omega)]
  by_cases h2 : codE b = 0
  ·rw [nF h2, if_neg (by omega)]
   have la : a.length ≤ 20 := by unfold codE at h1; split at h1 <;> omega
   have lb : b.length ≤ 20 := by unfold codE at h2; split at h2 <;> omega
   simp only [cr_len]
   refine Eq.trans (lp6 (m + 1) (by omega) a b (by omega) (by omega) (fun r4 i5 => bif ((r4.length : Int)) == (0 : Int) then k rows0 8 else k r4 0) a.length (m + 5) 0 [] (by omega) (by omega) (by simp)) ?_
   simp only [List.nil_append, List.drop_zero, cr_len]
   by_cases h3 : a.filter (inB b) = []
   ·rw [if_pos h3, h3]; rfl
   ·rw [if_neg h3]
    have : (a.filter (inB b)).length ≠ 0 := fun h => h3 (List.length_eq_zero_iff.1 h)
    rw [eF (by omega)]
  ·rw [nT h2, if_pos h2]
 ·rw [nT h1, if_pos h1]
/-! the list without what the other side does not want, in place -/
theorem fn38 (m : Nat) (hm : 100 ≤ m) (c : Cod) (b : List Cod) (hb : b.length ≤ 60) {R : Type} (k : Bool → Option R) : Fn38 (m + 5) c.t c.n (bs c.s) (cr b) k = k (!inB b c) := by
 simp only [Fn38, fn24v5 m hm b hb]; rfl
theorem lp51v6 (m : Nat) (hm : 100 ≤ m) (a b : List Cod) (ha : a.length ≤ 60) (hb : b.length ≤ 60) (z : Int) {R : Type} (k : Int → Option R) : ∀ (d q i : Nat), i + d = a.length → d < q →
  Lp51_2v6 (m + 5) (fun i _ => k i) (fun _ => k (-1)) (cr a) (cr b) z a.length q i = k (ixF (fun c => !inB b c) (a.drop i) i)
 | _, 0, _, _, h => by omega
 | 0, q + 1, i, h1, h2 => by
  rw [Lp51_2v6]
  simp only [Lp51_2v6_step]
  rw [dF (by omega), List.drop_eq_nil_of_le (by omega)]
  rfl
 | d + 1, q + 1, i, h1, h2 => by
  have ih := lp51v6 m hm a b ha hb z k d q (i + 1) (by omega) (by omega)
  have hi : i < a.length := by omega
  rw [Lp51_2v6]
  simp only [Lp51_2v6_step, wP1 (show i ≤ 1000000 by omega), tN, cr_t hi, cr_n hi, cr_s hi, cr_len, ih, fn38 m hm _ b hb]
  rw [dT (by omega), dT (by omega), List.drop_eq_getElem_cons hi]
  simp only [ixF, Bool.cond_eq_ite]
  grind
theorem stR_cr (l : List Cod) (i : Nat) (c : Cod) (hi : i < l.length) : stR [LT.int IntKind.i64, LT.int IntKind.i64, LT.str] (cr l) i 0 [F.lit (Value.int IntKind.i64 c.t), F.lit (Value.int IntKind.i64 c.n), F.lit (Value.string (bs c.s))] = cr (l.set i c) := by
 unfold stR cr
 rw [List.map_set]
 rfl
theorem take_set (l : List Cod) (i : Nat) (c : Cod) (hi : i < l.length) : (l.set i c).take (i + 1) = l.take i ++ [c] := by
 have hl : (l.take i).length = i := by rw [List.length_take]; omega
 rw [List.take_set, List.take_succ_eq_append_getElem hi, List.set_append_right _ _ (by omega), hl, Nat.sub_self]
 rfl
theorem drop_set (l : List Cod) (i j : Nat) (c : Cod) (hij : i < j) : (l.set i c).drop j = l.drop j := by
 rw [List.drop_set, if_pos (by omega)]
theorem lp36 (m : Nat) (hm : 100 ≤ m) (a b : List Cod) (ha : a.length ≤ 60) (hb : b.length ≤ 60) {R : Type} (k : Abs.Rows → Int → Option R) : ∀ (d q j i : Nat) (l : List Cod), j + d = a.length → d < q → i ≤ j → l.length = a.length →
  l.take i = (a.take j).filter (inB b) → l.drop j = a.drop j →
  ∃ (l' : List Cod) (i' : Nat), l'.length = a.length ∧ i' ≤ a.length ∧ l'.take i' = a.filter (inB b) ∧ Lp36_6 (m + 5) (fun r i _ => k r i) (cr b) q (cr l) i j = k (cr l') i'
 | _, 0, _, _, _, _, h, _, _, _, _ => by omega
 | 0, q + 1, j, i, l, h1, h2, h3, h4, h5, h6 => by
  refine ⟨l, i, h4, by omega, ?_, ?_⟩
  ·rw [h5, List.take_of_length_le (by omega)]
  ·rw [Lp36_6]
   simp only [Lp36_6_step, cr_len]
   rw [dF (by omega)]
 | d + 1, q + 1, j, i, l, h1, h2, h3, h4, h5, h6 => by
  have hj : j < l.length := by omega
  have hja : j < a.length := by omega
  have hel : l[j] = a[j] := by
   have := congrArg (fun x => x[0]?) h6
   simp only [List.getElem?_drop, Nat.add_zero, List.getElem?_eq_getElem hj, List.getElem?_eq_getElem hja] at this
   exact Option.some.inj this
  have hd : l.drop (j + 1) = a.drop (j + 1) := by
   have := congrArg (List.drop 1) h6
   simpa [List.drop_drop] using this
  have hf : (a.take (j + 1)).filter (inB b) = (a.take j).filter (inB b) ++ (if inB b a[j] = true then [a[j]] else []) := by
   rw [List.take_succ_eq_append_getElem hja, List.filter_append, List.filter_cons]
   simp
  have step : Lp36_6 (m + 5) (fun r i _ => k r i) (cr b) (q + 1) (cr l) i j = (bif inB b a[j] then Lp36_6 (m + 5) (fun r i _ => k r i) (cr b) q (cr (l.set i a[j])) ((i + 1 : Nat) : Int) ((j + 1 : Nat) : Int) else Lp36_6 (m + 5) (fun r i _ => k r i) (cr b) q (cr l) i ((j + 1 : Nat) : Int)) := by
   rw [Lp36_6]
   simp only [Lp36_6_step, cr_len, wP1 (show i ≤ 1000000 by omega), wP1 (show j ≤ 1000000 by omega), tN, cr_t hj, cr_n hj, cr_s hj, hel, fn38 m hm _ b hb, stR_cr l i a[j] (by omega)]
   rw [dT (by omega), dT (by omega), dT (by omega)]
   cases inB b a[j] <;> rfl
  rw [step]
  cases hc : inB b a[j] with
  | true =>
   obtain ⟨l', i', g1, g2, g3, g4⟩ := lp36 m hm a b ha hb k d q (j + 1) (i + 1) (l.set i a[j]) (by omega) (by omega) (by omega) (by simpa using h4) (by rw [take_set _ _ _ (by omega), h5, hf, hc]; rfl) (by rw [drop_set _ _ _ _ (by omega), hd])
   exact ⟨l', i', g1, g2, g3, g4⟩
  | false =>
   obtain ⟨l', i', g1, g2, g3, g4⟩ := lp36 m hm a b ha hb k d q (j + 1) i l (by omega) (by omega) (by omega) h4 (by rw [h5, hf, hc]; simp) hd
   exact ⟨l', i', g1, g2, g3, g4⟩
theorem ixF_spec (p : Cod → Bool) : ∀ (l : List Cod) (i : Nat), (ixF p l i = -1 ∧ ∀ c ∈ l, p c = false) ∨ ∃ j, j < l.length ∧ ixF p l i = ((i + j : Nat) : Int) ∧ (∀ c ∈ l.take j, p c = false) ∧ ∀ h : j < l.length, p (l[j]) = true
 | [], i => .inl ⟨rfl, by simp⟩
 | c :: l, i => by
  by_cases hc : p c = true
  ·exact .inr ⟨0, by simp, by simp [ixF, hc], by simp, fun _ => hc⟩
  ·have hc' : p c = false := by simpa using hc
   rcases ixF_spec p l (i + 1) with ⟨h1, h2⟩ | ⟨j, h1, h2, h3, h4⟩
   ·left
    refine ⟨?_, fun x hx => ?_⟩
    ·simp only [ixF, hc', Bool.false_eq_true, if_false]
     have : ((i : Int) + 1) = ((i + 1 : Nat) : Int) := by omega
     rw [this]; exact h1
    ·rcases List.mem_cons.1 hx with rfl | hx
     ·exact hc'
     ·exact h2 x hx
   ·right
    refine ⟨j + 1, by simp; omega, ?_, fun x hx => ?_, fun h => ?_⟩
    ·simp only [ixF, hc', Bool.false_eq_true, if_false]
     have : ((i : Int) + 1) = ((i + 1 : Nat) : Int) := by omega
     rw [this, h2]; omega
    ·rw [List.take_succ_cons] at hx
     rcases List.mem_cons.1 hx with rfl | hx
     ·exact hc'
     ·exact h3 x hx
    ·exact h4 (by simpa using h)
theorem fn36 (m : Nat) (hm : 100 ≤ m) (a b : List Cod) (ha : a.length ≤ 60) (hb : b.length ≤ 60) {R : Type} (k : Abs.Rows → Option R) : Fn36 (m + 7) (cr a) (cr b) k = k (cr (a.filter (inB b))) := by
 simp only [Fn36, Fn51v6, cr_len]
 rw [show m + 6 = (m + 1) + 5 by omega]
 have h0 := lp51v6 m hm a b ha hb 0 (fun i2 => bif i2 == (-1 : Int) then k (cr a) else
  (Lp36_6 ((m + 1) + 5) (fun r3 i4 i5 => bif decide ((0 : Int) ≤ i4 ∧ i4 ≤ ((r3.length : Int))) then (bif decide ((0 : Int) ≤ i4 ∧ i4 ≤ (((List.take (Int.toNat i4) r3 ++ (List.replicate (List.length r3 - Int.toNat i4) [F.lit (Value.int IntKind.i64 (0 : Int)), F.lit (Value.int IntKind.i64 (0 : Int)), F.lit (Value.string { data := #[] })] ++ List.drop (Int.toNat i4 + (List.length r3 - Int.toNat i4)) r3)).length : Int))) then (letV (List.take (Int.toNat i4) r3 ++ (List.replicate (List.length r3 - Int.toNat i4) [F.lit (Value.int IntKind.i64 (0 : Int)), F.lit (Value.int IntKind.i64 (0 : Int)), F.lit (Value.string { data := #[] })] ++ List.drop (Int.toNat i4 + (List.length r3 - Int.toNat i4)) r3)) (fun r6 => k (List.take (Int.toNat i4 - (0 : Nat)) (List.drop (0 : Nat) r6)))) else none) else none) (cr b) (m + 6) (cr a) i2 (IntKind.wrap IntKind.i64 (i2 + (1 : Int))))) a.length (m + 5) 0 (by omega) (by omega)
 refine Eq.trans h0 ?_
 simp only [List.drop_zero]
 rcases ixF_spec (fun c => !inB b c) a 0 with ⟨h1, h2⟩ | ⟨j, h1, h2, h3, h4⟩
 ·have h1' : ixF (fun c => !inB b c) a ((0 : Nat) : Int) = -1 := h1
  rw [h1', eT rfl, List.filter_eq_self.2 (fun c hc => by simpa using h2 c hc)]
 ·rw [h2, eF (by omega), Nat.zero_add, wP1 (by omega)]
  have hw := h4 h1
  have hft : (a.take j).filter (inB b) = a.take j := List.filter_eq_self.2 (fun c hc => by simpa using h3 c hc)
  have hfs : (a.take (j + 1)).filter (inB b) = a.take j := by
   rw [List.take_succ_eq_append_getElem h1, List.filter_append, hft, List.filter_cons]
   have : inB b a[j] = false := by simpa using hw
   simp [this]
  obtain ⟨l', i', g1, g2, g3, g4⟩ := lp36 (m + 1) (by omega) a b ha hb (fun r3 i4 => bif decide ((0 : Int) ≤ i4 ∧ i4 ≤ ((r3.length : Int))) then (bif decide ((0 : Int) ≤ i4 ∧ i4 ≤ (((List.take (Int.toNat i4) r3 ++ (List.replicate (List.length r3 - Int.toNat i4) [F.lit (Value.int IntKind.i64 (0 : Int)), F.lit (Value.int IntKind.i64 (0 : Int)), F.lit (Value.string { data := #[] })] ++ List.drop (Int.toNat i4 + (List.length r3 - Int.toNat i4)) r3)).length : Int))) then (letV (List.take (Int.toNat i4) r3 ++ (List.replicate (List.length r3 - Int.toNat i4) [F.lit (Value.int IntKind.i64 (0 : Int)), F.lit (Value.int IntKind.i64 (0 : Int)), F.lit (Value.string { data := #[] })] ++ List.drop (Int.toNat i4 + (List.length r3 - Int.toNat i4)) r3)) (fun r6 => k (List.take (Int.toNat i4 - (0 : Nat)) (List.drop (0 : Nat) r6)))) else none) else none) (a.length - (j + 1)) (m + 6) (j + 1) j a (by omega) (by omega) (by omega) rfl hfs.symm rfl
  refine Eq.trans g4 ?_
  simp only [cr_len, tN, letV, List.drop_zero, Nat.sub_zero]
  rw [dT (by omega), dT (by simp [cr_len]; omega), List.take_append_of_le_length (by simp [cr_len]; omega), List.take_take, Nat.min_self, cr_take, g3]
theorem fn11 (m : Nat) (hm : 100 ≤ m) (a b : List Cod) (ha : a.length ≤ 60) (hb : b.length ≤ 60) {R : Type} (k : Abs.Rows → Option R) : Fn11 (m + 8) (cr a) (cr b) k = k (cr (a.filter (inB b))) := by
 simp only [Fn11, fn36 m hm a b ha hb]
 have : lenOk (cr a) = true := by unfold lenOk; rw [cr_len, fRM]; exact decide_eq_true (by omega)
 rw [this]; rfl
end Go.Proofs.YtjhfbmhblpjigaaGreatDoor.Med
end
section
set_option linter.unusedVariables false
set_option linter.unusedSimpArgs false
set_option linter.unusedSectionVars false
namespace Go.Proofs.YtjhfbmhblpjigaaGreatDoor.Med
open Go Go.Abs Go.Proofs
set_option linter.unusedVariables false
set_option linter.unusedSimpArgs false
/-! numerals -/
def isD (b : UInt8) : Bool := decide (b ∈ D10)
theorem isD_rng (b : UInt8) : isD b = true ↔ 48 ≤ b.toNat ∧ b.toNat ≤ 57 := by
 unfold isD D10
 simp only [decide_eq_true_eq, List.mem_cons, List.not_mem_nil, or_false, ← UInt8.toNat_inj]
 have : ∀ n : Nat, n < 256 → (OfNat.ofNat n : UInt8).toNat = n := fun n h => by simp [UInt8.toNat_ofNat]; omega
 simp only [UInt8.reduceToNat]
 omega
def dg1 (b : UInt8) : Nat := b.toNat - 48
def dv (a : Nat) (l : List UInt8) : Nat := l.foldl (fun a b => a * 10 + dg1 b) a
theorem dv_nil (a : Nat) : dv a [] = a := by unfold dv; rw [List.foldl_nil]
theorem dv_cons (a : Nat) (b : UInt8) (r : List UInt8) : dv a (b :: r) = dv (a * 10 + (b.toNat - 48)) r := by unfold dv; rw [List.foldl_cons]; rfl
theorem dF_dv (l : List UInt8) : ∀ (a : Nat), l.all isD = true → Lib.decFrom a l = some (dv a l) := by
 induction l with
 | nil => intro a h; rw [dv_nil]; rfl
 | cons b r ih =>
  intro a h
  simp only [List.all_cons, Bool.and_eq_true] at h
  have hb := (isD_rng b).1 h.1
  rw [dv_cons, ← ih _ h.2]
  simp only [Lib.decFrom, Lib.digitVal, hb, and_self, if_true]
theorem dD_step (a d : Nat) (ha : 1 ≤ a) (hd : d < 10) : Lib.decDigits (a * 10 + d) = Lib.decDigits a ++ [UInt8.ofNat (48 + d)] := by
 rw [Lib.decDigits, dif_neg (by omega), show (a * 10 + d) / 10 = a by omega, show (a * 10 + d) % 10 = d by omega]
theorem byte_of (b : UInt8) (h : 48 ≤ b.toNat) : UInt8.ofNat (48 + (b.toNat - 48)) = b := by
 rw [show 48 + (b.toNat - 48) = b.toNat by omega]
 exact UInt8.ofNat_toNat
theorem dD_dv (r : List UInt8) : ∀ (a : Nat), 1 ≤ a → r.all isD = true → Lib.decDigits (dv a r) = Lib.decDigits a ++ r ∧ 1 ≤ dv a r := by
 induction r with
 | nil => intro a h _; rw [dv_nil]; exact ⟨by simp, h⟩
 | cons b r ih =>
  intro a h hr
  simp only [List.all_cons, Bool.and_eq_true] at hr
  have hb := (isD_rng b).1 hr.1
  obtain ⟨h1, h2⟩ := ih (a * 10 + (b.toNat - 48)) (by omega) hr.2
  rw [dv_cons]
  refine ⟨?_, h2⟩
  rw [h1, dD_step a _ h (by omega), byte_of b hb.1]
  simp
theorem dD_head : ∀ (u : Nat), 1 ≤ u → ∃ b r, Lib.decDigits u = b :: r ∧ b ≠ 48 := by
 intro u
 induction u using Nat.strongRecOn with
 | _ u ih =>
  intro h
  rw [Lib.decDigits]
  split
  ·refine ⟨_, _, rfl, fun e => ?_⟩
   have := congrArg UInt8.toNat e
   rw [UInt8.toNat_ofNat'] at this
   have h48 : (48 : UInt8).toNat = 48 := rfl
   rw [h48] at this
   omega
  ·obtain ⟨b, r, h1, h2⟩ := ih (u / 10) (by omega) (by omega)
   exact ⟨b, r ++ [UInt8.ofNat (48 + u % 10)], by rw [h1]; rfl, h2⟩
theorem dD_zero : Lib.decDigits 0 = [48] := by rw [Lib.decDigits, dif_pos (by omega)]; rfl
/-- - -/
theorem canon (l : List UInt8) (h0 : l ≠ []) (h : l.all isD = true) : Lib.decDigits (dv 0 l) = l ↔ ¬ (l.head? = some 48 ∧ l ≠ [48]) := by
 cases l with
 | nil => exact (h0 rfl).elim
 | cons b r =>
  simp only [List.all_cons, Bool.and_eq_true] at h
  have hb := (isD_rng b).1 h.1
  by_cases hz : b = 48
  ·subst hz
   simp only [List.head?_cons, true_and, ne_eq, Classical.not_not]
   constructor
   ·intro he
    rcases Nat.eq_zero_or_pos (dv 0 (48 :: r)) with h1 | h1
    ·rw [h1, dD_zero] at he; exact he.symm
    ·obtain ⟨b', r', h2, h3⟩ := dD_head _ h1
     rw [he] at h2
     cases h2
     exact (h3 rfl).elim
   ·intro he
    rw [he, dv_cons, dv_nil]
    exact dD_zero
  ·have hn : 49 ≤ b.toNat := by
    have : b.toNat ≠ 48 := fun e => hz (by rw [← UInt8.toNat_inj]; exact e)
    omega
   have h1 := (dD_dv r (0 * 10 + (b.toNat - 48)) (by omega) h.2).1
   constructor
   ·rintro _ ⟨h2, _⟩
    simp at h2
    exact hz h2
   ·intro _
    rw [dv_cons, h1]
    have h2 : 0 * 10 + (b.toNat - 48) < 10 := by omega
    rw [Lib.decDigits, dif_pos h2, show 0 * 10 + (b.toNat - 48) = b.toNat - 48 by omega, byte_of b (by omega)]
    rfl
def neg (s : List UInt8) : Bool := s.head? == some 45
def body (s : List UInt8) : List UInt8 := if neg s = true then s.tail else s
def okN (s : List UInt8) : Bool := decide (body s ≠ [] ∧ (body s).length ≤ 9 ∧ (body s).all isD = true ∧ ¬ ((body s).head? = some 48 ∧ (body s ≠ [48] ∨ neg s = true)))
def preN (s : List UInt8) : Prop := body s ≠ [] ∧ (body s).length ≤ 9 ∧ (body s).all isD = true
theorem atoi_val (s : List UInt8) (h : preN s) : Lib.atoi s = some (if neg s = true then -(dv 0 (body s) : Int) else (dv 0 (body s) : Int)) := by
 obtain ⟨h1, h2, h3⟩ := h
 have hd := dF_dv (body s) 0 h3
 have hN : Lib.decNat (body s) = some (dv 0 (body s)) := by
  unfold Lib.decNat
  rw [if_neg (by simpa using h1)]
  exact hd
 cases s with
 | nil => exact (h1 (by simp [body, neg])).elim
 | cons b r =>
  by_cases hb : b = 45
  ·subst hb
   have hn : neg (45 :: r) = true := rfl
   have hbd : body (45 :: r) = r := by simp [body, hn]
   rw [hn, if_pos rfl]
   rw [hbd] at hN ⊢
   simp only [Lib.atoi, beq_self_eq_true, if_true, hN, Option.map_some]
  ·have hn : neg (b :: r) = false := by simp [neg, hb]
   have hbd : body (b :: r) = b :: r := by simp [body, hn]
   rw [hn, if_neg (by simp)]
   rw [hbd] at hN h3 ⊢
   simp only [List.all_cons, Bool.and_eq_true] at h3
   have h4 := (isD_rng b).1 h3.1
   have h43 : b ≠ 43 := by rintro rfl; simp at h4
   simp only [Lib.atoi, beq_iff_eq, hb, h43, if_false, hN, Option.map_some]
theorem len_body (s : List UInt8) : s.length ≤ (body s).length + 1 := by
 unfold body
 split
 ·rw [List.length_tail]; omega
 ·omega
theorem atoi_ok (s : List UInt8) (h : preN s) : atoiOk (bs s) = true := by
 unfold atoiOk
 rw [bs_size, Bool.and_eq_true]
 have := len_body s
 refine ⟨decide_eq_true (by have := h.2.1; omega), ?_⟩
 show (Lib.atoi s).isSome = true
 rw [atoi_val s h]; rfl
theorem itoa_ok (s : List UInt8) (h : preN s) : itoaOk (atoiB (bs s)) = true := by
 have h1 := atoi_val s h
 have h2 := Lib.atoi_bound h1 (by have := len_body s; have := h.2.1; omega)
 have h3 : atoiB (bs s) = (if neg s = true then -(dv 0 (body s) : Int) else (dv 0 (body s) : Int)) := by
  show (Lib.atoi s).getD 0 = _
  rw [h1]; rfl
 unfold itoaOk
 rw [h3, Bool.and_eq_true]
 exact ⟨decide_eq_true (by omega), decide_eq_true (by omega)⟩
theorem itoa_back (s : List UInt8) (h : preN s) : ((itoaB (atoiB (bs s))).toList == (bs s).toList) = okN s := by
 have h1 := atoi_val s h
 have h3 : atoiB (bs s) = (if neg s = true then -(dv 0 (body s) : Int) else (dv 0 (body s) : Int)) := by
  show (Lib.atoi s).getD 0 = _
  rw [h1]; rfl
 have hit : (itoaB (atoiB (bs s))).toList = Lib.itoa (atoiB (bs s)) := bs_toList _
 rw [hit, bs_toList, h3]
 have hc := canon (body s) h.1 h.2.2
 unfold okN
 rw [Bool.eq_iff_iff, beq_iff_eq, decide_eq_true_eq]
 obtain ⟨g1, g2, g3⟩ := h
 simp only [g1, g2, g3, ne_eq, not_false_eq_true, true_and]
 cases hn : neg s with
 | false =>
  have hb : body s = s := by unfold body; rw [hn]; rfl
  rw [if_neg (by simp)]
  have : Lib.itoa (dv 0 (body s) : Int) = Lib.decDigits (dv 0 (body s)) := by
   unfold Lib.itoa
   rw [if_neg (by omega)]
   rfl
  rw [this]
  rw [hb] at hc ⊢
  rw [hc]
  simp
 | true =>
  obtain ⟨r, rfl⟩ : ∃ r, s = 45 :: r := by
   cases s with
   | nil => simp [neg] at hn
   | cons b r => simp [neg] at hn; exact ⟨r, by rw [hn]⟩
  have hb : body (45 :: r) = r := by unfold body; rw [hn]; rfl
  rw [if_pos rfl]
  rw [hb] at hc g1 g3 ⊢
  rcases Nat.eq_zero_or_pos (dv 0 r) with h0 | h0
  ·rw [h0]
   have e0 : Lib.itoa (-((0 : Nat) : Int)) = [48] := by unfold Lib.itoa; rw [if_neg (by omega)]; exact dD_zero
   rw [e0]
   constructor
   ·intro e; cases e
   ·intro hx
    exfalso
    apply hx
    refine ⟨?_, .inr rfl⟩
    cases r with
    | nil => exact (g1 rfl).elim
    | cons b r =>
     simp only [List.all_cons, Bool.and_eq_true] at g3
     have hb := (isD_rng b).1 g3.1
     by_cases hz : b = 48
     ·rw [hz]; rfl
     ·have hn9 : 49 ≤ b.toNat := by
       have : b.toNat ≠ 48 := fun e => hz (by rw [← UInt8.toNat_inj]; exact e)
       omega
      have := (dD_dv r (0 * 10 + (b.toNat - 48)) (by omega) g3.2).2
      rw [dv_cons] at h0
      rw [h0] at this
      exact absurd this (by decide)
  ·have : Lib.itoa (-(dv 0 r : Int)) = 45 :: Lib.decDigits (dv 0 r) := by
    unfold Lib.itoa
    rw [if_pos (by omega)]
    congr 2
    omega
   rw [this]
   have hne : r ≠ [48] := by rintro rfl; rw [dv_cons, dv_nil] at h0; exact absurd h0 (by decide)
   constructor
   ·intro e
    have := hc.1 (List.cons.inj e).2
    rintro ⟨h5, _⟩
    exact this ⟨h5, hne⟩
   ·intro hx
    congr 1
    exact hc.2 fun ⟨h5, _⟩ => hx ⟨h5, .inr rfl⟩
end Go.Proofs.YtjhfbmhblpjigaaGreatDoor.Med
end
section
set_option linter.unusedVariables false
set_option linter.unusedSimpArgs false
set_option linter.unusedSectionVars false
namespace Go.Proofs.YtjhfbmhblpjigaaGreatDoor.Med
open Go Go.Abs Go.Proofs
set_option linter.unusedVariables false
set_option linter.unusedSimpArgs false
/-! numbers in texts, read by both -/
theorem e45 : ({ data := #[(45 : UInt8)] } : ByteArray) = bs [45] := rfl
theorem e0 : ({ data := #[] } : ByteArray) = bs [] := rfl
theorem e32 : ({ data := #[(32 : UInt8)] } : ByteArray) = bs [32] := rfl
theorem eNL : ({ data := #[(10 : UInt8)] } : ByteArray) = bs [10] := rfl
theorem e48 : ({ data := #[(48 : UInt8)] } : ByteArray) = bs [48] := rfl
theorem e10 : ({ data := #[(48 : UInt8), (49 : UInt8), (50 : UInt8), (51 : UInt8), (52 : UInt8), (53 : UInt8), (54 : UInt8), (55 : UInt8), (56 : UInt8), (57 : UInt8)] } : ByteArray) = bs D10 := rfl
theorem fn91 (m : Nat) (s : List UInt8) {R : Type} (k : Bool → Option R) : Fn91 (m + 1) (bs s) (bs [45]) k = k (neg s) := by
 simp only [Fn91, bs_size, bs_toList]
 cases s with
 | nil => rw [dF (by simp)]; rfl
 | cons b r =>
  rw [dT (by simp; omega), dT (by simp; omega)]
  congr 1
  have : (bs (b :: r)).extract 0 (Int.toNat (([45] : List UInt8).length : Int)) = bs [b] := by rw [bs_take]; rfl
  rw [this, bs_toList]
  unfold neg
  rw [List.head?_cons]
  rw [Bool.eq_iff_iff, beq_iff_eq, beq_iff_eq]
  constructor
  ·intro h; cases h; rfl
  ·intro h; cases h; rfl
theorem bs_tail (s : List UInt8) (h : neg s = true) : (bs s).extract (Int.toNat (([45] : List UInt8).length : Int)) (bs s).size = bs (body s) := by
 have : (Int.toNat (([45] : List UInt8).length : Int)) = 1 := rfl
 rw [this, bs_drop]
 unfold body
 rw [if_pos h]
 cases s <;> rfl
theorem neg_len (s : List UInt8) (h : neg s = true) : 1 ≤ s.length := by
 cases s with
 | nil => cases h
 | cons b r => simp
theorem fn57 (m : Nat) (s : List UInt8) {R : Type} (k : ByteArray → Bool → Option R) : Fn57 (m + 3) (bs s) (bs [45]) k = k (bs (body s)) (neg s) := by
 simp only [Fn57, Fn73, fn91]
 cases h : neg s with
 | true =>
  have := neg_len s h
  have e := bs_tail s h
  rw [bs_size] at e
  simp only [bs_size, Bool.not_true, cond_false]
  rw [dT (by simp; omega), e]
 | false =>
  have : body s = s := by unfold body; rw [h]; rfl
  rw [this]; rfl
theorem fn60 (m : Nat) (s : List UInt8) {R : Type} (k : ByteArray → Option R) : Fn60 (m + 3) (bs s) (bs [45]) k = k (bs (body s)) := by
 simp only [Fn60, Fn77, fn91]
 cases h : neg s with
 | true =>
  have := neg_len s h
  have e := bs_tail s h
  rw [bs_size] at e
  simp only [bs_size, cond_true]
  rw [dT (by simp; omega), e]
 | false =>
  have : body s = s := by unfold body; rw [h]; rfl
  rw [this]; rfl
theorem isD_D (l : List UInt8) : (l.all fun b => decide (b ∈ D10)) = l.all isD := rfl
theorem isNil (l : List UInt8) : (l == ([] : List UInt8)) = decide (l = []) := by
 rw [Bool.eq_iff_iff]; simp
theorem fn43 (m : Nat) (s : List UInt8) {R : Type} (k : Int → Bool → Option R) : Fn43 (m + 4) (bs s) 9 k = k (if okN s = true then atoiB (bs s) else 0) (okN s) := by
 simp only [Fn43, e45, e0, e10, e48, fn57, bs_toList, bs_size, bs_at, arr_at]
 by_cases h1 : body s = []
 ·rw [lT (x := body s) h1]
  have : okN s = false := by unfold okN; rw [decide_eq_false]; rintro ⟨h, _⟩; exact h h1
  rw [this]; rfl
 ·rw [lF (x := body s) h1]
  by_cases h2 : (body s).length ≤ 9
  ·rw [dF (by omega)]
   have ht : trimOk (bs (body s)) (bs D10) = true := trim_ok _ _ (by omega) (by decide) (by decide)
   have hq := trim_eq (body s) D10
   have hn : (bs []).toList = [] := bs_toList []
   rw [hn, isD_D] at hq
   rw [ht]
   simp only [cond_true, hq]
   have hpos : 0 < (body s).length := by
    rcases Nat.eq_zero_or_pos (body s).length with h | h
    ·exact (h1 (List.length_eq_zero_iff.1 h)).elim
    ·exact h
   cases h3 : (body s).all isD with
   | false =>
    have : okN s = false := by unfold okN; rw [decide_eq_false]; rintro ⟨_, _, h, _⟩; rw [h3] at h; cases h
    rw [this]; rfl
   | true =>
    simp only [Bool.not_true, cond_false]
    rw [dT (by omega)]
    have hp : preN s := ⟨h1, h2, h3⟩
    obtain ⟨b, r, hbr⟩ : ∃ b r, body s = b :: r := by
     cases hb : body s with
     | nil => exact (h1 hb).elim
     | cons b r => exact ⟨b, r, rfl⟩
    have hj : ∀ (kx : Int → Bool → Option R), Jn43_4 (m + 3) kx (bs s) 0 false = kx (atoiB (bs s)) true := fun kx => by simp only [Jn43_4, atoi_ok s hp, cond_true]
    have hz : (((body s).getD (Int.toNat 0) 0).toNat : Int) = (b.toNat : Int) := by rw [hbr]; rfl
    rw [hz]
    have hok : okN s = decide (¬ (b = 48 ∧ (body s ≠ [48] ∨ neg s = true))) := by
     unfold okN
     rw [decide_eq_decide]
     simp only [h1, h2, h3, ne_eq, not_false_eq_true, true_and]
     rw [hbr]; simp
    by_cases h4 : b = 48
    ·subst h4
     rw [eT (by rfl)]
     by_cases h5 : body s = [48]
     ·rw [lnF (x := body s) h5]
      cases h6 : neg s with
      | true =>
       have : okN s = false := by rw [hok, decide_eq_false]; simp [h6]
       rw [this]; rfl
      | false =>
       have : okN s = true := by rw [hok, decide_eq_true]; simp [h6, h5]
       rw [this, if_pos rfl]
       exact hj _
     ·rw [lnT (x := body s) h5]
      have : okN s = false := by rw [hok, decide_eq_false]; simp [h5]
      rw [this]; rfl
    ·have hne : ¬ ((b.toNat : Int) = 48) := by
      intro e
      apply h4
      rw [← UInt8.toNat_inj]
      have : (48 : UInt8).toNat = 48 := rfl
      omega
     rw [eF hne]
     have : okN s = true := by rw [hok, decide_eq_true]; simp [h4]
     rw [this, if_pos rfl]
     exact hj _
  ·rw [dT (by omega)]
   have : okN s = false := by unfold okN; rw [decide_eq_false]; rintro ⟨_, h, _⟩; exact h2 h
   rw [this]; rfl
theorem fn47 (s : List UInt8) : ∃ v : Int, (okN s = true → v = atoiB (bs s)) ∧ ∀ (m : Nat) (hm : 100 ≤ m) (R : Type) (k : Int → Bool → Option R), Fn47 (m + 4) (bs s) 9 k = k v (okN s) := by
 by_cases hp : preN s
 ·obtain ⟨h1, h2, h3⟩ := hp
  refine ⟨atoiB (bs s), fun _ => rfl, fun m hm R k => ?_⟩
  simp only [Fn47, e45, e0, e10, fn60, bs_toList, bs_size]
  rw [lF (x := body s) h1, dF (by omega), fn53 m (body s) D10 (by omega) hm, isD_D, h3]
  simp only [Bool.not_true, cond_false, Jn47_4, atoi_ok s ⟨h1, h2, h3⟩, itoa_ok s ⟨h1, h2, h3⟩, cond_true, itoa_back s ⟨h1, h2, h3⟩]
 ·have hno : okN s = false := by unfold okN; rw [decide_eq_false]; rintro ⟨h1, h2, h3, _⟩; exact hp ⟨h1, h2, h3⟩
  refine ⟨0, fun h => (by rw [hno] at h; cases h), fun m hm R k => ?_⟩
  simp only [Fn47, e45, e0, e10, fn60, bs_toList, bs_size]
  by_cases h1 : body s = []
  ·rw [lT (x := body s) h1, hno]
  ·rw [lF (x := body s) h1]
   by_cases h2 : (body s).length ≤ 9
   ·rw [dF (by omega), fn53 m (body s) D10 (by omega) hm, isD_D]
    have h3 : (body s).all isD = false := by
     cases h : (body s).all isD with
     | false => rfl
     | true => exact (hp ⟨h1, h2, h⟩).elim
    rw [h3, hno]; rfl
   ·rw [dT (by omega), hno]
/-! words -/
def wd (c : ByteArray) : Abs.Rows := splitR c (bs [32])
def noNil (r : Abs.Rows) : Nat → Nat → Bool
 | 0, _ => true
 | d + 1, i => if (fS r i 0).toList = [] then false else noNil r d (i + 1)
theorem lp42 (m : Nat) (r : Abs.Rows) (hl : r.length ≤ 100000) (a : Abs.Rows) (z : Bool) {R : Type} (K : Abs.Rows → Bool → Option R) (kx1 : Option R) : ∀ (d n i : Nat), i + d = r.length → d < n →
  Lp42_3 m (fun r b _ => K r b) (fun _ => kx1) a z r r.length r.length n i = if noNil r d i = true then kx1 else K rows0 false
 | _, 0, _, _, h => by omega
 | 0, n + 1, i, h1, h2 => by
  rw [Lp42_3]
  simp only [Lp42_3_step]
  rw [dF (by omega)]
  rfl
 | d + 1, n + 1, i, h1, h2 => by
  have ih := lp42 m r hl a z K kx1 d n (i + 1) (by omega) (by omega)
  have hn : (bs []).toList = [] := bs_toList []
  rw [Lp42_3]
  simp only [Lp42_3_step, wP1 (show i ≤ 1000000 by omega), tN, e0, hn, ih, noNil, Bool.cond_eq_ite]
  grind
theorem lp76 (m : Nat) (r : Abs.Rows) (hl : r.length ≤ 100000) (z : Int) {R : Type} (k : Int → Option R) : ∀ (d n i : Nat), i + d = r.length → d < n →
  ∃ v : Int, (v ≥ 0 ↔ noNil r d i = false) ∧ Lp76_2 m (fun i _ => k i) (fun _ => k (-1)) r (bs []) z r.length n i = k v
 | _, 0, _, _, h => by omega
 | 0, n + 1, i, h1, h2 => by
  refine ⟨-1, by simp [noNil], ?_⟩
  rw [Lp76_2]
  simp only [Lp76_2_step]
  rw [dF (by omega)]
 | d + 1, n + 1, i, h1, h2 => by
  obtain ⟨v, g1, g2⟩ := lp76 m r hl z k d n (i + 1) (by omega) (by omega)
  have hn : (bs []).toList = [] := bs_toList []
  rw [Lp76_2]
  simp only [Lp76_2_step, wP1 (show i ≤ 1000000 by omega), tN, hn, g2]
  rw [dT (by omega), dT (by omega)]
  by_cases hc : (fS r i 0).toList = []
  ·refine ⟨i, ?_, ?_⟩
   ·simp only [noNil, hc, if_true]; simp
   ·rw [lT hc.symm]
  ·refine ⟨v, ?_, ?_⟩
   ·simp only [noNil, hc, if_false]; exact g1
   ·rw [lF (fun h => hc h.symm)]
theorem split_len (c : ByteArray) : (wd c).length ≤ c.size + 1 := by
 have h1 : (1 : Nat) ≤ (bs [32]).size := by decide
 have := Lib.splitB_all (bs [32]) h1 0 _ c rfl
 have h2 := Lib.countB_le (bs [32]) h1 c.size c (Nat.le_refl _)
 unfold wd splitR
 rw [List.length_map, this]
 omega
def okW (c : ByteArray) : Bool := noNil (wd c) (wd c).length 0
theorem sOk (c : ByteArray) (h : c.size ≤ 10000) : splitOk c (bs [32]) = true := by
 unfold splitOk strOk
 rw [decide_eq_true (by omega), Bool.true_and]
 decide
theorem fn42 (m : Nat) (c : ByteArray) (h : c.size ≤ 10000) (hm : 20000 ≤ m) {R : Type} (k : Abs.Rows → Bool → Option R) : Fn42 (m + 1) c k = if okW c = true then k (wd c) true else k rows0 false := by
 have hl := split_len c
 simp only [Fn42, e32, sOk c h, cond_true]
 exact lp42 m (wd c) (by omega) rows0 false k (k (wd c) true) (wd c).length m 0 (by omega) (by omega)
theorem fn46 (m : Nat) (c : ByteArray) (h : c.size ≤ 10000) (hm : 20000 ≤ m) {R : Type} (k : Abs.Rows → Bool → Option R) : Fn46 (m + 3) c k = k (wd c) (okW c) := by
 have hl := split_len c
 simp only [Fn46, e32, e0, sOk c h, cond_true, Fn59, Fn76]
 obtain ⟨v, g1, g2⟩ := lp76 m (wd c) (by omega) 0 (fun i2 => k (wd c) (!decide (i2 ≥ 0))) (wd c).length m 0 (by omega) (by omega)
 refine Eq.trans g2 ?_
 congr 1
 unfold okW
 cases hn : noNil (wd c) (wd c).length 0 with
 | true => rw [decide_eq_false (fun h => by have := g1.1 h; rw [hn] at this; cases this)]; rfl
 | false => rw [decide_eq_true (g1.2 hn)]; rfl
end Go.Proofs.YtjhfbmhblpjigaaGreatDoor.Med
end
section
set_option linter.unusedVariables false
set_option linter.unusedSimpArgs false
set_option linter.unusedSectionVars false
namespace Go.Proofs.YtjhfbmhblpjigaaGreatDoor.Med
open Go Go.Abs Go.Proofs
set_option linter.unusedVariables false
set_option linter.unusedSimpArgs false
/-! lines -/
def wB (c : ByteArray) (j : Nat) : List UInt8 := ls (fS (wd c) j 0)
def lineOk (c : ByteArray) : Bool := okW c && (decide ((wd c).length = 3) && (okN (wB c 0) && okN (wB c 2)))
def lineC (c : ByteArray) : Cod := ⟨atoiB (fS (wd c) 0 0), atoiB (fS (wd c) 2 0), wB c 1⟩
theorem fn43b (m : Nat) (s : ByteArray) {R : Type} (k : Int → Bool → Option R) : Fn43 (m + 4) s 9 k = k (if okN (ls s) = true then atoiB s else 0) (okN (ls s)) := by
 have := fn43 m (ls s) k
 rw [← bs_of s] at this
 exact this
theorem fn47b (s : ByteArray) : ∃ v : Int, (okN (ls s) = true → v = atoiB s) ∧ ∀ (m : Nat) (hm : 100 ≤ m) (R : Type) (k : Int → Bool → Option R), Fn47 (m + 4) s 9 k = k v (okN (ls s)) := by
 have := fn47 (ls s)
 rw [← bs_of s] at this
 exact this
theorem row_app (o : List Cod) (c : ByteArray) (a b : Int) : cr o ++ [[F.lit (.int .i64 a), F.lit (.int .i64 b), F.lit (.string (fS (wd c) 1 0))]] = cr (o ++ [⟨a, b, wB c 1⟩]) := by
 rw [← cr_app]
 have : bs (wB c 1) = fS (wd c) 1 0 := (bs_of _).symm
 simp only [this]
theorem fn41 (c : ByteArray) (hc : c.size ≤ 10000) (o : List Cod) (ho : o.length ≤ 100000) : ∃ j : Abs.Rows, ∀ (m : Nat) (hm : 20000 ≤ m) (R : Type) (k : Bool → Abs.Rows → Option R),
  Fn41 (m + 6) c (cr o) k = k (lineOk c) (if lineOk c = true then cr (o ++ [lineC c]) else j) := by
 cases h1 : okW c with
 | false =>
  have hl : lineOk c = false := by unfold lineOk; rw [h1]; rfl
  refine ⟨cr o, fun m hm R k => ?_⟩
  simp only [Fn41]
  rw [fn42 (m + 4) c hc (by omega), h1, hl]
  rfl
 | true =>
  by_cases h2 : (wd c).length = 3
  ·refine ⟨cr (o ++ [⟨if okN (wB c 0) = true then atoiB (fS (wd c) 0 0) else 0, if okN (wB c 2) = true then atoiB (fS (wd c) 2 0) else 0, wB c 1⟩]), fun m hm R k => ?_⟩
   simp only [Fn41]
   rw [fn42 (m + 4) c hc (by omega), h1, if_pos rfl]
   simp only [Bool.not_true, cond_false, h2]
   rw [nF (by rfl)]
   have t0 : Int.toNat 0 = 0 := rfl
   have t1 : Int.toNat 1 = 1 := rfl
   have t2 : Int.toNat 2 = 2 := rfl
   simp only [Jn41_4, h2, t0, t1, t2]
   rw [dT (by omega), fn43b, dT (by omega), fn43b, dT (by omega), dT (by rw [fRM, cr_len]; simp; omega)]
   simp only [letV, row_app]
   have e0 : ls (fS (wd c) 0 0) = wB c 0 := rfl
   have e2 : ls (fS (wd c) 2 0) = wB c 2 := rfl
   rw [e0, e2]
   unfold lineOk
   rw [h1, decide_eq_true h2, Bool.true_and, Bool.true_and]
   cases g0 : okN (wB c 0) <;> cases g2 : okN (wB c 2) <;> rfl
  ·have hl : lineOk c = false := by unfold lineOk; rw [decide_eq_false h2]; simp
   refine ⟨cr o, fun m hm R k => ?_⟩
   simp only [Fn41]
   rw [fn42 (m + 4) c hc (by omega), h1, if_pos rfl, hl]
   simp only [Bool.not_true, cond_false]
   rw [nT (by omega)]
   rfl
theorem fn45 (c : ByteArray) (hc : c.size ≤ 10000) (o : List Cod) (ho : o.length ≤ 100000) : ∃ j : Abs.Rows, ∀ (m : Nat) (hm : 20000 ≤ m) (R : Type) (k : Bool → Abs.Rows → Option R),
  Fn45 (m + 6) c (cr o) k = k (lineOk c) (if lineOk c = true then cr (o ++ [lineC c]) else j) := by
 cases h1 : okW c with
 | false =>
  have hl : lineOk c = false := by unfold lineOk; rw [h1]; rfl
  refine ⟨cr o, fun m hm R k => ?_⟩
  simp only [Fn45]
  rw [show m + 5 = (m + 2) + 3 by omega, fn46 (m + 2) c hc (by omega), h1, hl]
  rfl
 | true =>
  by_cases h2 : (wd c).length = 3
  ·obtain ⟨v0, a0, b0⟩ := fn47b (fS (wd c) 0 0)
   obtain ⟨v2, a2, b2⟩ := fn47b (fS (wd c) 2 0)
   refine ⟨cr (o ++ [⟨v0, v2, wB c 1⟩]), fun m hm R k => ?_⟩
   simp only [Fn45]
   rw [show m + 5 = (m + 2) + 3 by omega, fn46 (m + 2) c hc (by omega), h1]
   simp only [Bool.not_true, cond_false, h2]
   rw [nF (by rfl)]
   have t0 : Int.toNat 0 = 0 := rfl
   have t1 : Int.toNat 1 = 1 := rfl
   have t2 : Int.toNat 2 = 2 := rfl
   simp only [Jn45_4, h2, t0, t1, t2]
   rw [dT (by omega), show m + 2 + 3 = (m + 1) + 4 by omega, b0 (m + 1) (by omega), dT (by omega), b2 (m + 1) (by omega), dT (by omega), dT (by rw [fRM, cr_len]; simp; omega)]
   simp only [letV, row_app]
   have e0 : ls (fS (wd c) 0 0) = wB c 0 := rfl
   have e2 : ls (fS (wd c) 2 0) = wB c 2 := rfl
   rw [e0] at a0
   rw [e2] at a2
   rw [e0, e2]
   unfold lineOk
   rw [h1, decide_eq_true h2, Bool.true_and, Bool.true_and]
   cases g0 : okN (wB c 0) <;> cases g2 : okN (wB c 2) <;> first | rfl | skip
   rw [a0 g0, a2 g2]
   rfl
  ·have hl : lineOk c = false := by unfold lineOk; rw [decide_eq_false h2]; simp
   refine ⟨cr o, fun m hm R k => ?_⟩
   simp only [Fn45]
   rw [show m + 5 = (m + 2) + 3 by omega, fn46 (m + 2) c hc (by omega), h1, hl]
   simp only [Bool.not_true, cond_false]
   rw [nT (by omega)]
   rfl
end Go.Proofs.YtjhfbmhblpjigaaGreatDoor.Med
end
section
set_option linter.unusedVariables false
set_option linter.unusedSimpArgs false
set_option linter.unusedSectionVars false
namespace Go.Proofs.YtjhfbmhblpjigaaGreatDoor.Med
open Go Go.Abs Go.Proofs
set_option linter.unusedVariables false
set_option linter.unusedSimpArgs false
/-! texts, line by line -/
def rdL : Nat → ByteArray → Nat → List Cod → Nat × Bool × List Cod
 | 0, _, i, o => (i, false, o)
 | d + 1, s, i, o => if s.toList = [] then (0, true, o) else if cutOn s (bs [10]) = false then (i, false, []) else
  if lineOk (cutA s (bs [10])) = true then rdL d (cutZ s (bs [10])) (i + 1) (o ++ [lineC (cutA s (bs [10]))]) else (i, false, [])
theorem toL_nil (s : ByteArray) (h : ¬ s.toList = []) : 0 < s.size := by
 have h1 := bs_of s
 rw [h1, bs_size]
 rw [h1, bs_toList] at h
 exact List.length_pos_iff.2 h
theorem cut_on (s : ByteArray) (h : cutOn s (bs [10]) = true) : (cutZ s (bs [10])).size < s.size ∧ (cutA s (bs [10])).size ≤ s.size := by
 obtain ⟨L, rfl⟩ : ∃ L, s = bs L := ⟨_, bs_of s⟩
 have h1 : cutZ (bs L) (bs [10]) = bs (Lib.cut L [10]).2.1 := rfl
 have h2 : cutA (bs L) (bs [10]) = bs (Lib.cut L [10]).1 := rfl
 have h3 : cutOn (bs L) (bs [10]) = (Lib.cut L [10]).2.2 := rfl
 rw [h3] at h
 rw [h1, h2, bs_size, bs_size, bs_size]
 unfold Lib.cut at h ⊢
 by_cases hp : 0 ≤ Lib.index L [10]
 ·rw [if_pos hp]
  simp only [List.length_drop, List.length_take, List.length_cons, List.length_nil]
  have : L ≠ [] := by
   rintro rfl
   exact absurd hp (by decide)
  have := List.length_pos_iff.2 this
  omega
 ·rw [if_neg hp] at h; cases h
theorem lp40 : ∀ (d : Nat) (s : ByteArray) (i : Nat) (o : List Cod), s.size < d → s.size ≤ 5000 → i ≤ 10000 → i + s.size ≤ 10000 → o.length ≤ i → ∃ j : Abs.Rows, (rdL d s i o).1 ≤ 10000 ∧ ∀ (m : Nat) (hm : 20000 ≤ m) (z : Int) (b : Bool) (n : Nat) (hn : d ≤ n) (R : Type) (K : Int → Bool → Abs.Rows → Option R),
  Lp40_2 (m + 6) (fun _ i b _ r => K i b r) (fun _ _ r => K 0 true r) z b n s i (cr o) = K ((rdL d s i o).1 : Int) (rdL d s i o).2.1 (if (rdL d s i o).2.1 = true then cr (rdL d s i o).2.2 else j)
 | 0, _, _, _, h, _, _, _, _ => by omega
 | d + 1, s, i, o, h1, h2, h3, h4, h5 => by
  have hn : (bs []).toList = [] := bs_toList []
  have hso : strOk s = true := by unfold strOk; exact decide_eq_true (by omega)
  by_cases c1 : s.toList = []
  ·refine ⟨[], by simp [rdL, c1], fun m hm z b n hnn R K => ?_⟩
   obtain ⟨n, rfl⟩ : ∃ n', n = n' + 1 := ⟨n - 1, by omega⟩
   rw [Lp40_2]
   simp only [Lp40_2_step, e0, hn]
   rw [lnF c1]
   simp only [rdL, c1, if_true]
   rfl
  ·have hpos := toL_nil s c1
   cases c2 : cutOn s (bs [10]) with
   | false =>
    refine ⟨cr o, by simp [rdL, c1, c2]; omega, fun m hm z b n hnn R K => ?_⟩
    obtain ⟨n, rfl⟩ : ∃ n', n = n' + 1 := ⟨n - 1, by omega⟩
    rw [Lp40_2]
    simp only [Lp40_2_step, e0, hn, eNL]
    rw [lnT c1, hso, c2]
    simp only [rdL, c1, c2, if_true, if_false]
    rfl
   | true =>
    obtain ⟨g1, g2⟩ := cut_on s c2
    obtain ⟨j1, hj1⟩ := fn41 (cutA s (bs [10])) (by omega) o (by omega)
    cases c3 : lineOk (cutA s (bs [10])) with
    | false =>
     refine ⟨j1, by simp [rdL, c1, c2, c3]; omega, fun m hm z b n hnn R K => ?_⟩
     obtain ⟨n, rfl⟩ : ∃ n', n = n' + 1 := ⟨n - 1, by omega⟩
     rw [Lp40_2]
     simp only [Lp40_2_step, e0, hn, eNL]
     rw [lnT c1, hso, c2, hj1 m hm, c3]
     simp only [rdL, c1, c2, c3, if_true, if_false]
     rfl
    | true =>
     obtain ⟨j, hb, hj⟩ := lp40 d (cutZ s (bs [10])) (i + 1) (o ++ [lineC (cutA s (bs [10]))]) (by omega) (by omega) (by omega) (by omega) (by simp; omega)
     have hr : rdL (d + 1) s i o = rdL d (cutZ s (bs [10])) (i + 1) (o ++ [lineC (cutA s (bs [10]))]) := by simp only [rdL, c1, c2, c3, if_true, if_false]; rfl
     rw [hr]
     refine ⟨j, hb, fun m hm z b n hnn R K => ?_⟩
     obtain ⟨n, rfl⟩ : ∃ n', n = n' + 1 := ⟨n - 1, by omega⟩
     rw [Lp40_2]
     simp only [Lp40_2_step, e0, hn, eNL, wP1 (show i ≤ 1000000 by omega)]
     rw [lnT c1, hso, c2, hj1 m hm, c3]
     simp only [Bool.not_true, cond_false, cond_true, if_true]
     exact hj m hm z b n (by omega) R K
theorem fn14 (s : ByteArray) (hs : s.size ≤ 5000) : ∀ (m : Nat) (hm : 30000 ≤ m) (R : Type) (k : Abs.Rows → Int → Int → Option R),
  Fn14 (m + 8) s k = if (rdL 5001 s 0 []).2.1 = false then k rows0 ((rdL 5001 s 0 []).1 : Int) 9 else if codE (rdL 5001 s 0 []).2.2 ≠ 0 then k rows0 0 (codE (rdL 5001 s 0 []).2.2) else k (cr (rdL 5001 s 0 []).2.2) 0 0 := by
 intro m hm R k
 obtain ⟨j, hb, hj⟩ := lp40 5001 s 0 [] (by omega) hs (by omega) (by omega) (by simp)
 simp only [Fn14, Fn40]
 rw [dF (by omega)]
 have := hj m (by omega) 0 false (m + 6) (by omega) R (fun i1 b2 r3 => bif !b2 then k rows0 i1 9 else Fn10 (m + 7) r3 fun i4 => bif i4 != 0 then k rows0 0 i4 else k r3 0 0)
 refine Eq.trans this ?_
 cases hq : (rdL 5001 s 0 []).2.1 with
 | false => rfl
 | true =>
  simp only [Bool.not_true, cond_false, if_true]
  rw [show m + 7 = (m + 2) + 5 by omega, fn10 (m + 2) (by omega)]
  by_cases hc : codE (rdL 5001 s 0 []).2.2 = 0
  ·rw [nF hc, if_neg (by simp), if_neg (by omega)]
  ·rw [nT hc, if_neg (by simp), if_pos hc]
theorem lp44 : ∀ (d : Nat) (s : ByteArray) (i : Nat) (o : List Cod), s.size < d → s.size ≤ 5000 → i ≤ 10000 → i + s.size ≤ 10000 → o.length ≤ i → ∃ j : Abs.Rows, (rdL d s i o).1 ≤ 10000 ∧ ∀ (m : Nat) (hm : 20000 ≤ m) (z : Int) (b : Bool) (n : Nat) (hn : d ≤ n) (R : Type) (K : Int → Bool → Abs.Rows → Option R),
  Lp44_2 (m + 6) (fun _ i b _ r => K i b r) (fun _ _ r => K 0 true r) z b n s i (cr o) = K ((rdL d s i o).1 : Int) (rdL d s i o).2.1 (if (rdL d s i o).2.1 = true then cr (rdL d s i o).2.2 else j)
 | 0, _, _, _, h, _, _, _, _ => by omega
 | d + 1, s, i, o, h1, h2, h3, h4, h5 => by
  have hn : (bs []).toList = [] := bs_toList []
  have hso : strOk s = true := by unfold strOk; exact decide_eq_true (by omega)
  by_cases c1 : s.toList = []
  ·refine ⟨[], by simp [rdL, c1], fun m hm z b n hnn R K => ?_⟩
   obtain ⟨n, rfl⟩ : ∃ n', n = n' + 1 := ⟨n - 1, by omega⟩
   rw [Lp44_2]
   simp only [Lp44_2_step, e0, hn]
   rw [lnF c1]
   simp only [rdL, c1, if_true]
   rfl
  ·have hpos := toL_nil s c1
   cases c2 : cutOn s (bs [10]) with
   | false =>
    refine ⟨cr o, by simp [rdL, c1, c2]; omega, fun m hm z b n hnn R K => ?_⟩
    obtain ⟨n, rfl⟩ : ∃ n', n = n' + 1 := ⟨n - 1, by omega⟩
    rw [Lp44_2]
    simp only [Lp44_2_step, e0, hn, eNL]
    rw [lnT c1, hso, c2]
    simp only [rdL, c1, c2, if_true, if_false]
    rfl
   | true =>
    obtain ⟨g1, g2⟩ := cut_on s c2
    obtain ⟨j1, hj1⟩ := fn45 (cutA s (bs [10])) (by omega) o (by omega)
    cases c3 : lineOk (cutA s (bs [10])) with
    | false =>
     refine ⟨j1, by simp [rdL, c1, c2, c3]; omega, fun m hm z b n hnn R K => ?_⟩
     obtain ⟨n, rfl⟩ : ∃ n', n = n' + 1 := ⟨n - 1, by omega⟩
     rw [Lp44_2]
     simp only [Lp44_2_step, e0, hn, eNL]
     rw [lnT c1, hso, c2, hj1 m hm, c3]
     simp only [rdL, c1, c2, c3, if_true, if_false]
     rfl
    | true =>
     obtain ⟨j, hb, hj⟩ := lp44 d (cutZ s (bs [10])) (i + 1) (o ++ [lineC (cutA s (bs [10]))]) (by omega) (by omega) (by omega) (by omega) (by simp; omega)
     have hr : rdL (d + 1) s i o = rdL d (cutZ s (bs [10])) (i + 1) (o ++ [lineC (cutA s (bs [10]))]) := by simp only [rdL, c1, c2, c3, if_true, if_false]; rfl
     rw [hr]
     refine ⟨j, hb, fun m hm z b n hnn R K => ?_⟩
     obtain ⟨n, rfl⟩ : ∃ n', n = n' + 1 := ⟨n - 1, by omega⟩
     rw [Lp44_2]
     simp only [Lp44_2_step, e0, hn, eNL, wP1 (show i ≤ 1000000 by omega)]
     rw [lnT c1, hso, c2, hj1 m hm, c3]
     simp only [Bool.not_true, cond_false, cond_true, if_true]
     exact hj m hm z b n (by omega) R K
theorem fn15 (s : ByteArray) (hs : s.size ≤ 5000) : ∀ (m : Nat) (hm : 30000 ≤ m) (R : Type) (k : Abs.Rows → Int → Int → Option R),
  Fn15 (m + 8) s k = if (rdL 5001 s 0 []).2.1 = false then k rows0 ((rdL 5001 s 0 []).1 : Int) 9 else if codE (rdL 5001 s 0 []).2.2 ≠ 0 then k rows0 0 (codE (rdL 5001 s 0 []).2.2) else k (cr (rdL 5001 s 0 []).2.2) 0 0 := by
 intro m hm R k
 obtain ⟨j, hb, hj⟩ := lp44 5001 s 0 [] (by omega) hs (by omega) (by omega) (by simp)
 simp only [Fn15, Fn44]
 rw [dF (by omega)]
 have := hj m (by omega) 0 false (m + 6) (by omega) R (fun i1 b2 r3 => bif !b2 then k rows0 i1 9 else Fn8 (m + 7) r3 fun i4 => bif i4 != 0 then k rows0 0 i4 else k r3 0 0)
 refine Eq.trans this ?_
 cases hq : (rdL 5001 s 0 []).2.1 with
 | false => rfl
 | true =>
  simp only [Bool.not_true, cond_false, if_true]
  rw [show m + 7 = (m + 2) + 5 by omega, fn8 (m + 2) (by omega)]
  by_cases hc : codE (rdL 5001 s 0 []).2.2 = 0
  ·rw [nF hc, if_neg (by simp), if_neg (by omega)]
  ·rw [nT hc, if_neg (by simp), if_pos hc]
end Go.Proofs.YtjhfbmhblpjigaaGreatDoor.Med
end
section
set_option linter.unusedVariables false
set_option linter.unusedSimpArgs false
set_option linter.unusedSectionVars false
namespace Go.Proofs.YtjhfbmhblpjigaaGreatDoor.Med
open Go Go.Abs Go.Proofs
set_option linter.unusedVariables false
set_option linter.unusedSimpArgs false
/-! codecs are written -/
theorem sMx : strMax = 1099511627776 := rfl
def gdC (c : Cod) : Prop := -4000000000000 ≤ c.t ∧ c.t ≤ 4000000000000 ∧ -4000000000000 ≤ c.n ∧ c.n ≤ 4000000000000 ∧ c.s.length ≤ 40
def lineT (c : Cod) : List UInt8 := Lib.itoa c.t ++ [32] ++ c.s ++ [32] ++ Lib.itoa c.n ++ [10]
def offT : List Cod → List UInt8
 | [] => []
 | c :: l => lineT c ++ offT l
theorem itB (n : Int) : itoaB n = bs (Lib.itoa n) := rfl
theorem itK (n : Int) (h : -4000000000000 ≤ n ∧ n ≤ 4000000000000) : itoaOk n = true := by unfold itoaOk; rw [decide_eq_true (by omega), decide_eq_true (by omega)]; rfl
theorem itL (n : Int) (h : -4000000000000 ≤ n ∧ n ≤ 4000000000000) : (Lib.itoa n).length ≤ 21 := Lib.itoa_length_le n (by omega) (by omega)
theorem lineT_len (c : Cod) (h : gdC c) : (lineT c).length ≤ 90 := by
 obtain ⟨h1, h2, h3, h4, h5⟩ := h
 have a := itL c.t ⟨h1, h2⟩
 have b := itL c.n ⟨h3, h4⟩
 unfold lineT
 simp only [List.length_append, List.length_cons, List.length_nil]
 omega
theorem offT_len : ∀ (l : List Cod), (∀ c ∈ l, gdC c) → (offT l).length ≤ 90 * l.length
 | [], _ => by simp [offT]
 | c :: l, h => by
  have h1 := lineT_len c (h c (by simp))
  have h2 := offT_len l fun c hc => h c (by simp [hc])
  simp only [offT, List.length_append, List.length_cons]
  omega
theorem lp13 (m : Nat) (l : List Cod) (hl : l.length ≤ 60) (hg : ∀ c ∈ l, gdC c) {R : Type} (k : ByteArray → Option R) : ∀ (d n i : Nat) (p : List UInt8), i + d = l.length → d < n → p.length ≤ 1000 * i →
  Lp13_3 m (fun s _ => k s) (cr l) (cr l) l.length n (bs p) i = k (bs (p ++ offT (l.drop i)))
 | _, 0, _, _, _, h, _ => by omega
 | 0, n + 1, i, p, h1, h2, h3 => by
  rw [Lp13_3]
  simp only [Lp13_3_step]
  rw [dF (by omega), List.drop_eq_nil_of_le (by omega)]
  simp [offT]
 | d + 1, n + 1, i, p, h1, h2, h3 => by
  have hi : i < l.length := by omega
  have hc := hg l[i] (List.getElem_mem hi)
  have hlen := lineT_len _ hc
  have ih := lp13 m l hl hg k d n (i + 1) (p ++ lineT l[i]) (by omega) (by omega) (by rw [List.length_append]; omega)
  obtain ⟨g1, g2, g3, g4, g5⟩ := hc
  have a1 := itL _ ⟨g1, g2⟩
  have a2 := itL _ ⟨g3, g4⟩
  rw [Lp13_3]
  simp only [Lp13_3_step, wP1 (show i ≤ 1000000 by omega), tN, cr_t hi, cr_n hi, cr_s hi, cr_len, e32, eNL, itB, itK _ ⟨g1, g2⟩, itK _ ⟨g3, g4⟩, letV, bs_app, bs_size, List.length_append, List.length_cons, List.length_nil, cond_true, sMx]
  rw [dT (by omega), dT (by omega), dT (by omega), dT (by omega), dT (by omega), dT (by omega), dT (by omega), dT (by omega)]
  refine Eq.trans ih ?_
  rw [List.drop_eq_getElem_cons hi]
  simp only [offT, List.append_assoc]
theorem lp7 (m : Nat) (l : List Cod) (hl : l.length ≤ 60) (hg : ∀ c ∈ l, gdC c) {R : Type} (k : ByteArray → Option R) : ∀ (d n i : Nat) (p : List UInt8), i + d = l.length → d < n → p.length ≤ 1000 * i →
  Lp7_7 m (fun s _ => k s) (cr l) (cr l) l.length n (bs p) i = k (bs (p ++ offT (l.drop i)))
 | _, 0, _, _, _, h, _ => by omega
 | 0, n + 1, i, p, h1, h2, h3 => by
  rw [Lp7_7]
  simp only [Lp7_7_step]
  rw [dF (by omega), List.drop_eq_nil_of_le (by omega)]
  simp [offT]
 | d + 1, n + 1, i, p, h1, h2, h3 => by
  have hi : i < l.length := by omega
  have hc := hg l[i] (List.getElem_mem hi)
  have hlen := lineT_len _ hc
  have ih := lp7 m l hl hg k d n (i + 1) (p ++ lineT l[i]) (by omega) (by omega) (by rw [List.length_append]; omega)
  obtain ⟨g1, g2, g3, g4, g5⟩ := hc
  have a1 := itL _ ⟨g1, g2⟩
  have a2 := itL _ ⟨g3, g4⟩
  rw [Lp7_7]
  simp only [Lp7_7_step, wP1 (show i ≤ 1000000 by omega), tN, cr_t hi, cr_n hi, cr_s hi, cr_len, e32, eNL, itB, itK _ ⟨g1, g2⟩, itK _ ⟨g3, g4⟩, letV, bs_app, bs_size, List.length_append, List.length_cons, List.length_nil, cond_true, sMx]
  rw [dT (by omega), dT (by omega), dT (by omega), dT (by omega), dT (by omega), dT (by omega), dT (by omega), dT (by omega)]
  refine Eq.trans ih ?_
  rw [List.drop_eq_getElem_cons hi]
  simp only [offT, List.append_assoc]
theorem fn13 (m : Nat) (hm : 100 ≤ m) (l : List Cod) (hl : l.length ≤ 60) (hg : ∀ c ∈ l, gdC c) {R : Type} (k : ByteArray → Option R) : Fn13 (m + 1) (cr l) k = k (bs (offT l)) := by
 simp only [Fn13, cr_len, e0]
 exact lp13 m l hl hg k l.length m 0 [] (by omega) (by omega) (by simp)
theorem fn7 (m : Nat) (hm : 100 ≤ m) (l : List Cod) (hg : ∀ c ∈ l, gdC c) {R : Type} (k : ByteArray → Int → Option R) : Fn7 (m + 6) (cr l) k = if codE l ≠ 0 then k (bs []) (codE l) else k (bs (offT l)) 0 := by
 simp only [Fn7, fn10 m hm, e0]
 by_cases h : codE l = 0
 ·rw [nF h, if_neg (by omega)]
  have hl : l.length ≤ 20 := by unfold codE at h; split at h <;> omega
  simp only [cr_len]
  exact lp7 (m + 5) l (by omega) hg (fun s => k s 0) l.length (m + 5) 0 [] (by omega) (by omega) (by simp)
 ·rw [nT h, if_pos h]
end Go.Proofs.YtjhfbmhblpjigaaGreatDoor.Med
end
section
set_option linter.unusedVariables false
set_option linter.unusedSimpArgs false
set_option linter.unusedSectionVars false
namespace Go.Proofs.YtjhfbmhblpjigaaGreatDoor.Med
open Go Go.Abs Go.Proofs
set_option linter.unusedVariables false
set_option linter.unusedSimpArgs false
/-! codecs that are drawn -/
theorem row_cr (o : List Cod) (a b : Int) (s : ByteArray) : cr o ++ [[F.lit (.int .i64 a), F.lit (.int .i64 b), F.lit (.string s)]] = cr (o ++ [⟨a, b, ls s⟩]) := by
 rw [← cr_app]
abbrev i1 (a : Int) : List F := [F.lit (.int .i64 a)]
theorem pk3 (q : Abs.Rows) (i a b c lo hi : Int) (h : lo ≤ a ∧ a ≤ hi ∧ lo ≤ b ∧ b ≤ hi ∧ lo ≤ c ∧ c ≤ hi) : lo ≤ pk [i1 a, i1 b, i1 c] q i ∧ pk [i1 a, i1 b, i1 c] q i ≤ hi := by
 refine pk_all (P := fun x => lo ≤ x ∧ x ≤ hi) _ q i (by simp) fun j hj => ?_
 match j, hj with
 | 0, _ => exact ⟨h.1, h.2.1⟩
 | 1, _ => exact ⟨h.2.2.1, h.2.2.2.1⟩
 | 2, _ => exact h.2.2.2.2
def od (q : Abs.Rows) (i lo hi : Int) : Int := if nx q i % 12 = 0 then pk [i1 (lo - 1), i1 (hi + 1), i1 lo, i1 hi, i1 (-1099511627776), i1 1099511627776] q (i + 1) else lo + nx q (i + 1) % (hi - lo + 1)
theorem od_rng (q : Abs.Rows) (i lo hi : Int) (h1 : -500000000 ≤ lo) (h2 : hi ≤ 500000000) (h3 : lo ≤ hi) : -4000000000000 ≤ od q i lo hi ∧ od q i lo hi ≤ 4000000000000 := by
 unfold od
 split
 ·refine pk_all (P := fun x => -4000000000000 ≤ x ∧ x ≤ 4000000000000) _ q (i + 1) (by simp) fun j hj => ?_
  match j, hj with
  | 0, _ => show -4000000000000 ≤ lo - 1 ∧ lo - 1 ≤ 4000000000000; omega
  | 1, _ => show -4000000000000 ≤ hi + 1 ∧ hi + 1 ≤ 4000000000000; omega
  | 2, _ => show -4000000000000 ≤ lo ∧ lo ≤ 4000000000000; omega
  | 3, _ => show -4000000000000 ≤ hi ∧ hi ≤ 4000000000000; omega
  | 4, _ => show (-4000000000000 : Int) ≤ -1099511627776 ∧ (-1099511627776 : Int) ≤ 4000000000000; omega
  | 5, _ => show (-4000000000000 : Int) ≤ 1099511627776 ∧ (1099511627776 : Int) ≤ 4000000000000; omega
 ·have h4 := Int.emod_nonneg (nx q (i + 1)) (show hi - lo + 1 ≠ 0 by omega)
  have h5 := Int.emod_lt_of_pos (nx q (i + 1)) (show 0 < hi - lo + 1 by omega)
  omega
theorem fn20 (m : Nat) (q : Abs.Rows) {i lo hi : Int} (h0 : 0 ≤ i) (h1 : i ≤ 1000000) (hl : -500000000 ≤ lo) (hh : hi ≤ 500000000) (hlh : lo ≤ hi) {R : Type} (k : Int → Int → Option R) : Fn20 (m + 4) q i lo hi k = k (od q i lo hi) (i + 1 + 1) := by
 simp only [Fn20, w64 (x := lo - 1) (by omega) (by omega), w64 (x := hi + 1) (by omega) (by omega)]
 unfold od
 by_cases c : nx q i % 12 = 0
 ·rw [gn19 m q h0 (by omega) (by omega) (by omega), eT c, gn22 m q _ (by omega) (by omega) (by simp) (by simp), if_pos c]
 ·rw [gn19 m q h0 (by omega) (by omega) (by omega), eF c, gn50 m q (by omega) (by omega) (by omega) (by omega) hlh, if_neg c]
abbrev s1 (l : List UInt8) : List F := [F.lit (.string (bs l))]
theorem pkS3 (q : Abs.Rows) (i : Int) (a b c : List UInt8) (h : a.length ≤ 40 ∧ b.length ≤ 40 ∧ c.length ≤ 40) : (ls (pkS [s1 a, s1 b, s1 c] q i)).length ≤ 40 := by
 refine pkS_all (P := fun x => (ls x).length ≤ 40) _ q i (by simp) fun j hj => ?_
 match j, hj with
 | 0, _ => show (ls (bs a)).length ≤ 40; rw [ls_bs]; exact h.1
 | 1, _ => show (ls (bs b)).length ≤ 40; rw [ls_bs]; exact h.2.1
 | 2, _ => show (ls (bs c)).length ≤ 40; rw [ls_bs]; exact h.2.2
def tys : Abs.Rows := [i1 0, i1 8, i1 9, i1 96]
theorem tys_rng (j : Nat) (h : j < 4) : 0 ≤ fI tys j 0 ∧ fI tys j 0 ≤ 96 := by
 match j, h with
 | 0, _ => show (0 : Int) ≤ 0 ∧ (0 : Int) ≤ 96; omega
 | 1, _ => show (0 : Int) ≤ 8 ∧ (8 : Int) ≤ 96; omega
 | 2, _ => show (0 : Int) ≤ 9 ∧ (9 : Int) ≤ 96; omega
 | 3, _ => show (0 : Int) ≤ 96 ∧ (96 : Int) ≤ 96; omega
def drawn (q : Abs.Rows) (j : Nat) (i : Int) : Cod := ⟨pk [i1 (fI tys j 0), i1 (fI tys j 0), i1 (fI tys j 0 + 1)] q i, pk [i1 8000, i1 8000, i1 16000] q (i + 1 + 1), ls (pkS [s1 [109, 117], s1 [97], s1 [119, 105, 100, 101]] q (i + 1))⟩
theorem drawn_gd (q : Abs.Rows) (j : Nat) (hj : j < 4) (i : Int) : gdC (drawn q j i) := by
 have h1 := tys_rng j hj
 have h2 := pk3 q i (fI tys j 0) (fI tys j 0) (fI tys j 0 + 1) 0 97 (by omega)
 have h3 := pk3 q (i + 1 + 1) 8000 8000 16000 0 16000 (by omega)
 have h4 := pkS3 q (i + 1) [109, 117] [97] [119, 105, 100, 101] (by simp)
 unfold gdC drawn
 refine ⟨?_, ?_, ?_, ?_, h4⟩
 ·show -4000000000000 ≤ pk _ q i; omega
 ·show pk _ q i ≤ 4000000000000; omega
 ·show -4000000000000 ≤ pk _ q (i + 1 + 1); omega
 ·show pk _ q (i + 1 + 1) ≤ 4000000000000; omega
theorem lp18 (q : Abs.Rows) : ∀ (d j : Nat) (i : Int) (o : List Cod), j + d = 4 → (∀ c ∈ o, gdC c) → o.length ≤ j → 0 ≤ i → i + 10 * d ≤ 900000 →
  ∃ (o' : List Cod) (i' : Int), (∀ c ∈ o', gdC c) ∧ o'.length ≤ 4 ∧ i ≤ i' ∧ i' ≤ i + 4 * d ∧ ∀ (m : Nat) (hm : 200 ≤ m) (n : Nat) (hn : d < n) (R : Type) (K : Abs.Rows → Int → Option R), Lp18_3 (m + 6) (fun r _ i => K r i) tys 4 q n (cr o) j i = K (cr o') i'
 | 0, j, i, o, h1, h3, h4, h5, h6 => by
  refine ⟨o, i, h3, by omega, by omega, by omega, fun m hm n hn R K => ?_⟩
  obtain ⟨n, rfl⟩ : ∃ n', n = n' + 1 := ⟨n - 1, by omega⟩
  rw [Lp18_3]
  simp only [Lp18_3_step]
  rw [dF (by omega)]
 | d + 1, j, i, o, h1, h3, h4, h5, h6 => by
  have hj : j < 4 := by omega
  have hr := tys_rng j hj
  have hgd := drawn_gd q j hj i
  have step : ∀ (m : Nat) (hm : 200 ≤ m) (n : Nat) (R : Type) (K : Abs.Rows → Int → Option R), Lp18_3 (m + 6) (fun r _ i => K r i) tys 4 q (n + 1) (cr o) j i =
    (bif !(nx q (i + 1 + 1 + 1) % 3 == 0) then (bif codE (o ++ [drawn q j i]) == 0 then Lp18_3 (m + 6) (fun r _ i => K r i) tys 4 q n (cr (o ++ [drawn q j i])) ((j + 1 : Nat) : Int) (i + 1 + 1 + 1 + 1) else Lp18_3 (m + 6) (fun r _ i => K r i) tys 4 q n (cr o) ((j + 1 : Nat) : Int) (i + 1 + 1 + 1 + 1)) else Lp18_3 (m + 6) (fun r _ i => K r i) tys 4 q n (cr o) ((j + 1 : Nat) : Int) (i + 1 + 1 + 1 + 1)) := fun m hm n R K => by
   rw [Lp18_3]
   simp only [Lp18_3_step, wP1 (show j ≤ 1000000 by omega), tN, w64 (x := fI tys j 0 + 1) (by omega) (by omega)]
   have hlo : lenOk (cr o) = true := by unfold lenOk; rw [cr_len, fRM]; exact decide_eq_true (by omega)
   rw [dT (by omega), dT (show (0 : Int) ≤ j ∧ (j : Int) < (tys.length : Int) by show (0 : Int) ≤ j ∧ (j : Int) < 4; omega), gn22 (m + 3) q _ (by omega) (by omega) (by simp) (by simp), gn21 (m + 3) q _ (by omega) (by omega) (by simp) (by simp), gn22 (m + 3) q _ (by omega) (by omega) (by simp) (by simp), gn19 (m + 3) q (by omega) (by omega) (by omega) (by omega), hlo]
   simp only [cond_true]
   rw [dT (by rw [fRM, cr_len]; simp; omega)]
   simp only [letV, row_cr]
   rw [show m + 6 = (m + 1) + 5 by omega, fn8 (m + 1) (by omega), dT (by rw [fRM, cr_len]; simp; omega)]
   rfl
  by_cases c1 : nx q (i + 1 + 1 + 1) % 3 = 0
  ·obtain ⟨o', i', g1, g2, g3, g4, g5⟩ := lp18 q d (j + 1) (i + 1 + 1 + 1 + 1) o (by omega) h3 (by omega) (by omega) (by omega)
   refine ⟨o', i', g1, g2, by omega, by omega, fun m hm n hn R K => ?_⟩
   obtain ⟨n, rfl⟩ : ∃ n', n = n' + 1 := ⟨n - 1, by omega⟩
   rw [step m hm n R K]
   have : (nx q (i + 1 + 1 + 1) % 3 == 0) = true := by simpa using c1
   rw [this]
   exact g5 m hm n (by omega) R K
  ·have hf : (nx q (i + 1 + 1 + 1) % 3 == 0) = false := by simpa using c1
   by_cases c2 : codE (o ++ [drawn q j i]) = 0
   ·obtain ⟨o', i', g1, g2, g3, g4, g5⟩ := lp18 q d (j + 1) (i + 1 + 1 + 1 + 1) (o ++ [drawn q j i]) (by omega) (by
     intro c hc
     rcases List.mem_append.1 hc with hc | hc
     ·exact h3 c hc
     ·rw [List.mem_singleton.1 hc]; exact hgd) (by simp; omega) (by omega) (by omega)
    refine ⟨o', i', g1, g2, by omega, by omega, fun m hm n hn R K => ?_⟩
    obtain ⟨n, rfl⟩ : ∃ n', n = n' + 1 := ⟨n - 1, by omega⟩
    rw [step m hm n R K, hf, eT c2]
    exact g5 m hm n (by omega) R K
   ·obtain ⟨o', i', g1, g2, g3, g4, g5⟩ := lp18 q d (j + 1) (i + 1 + 1 + 1 + 1) o (by omega) h3 (by omega) (by omega) (by omega)
    refine ⟨o', i', g1, g2, by omega, by omega, fun m hm n hn R K => ?_⟩
    obtain ⟨n, rfl⟩ : ∃ n', n = n' + 1 := ⟨n - 1, by omega⟩
    rw [step m hm n R K, hf, eF c2]
    exact g5 m hm n (by omega) R K
theorem fn18 (q : Abs.Rows) (i : Int) (h0 : 0 ≤ i) (h1 : i ≤ 500000) : ∃ (o : List Cod) (i' : Int), (∀ c ∈ o, gdC c) ∧ o.length ≤ 4 ∧ i ≤ i' ∧ i' ≤ i + 16 ∧ ∀ (m : Nat) (hm : 200 ≤ m) (R : Type) (k : Abs.Rows → Int → Option R), Fn18 (m + 7) q i k = k (cr o) i' := by
 obtain ⟨o, i', g1, g2, g3, g4, g5⟩ := lp18 q 4 0 i [] (by omega) (by simp) (by simp) h0 (by omega)
 refine ⟨o, i', g1, g2, g3, by omega, fun m hm R k => ?_⟩
 simp only [Fn18]
 exact g5 m hm (m + 6) (by omega) R k
theorem fn4 (q : Abs.Rows) (i : Int) (h0 : 0 ≤ i) (h1 : i ≤ 400000) : ∃ (o : List Cod) (i' : Int), (∀ c ∈ o, gdC c) ∧ o.length ≤ 5 ∧ i ≤ i' ∧ i' ≤ i + 40 ∧ ∀ (m : Nat) (hm : 200 ≤ m) (R : Type) (k : Abs.Rows → Int → Option R), Fn4 (m + 8) q i k = k (cr o) i' := by
 obtain ⟨o, i', g1, g2, g3, g4, g5⟩ := fn18 q i h0 (by omega)
 by_cases c : nx q i' % 10 = 0
 ·have b1 := od_rng q (i' + 1) 0 127 (by omega) (by omega) (by omega)
  have b2 := od_rng q (i' + 1 + 1 + 1 + 1) 1000 96000 (by omega) (by omega) (by omega)
  have b3 := pkS3 q (i' + 1 + 1 + 1) [109, 117] [] [65] (by simp)
  refine ⟨o ++ [⟨od q (i' + 1) 0 127, od q (i' + 1 + 1 + 1 + 1) 1000 96000, ls (pkS [s1 [109, 117], s1 [], s1 [65]] q (i' + 1 + 1 + 1))⟩], i' + 1 + 1 + 1 + 1 + 1 + 1, ?_, by simp; omega, by omega, by omega, fun m hm R k => ?_⟩
  ·intro x hx
   rcases List.mem_append.1 hx with hx | hx
   ·exact g1 x hx
   ·rw [List.mem_singleton.1 hx]
    exact ⟨b1.1, b1.2, b2.1, b2.2, b3⟩
  ·simp only [Fn4]
   rw [g5 m hm, gn19 (m + 4) q (by omega) (by omega) (by omega) (by omega), eT c, fn20 (m + 3) q (by omega) (by omega) (by omega) (by omega) (by omega), gn21 (m + 4) q _ (by omega) (by omega) (by simp) (by simp), fn20 (m + 3) q (by omega) (by omega) (by omega) (by omega) (by omega), dT (by rw [fRM, cr_len]; simp; omega)]
   simp only [letV, row_cr]
 ·refine ⟨o, i' + 1, g1, by omega, by omega, by omega, fun m hm R k => ?_⟩
  simp only [Fn4]
  rw [g5 m hm, gn19 (m + 4) q (by omega) (by omega) (by omega) (by omega), eF c]
end Go.Proofs.YtjhfbmhblpjigaaGreatDoor.Med
end
section
set_option linter.unusedVariables false
set_option linter.unusedSimpArgs false
set_option linter.unusedSectionVars false
namespace Go.Proofs.YtjhfbmhblpjigaaGreatDoor.Med
open Go Go.Abs Go.Proofs
set_option linter.unusedVariables false
set_option linter.unusedSimpArgs false
/-! a text that is changed -/
theorem enc7 {j : Nat} (hj : j < 7) : ∃ c : UInt8, Utf8.encode (IntKind.wrap IntKind.i32 (((UInt8.toNat (Array.getD ({ data := #[(32 : UInt8), (10 : UInt8), (48 : UInt8), (45 : UInt8), (57 : UInt8), (109 : UInt8), (117 : UInt8)] } : ByteArray).data j (0 : UInt8)) : Nat)) : Int)) = bs [c] := by
 rcases (show j = 0 ∨ j = 1 ∨ j = 2 ∨ j = 3 ∨ j = 4 ∨ j = 5 ∨ j = 6 by omega) with rfl | rfl | rfl | rfl | rfl | rfl | rfl
 ·exact ⟨32, by kernel_rfl⟩
 ·exact ⟨10, by kernel_rfl⟩
 ·exact ⟨48, by kernel_rfl⟩
 ·exact ⟨45, by kernel_rfl⟩
 ·exact ⟨57, by kernel_rfl⟩
 ·exact ⟨109, by kernel_rfl⟩
 ·exact ⟨117, by kernel_rfl⟩
theorem fn23 (q : Abs.Rows) (l : List UInt8) (hl : l.length ≤ 2000) {i : Int} (h0 : 0 ≤ i) (h1 : i ≤ 2000) : ∃ (s : List UInt8) (i' : Int), s.length ≤ l.length + 10 ∧ i ≤ i' ∧ i' ≤ i + 3 ∧ ∀ (m : Nat) (R : Type) (k : ByteArray → Int → Option R), Fn23 (m + 4) q i (bs l) { data := #[(32 : UInt8), (10 : UInt8), (48 : UInt8), (45 : UInt8), (57 : UInt8), (109 : UInt8), (117 : UInt8)] } k = k (bs s) i' := by
 by_cases hn : l = []
 ·refine ⟨[32, 10, 48, 45, 57, 109, 117], i, by simp, by omega, by omega, fun m R k => ?_⟩
  simp only [Fn23]
  exact lT (y := (bs []).toList) (by rw [bs_toList, bs_toList]; exact hn)
 ·have hlen : 0 < l.length := by
   rcases Nat.eq_zero_or_pos l.length with h | h
   ·exact (hn (List.length_eq_zero_iff.1 h)).elim
   ·exact h
  have b1 := Int.emod_nonneg (nx q i) (show (l.length : Int) ≠ 0 by omega)
  have b2 := Int.emod_lt_of_pos (nx q i) (show (0 : Int) < (l.length : Int) by omega)
  have b3 := Int.emod_nonneg (nx q (i + 1)) (show (7 : Int) ≠ 0 by omega)
  have b4 := Int.emod_lt_of_pos (nx q (i + 1)) (show (0 : Int) < 7 by omega)
  have b5 := Int.emod_nonneg (nx q (i + 2)) (show (3 : Int) ≠ 0 by omega)
  have b6 := Int.emod_lt_of_pos (nx q (i + 2)) (show (0 : Int) < 3 by omega)
  obtain ⟨P, hP⟩ := Int.eq_ofNat_of_zero_le b1
  obtain ⟨J, hJ⟩ := Int.eq_ofNat_of_zero_le b3
  obtain ⟨c, hc⟩ := enc7 (j := J) (by omega)
  have nP : Int.toNat (P : Int) = P := by omega
  have eP : IntKind.wrap .i64 ((P : Int) + 1) = ((P + 1 : Nat) : Int) := by rw [w64 (by omega) (by omega)]; omega
  have nP1 : Int.toNat ((P + 1 : Nat) : Int) = P + 1 := by omega
  have t1 : (l.take P).length ≤ l.length := by simp; omega
  have t2 : (l.drop P).length ≤ l.length := by simp
  have t3 : (l.drop (P + 1)).length ≤ l.length := by simp
  have S7 : ((([32, 10, 48, 45, 57, 109, 117] : List UInt8).length : Nat) : Int) = 7 := rfl
  have hc' : Utf8.encode (IntKind.wrap IntKind.i32 (((UInt8.toNat (Array.getD (#[32, 10, 48, 45, 57, 109, 117] : Array UInt8) J (0 : UInt8)) : Nat)) : Int)) = bs [c] := hc
  have key : ∃ (s : List UInt8), s.length ≤ l.length + 10 ∧ ∀ (m : Nat) (R : Type) (k : ByteArray → Int → Option R), Jn23_3 (m + 3) k (bs l) { data := #[(32 : UInt8), (10 : UInt8), (48 : UInt8), (45 : UInt8), (57 : UInt8), (109 : UInt8), (117 : UInt8)] } { data := #[] } q i = k (bs s) (i + 3) := by
   have base : ∀ (m : Nat) (R : Type) (k : ByteArray → Int → Option R) (v : Option R), True := fun _ _ _ _ => trivial
   by_cases c0 : nx q (i + 2) % 3 = 0
   ·refine ⟨l.take P ++ [c] ++ l.drop (P + 1), by rw [List.length_append, List.length_append]; simp only [List.length_cons, List.length_nil]; simp; omega, fun m R k => ?_⟩
    simp only [Jn23_3, bs_size]
    rw [gn49 (m + 1) q h0 (by omega) (by omega) (by omega), S7, gn49 (m + 1) q (by omega) (by omega) (by omega) (by omega), hP, hJ, dT (by omega), show i + 1 + 1 = i + 2 by omega, gn49 (m + 1) q (by omega) (by omega) (by omega) (by omega), eT c0, dT (by omega), show Int.toNat (J : Int) = J by omega, hc', nP, bs_take, eP, nP1]
    rw [dT (by rw [bs_size, bs_size, sMx]; simp; omega), dT (by omega)]
    have hd : (bs l).extract (P + 1) l.length = bs (l.drop (P + 1)) := by have := bs_drop l (P + 1); rwa [bs_size] at this
    rw [hd, bs_app (l.take P) [c], dT (by rw [bs_size, bs_size, sMx, List.length_append]; simp only [List.length_cons, List.length_nil]; omega)]
    simp only [letV]
    rw [bs_app]
    congr 1
    omega
   by_cases c1 : nx q (i + 2) % 3 = 1
   ·refine ⟨l.take P ++ [c] ++ l.drop P, by rw [List.length_append, List.length_append]; simp only [List.length_cons, List.length_nil]; simp; omega, fun m R k => ?_⟩
    simp only [Jn23_3, bs_size]
    rw [gn49 (m + 1) q h0 (by omega) (by omega) (by omega), S7, gn49 (m + 1) q (by omega) (by omega) (by omega) (by omega), hP, hJ, dT (by omega), show i + 1 + 1 = i + 2 by omega, gn49 (m + 1) q (by omega) (by omega) (by omega) (by omega), eF c0, eT c1, dT (by omega), show Int.toNat (J : Int) = J by omega, hc', nP, bs_take]
    rw [dT (by rw [bs_size, bs_size, sMx]; simp; omega), dT (by omega)]
    have hd : (bs l).extract P l.length = bs (l.drop P) := by have := bs_drop l P; rwa [bs_size] at this
    rw [hd, bs_app (l.take P) [c], dT (by rw [bs_size, bs_size, sMx, List.length_append]; simp only [List.length_cons, List.length_nil]; omega)]
    simp only [letV]
    rw [bs_app]
    congr 1
    omega
   ·refine ⟨l.take P ++ l.drop (P + 1), by rw [List.length_append]; simp; omega, fun m R k => ?_⟩
    simp only [Jn23_3, bs_size]
    rw [gn49 (m + 1) q h0 (by omega) (by omega) (by omega), S7, gn49 (m + 1) q (by omega) (by omega) (by omega) (by omega), hP, hJ, dT (by omega), show i + 1 + 1 = i + 2 by omega, gn49 (m + 1) q (by omega) (by omega) (by omega) (by omega), eF c0, eF c1, dT (by omega), nP, bs_take, eP, nP1, dT (by omega)]
    have hd : (bs l).extract (P + 1) l.length = bs (l.drop (P + 1)) := by have := bs_drop l (P + 1); rwa [bs_size] at this
    rw [hd, dT (by rw [bs_size, bs_size, sMx]; omega), bs_app]
    congr 1
    omega
  obtain ⟨s, hs, hk⟩ := key
  refine ⟨s, i + 3, hs, by omega, by omega, fun m R k => ?_⟩
  simp only [Fn23]
  refine Eq.trans (lF (y := (bs []).toList) (by rw [bs_toList, bs_toList]; exact hn)) ?_
  refine Eq.trans (lF (x := (bs [32, 10, 48, 45, 57, 109, 117]).toList) (y := (bs []).toList) (by rw [bs_toList, bs_toList]; simp)) ?_
  exact hk m R _
theorem lp5 (q : Abs.Rows) : ∀ (d a : Nat) (s : List UInt8) (i : Int), s.length + 10 * d ≤ 2000 → 0 ≤ i → i + 3 * d ≤ 2000 → a + d ≤ 1000 →
  ∃ (s' : List UInt8) (i' : Int), s'.length ≤ s.length + 10 * d ∧ i ≤ i' ∧ i' ≤ i + 3 * d ∧ ∀ (m n : Nat) (hn : d < n) (R : Type) (K : ByteArray → Int → Option R), Lp5_3 (m + 4) (fun s _ i => K s i) ((a + d : Nat) : Int) q n (bs s) a i = K (bs s') i'
 | 0, a, s, i, h1, h2, h3, h4 => by
  refine ⟨s, i, by omega, by omega, by omega, fun m n hn R K => ?_⟩
  obtain ⟨n, rfl⟩ : ∃ n', n = n' + 1 := ⟨n - 1, by omega⟩
  rw [Lp5_3]
  simp only [Lp5_3_step]
  rw [dF (by omega)]
 | d + 1, a, s, i, h1, h2, h3, h4 => by
  obtain ⟨t, i1, g1, g2, g3, g4⟩ := fn23 q s (by omega) h2 (by omega)
  obtain ⟨s', i', k1, k2, k3, k4⟩ := lp5 q d (a + 1) t i1 (by omega) (by omega) (by omega) (by omega)
  refine ⟨s', i', by omega, by omega, by omega, fun m n hn R K => ?_⟩
  obtain ⟨n, rfl⟩ : ∃ n', n = n' + 1 := ⟨n - 1, by omega⟩
  rw [Lp5_3]
  simp only [Lp5_3_step, wP1 (show a ≤ 1000000 by omega)]
  rw [dT (by omega), g4]
  have := k4 m n (by omega) R K
  rw [show a + 1 + d = a + (d + 1) by omega] at this
  exact this
theorem pk4 (q : Abs.Rows) (i : Int) : 0 ≤ pk [i1 0, i1 0, i1 1, i1 2] q i ∧ pk [i1 0, i1 0, i1 1, i1 2] q i ≤ 2 := by
 refine pk_all (P := fun x => 0 ≤ x ∧ x ≤ 2) _ q i (by simp) fun j hj => ?_
 match j, hj with
 | 0, _ => show (0 : Int) ≤ 0 ∧ (0 : Int) ≤ 2; omega
 | 1, _ => show (0 : Int) ≤ 0 ∧ (0 : Int) ≤ 2; omega
 | 2, _ => show (0 : Int) ≤ 1 ∧ (1 : Int) ≤ 2; omega
 | 3, _ => show (0 : Int) ≤ 2 ∧ (2 : Int) ≤ 2; omega
theorem fn5 (q : Abs.Rows) (i : Int) (h0 : 0 ≤ i) (h1 : i ≤ 1000) : ∃ (s : List UInt8) (i' : Int), s.length ≤ 400 ∧ ∀ (m : Nat) (hm : 200 ≤ m) (R : Type) (k : ByteArray → Int → Option R), Fn5 (m + 8) q i k = k (bs s) i' := by
 obtain ⟨o, i1', g1, g2, g3, g4, g5⟩ := fn18 q i h0 (by omega)
 have hlen := offT_len o g1
 have hp := pk4 q i1'
 obtain ⟨N, hN⟩ := Int.eq_ofNat_of_zero_le hp.1
 obtain ⟨s, i', k1, k2, k3, k4⟩ := lp5 q N 0 (offT o) (i1' + 1) (by omega) (by omega) (by omega) (by omega)
 refine ⟨s, i', by omega, fun m hm R k => ?_⟩
 simp only [Fn5]
 rw [g5 m hm, fn13 (m + 6) (by omega) o (by omega) g1, gn22 (m + 4) q _ (by omega) (by omega) (by simp) (by simp), hN]
 rw [Nat.zero_add] at k4
 exact k4 (m + 3) (m + 7) (by omega) R k
end Go.Proofs.YtjhfbmhblpjigaaGreatDoor.Med
end
section
set_option linter.unusedVariables false
set_option linter.unusedSimpArgs false
set_option linter.unusedSectionVars false
namespace Go.Proofs.YtjhfbmhblpjigaaGreatDoor.Med
open Go Go.Abs Go.Proofs
set_option linter.unusedVariables false
set_option linter.unusedSimpArgs false
/-! the whole law -/
theorem ba_refl (x : ByteArray) : (x == x) = true := by
 cases x with
 | mk d =>
  show (d == d) = true
  exact beq_self_eq_true d
theorem lp16 (m : Nat) (l : List Cod) (hl : l.length ≤ 1000) (b : Bool) {R : Type} (k : Bool → Option R) : ∀ (d n i : Nat), i + d = l.length → d < n →
  Lp16_5 m (fun b _ => k b) (fun _ => k true) (cr l) (cr l) b l.length n i = k true
 | _, 0, _, _, h => by omega
 | 0, n + 1, i, h1, h2 => by
  rw [Lp16_5]
  simp only [Lp16_5_step]
  rw [dF (by omega)]
 | d + 1, n + 1, i, h1, h2 => by
  have ih := lp16 m l hl b k d n (i + 1) (by omega) (by omega)
  rw [Lp16_5]
  simp only [Lp16_5_step, wP1 (show i ≤ 1000000 by omega), tN, cr_len, ih, ba_refl, beq_self_eq_true, Bool.and_true, Bool.not_true, cond_false]
  rw [dT (by omega), dT (by omega), dT (by omega)]
theorem fn16 (m : Nat) (hm : 2000 ≤ m) (l : List Cod) (hl : l.length ≤ 1000) {R : Type} (k : Bool → Option R) : Fn16 (m + 1) (cr l) (cr l) k = k true := by
 simp only [Fn16, cr_len]
 rw [nF rfl]
 exact lp16 m l hl false k l.length m 0 (by omega) (by omega)
theorem fn17 (m : Nat) {R : Type} (k : Bool → Option R) : Fn17 (m + 2) k = k true := by kernel_rfl
theorem rows0_cr : rows0 = cr [] := rfl
theorem lenCr (l : List Cod) (h : codE l = 0) : l.length ≤ 20 := by unfold codE at h; split at h <;> omega
/-- - -/
def rdT (s : ByteArray) : List Cod × Int × Int := if (rdL 5001 s 0 []).2.1 = false then ([], ((rdL 5001 s 0 []).1 : Int), 9) else if codE (rdL 5001 s 0 []).2.2 ≠ 0 then ([], 0, codE (rdL 5001 s 0 []).2.2) else ((rdL 5001 s 0 []).2.2, 0, 0)
theorem rdT_len (s : ByteArray) : (rdT s).1.length ≤ 20 := by
 unfold rdT
 split
 ·simp
 ·split
  ·simp
  ·rename_i h
   exact lenCr _ (by simpa using h)
theorem fn14t (s : ByteArray) (hs : s.size ≤ 5000) (m : Nat) (hm : 30000 ≤ m) {R : Type} (k : Abs.Rows → Int → Int → Option R) : Fn14 (m + 8) s k = k (cr (rdT s).1) (rdT s).2.1 (rdT s).2.2 := by
 rw [fn14 s hs m hm R k]
 unfold rdT
 split
 ·rfl
 ·split <;> rfl
theorem fn15t (s : ByteArray) (hs : s.size ≤ 5000) (m : Nat) (hm : 30000 ≤ m) {R : Type} (k : Abs.Rows → Int → Int → Option R) : Fn15 (m + 8) s k = k (cr (rdT s).1) (rdT s).2.1 (rdT s).2.2 := by
 rw [fn15 s hs m hm R k]
 unfold rdT
 split
 ·rfl
 ·split <;> rfl
theorem jn15 (m : Nat) (hm : 30000 ≤ m) (s : List UInt8) (hs : s.length ≤ 400) (x : List Cod) (hx : x.length ≤ 1000) (e f i : Int) (y : List UInt8) (b0 : Bool) {R : Type} (k : Bool → Option R) :
  Jn3_15 (m + 8) k b0 (bs s) (cr x) e (bs y) f f e (cr x) (bs y) i = k true := by
 have hl := rdT_len (bs s)
 simp only [Jn3_15]
 rw [fn14t _ (by rw [bs_size]; omega) m hm, fn15t _ (by rw [bs_size]; omega) m hm, eT rfl, show m + 8 = (m + 7) + 1 by omega, fn16 (m + 7) (by omega) x hx, fn16 (m + 7) (by omega) _ (by omega), show m + 7 + 1 = (m + 6) + 2 by omega, fn17]
 simp
theorem fn3 (m : Nat) (q : Abs.Rows) {R : Type} (k : Bool → Option R) : Fn3 (m + 40000) q k = k true := by
 obtain ⟨a, i2, a1, a2, a3, a4, a5⟩ := fn4 q 0 (by omega) (by omega)
 obtain ⟨b, i4, b1, b2, b3, b4, b5⟩ := fn4 q i2 (by omega) (by omega)
 obtain ⟨s, i6, c1, c2⟩ := fn5 q i4 (by omega) (by omega)
 have e2 : ∀ x y : Int, ([[F.lit (Value.int IntKind.i64 x)], [F.lit (Value.int IntKind.i64 y)]] : Abs.Rows) = ei [x, y] := fun x y => rfl
 simp only [Fn3]
 rw [show m + 39999 = (m + 39991) + 8 by omega, a5 _ (by omega), b5 _ (by omega), c2 _ (by omega), show m + 39991 + 8 = (m + 39993) + 6 by omega, fn6 _ (by omega)]
 have k8 : ∀ (l : List Cod) (K : Int → Option R), Fn8 (m + 39993 + 6) (cr l) K = K (codE l) := fun l K => fn8 (m + 39994) (by omega) l K
 have k10 : ∀ (l : List Cod) (K : Int → Option R), Fn10 (m + 39993 + 6) (cr l) K = K (codE l) := fun l K => fn10 (m + 39994) (by omega) l K
 have k7 : ∀ (K : ByteArray → Int → Option R), Fn7 (m + 39993 + 6) (cr a) K = if codE a ≠ 0 then K (bs []) (codE a) else K (bs (offT a)) 0 := fun K => fn7 (m + 39993) (by omega) a a1 K
 have k9 : ∀ (x y : Int) (K : Int → Option R), Fn9 (m + 39993 + 6) (ei [x, y]) K = K (nz [x, y]) := fun x y K => fn9 (m + 39998) [x, y] (by simp) (by omega) K
 have k11 : ∀ (h1 : a.length ≤ 60) (h2 : b.length ≤ 60) (K : Abs.Rows → Option R), Fn11 (m + 39993 + 6) (cr a) (cr b) K = K (cr (a.filter (inB b))) := fun h1 h2 K => fn11 (m + 39991) (by omega) a b h1 h2 K
 have k12 : ∀ (c : Bool) (e : Int) (K : Int → Option R), Fn12 (m + 39993 + 6) c e K = K (if c = true then e else 0) := fun c e K => fn12 (m + 39998) c e K
 have k13 : ∀ (K : ByteArray → Option R), Fn13 (m + 39993 + 6) (cr a) K = K (bs (offT a)) := fun K => fn13 (m + 39998) (by omega) a (by omega) a1 K
 have k15 : ∀ (x : List Cod) (hx : x.length ≤ 1000) (e f i : Int) (y : List UInt8) (b0 : Bool) (K : Bool → Option R), Jn3_15 (m + 39993 + 6) K b0 (bs s) (cr x) e (bs y) f f e (cr x) (bs y) i = K true := fun x hx e f i y b0 K => jn15 (m + 39991) (by omega) s (by omega) x hx e f i y b0 K
 have hfl : (a.filter (inB b)).length ≤ 1000 := Nat.le_trans (List.length_filter_le _ _) (by omega)
 simp only [k8, k10, k7, k9, k12, e2]
 by_cases h1 : codE a = 0
 ·by_cases h2 : codE b = 0
  ·have hn : nz [codE a, codE b] = 0 := by simp [nz, h1, h2]
   rw [if_neg (by omega), if_neg (by omega)]
   by_cases h3 : a.filter (inB b) = []
   ·rw [if_pos h3]
    rw [if_neg (by omega), hn, nF rfl, eT rfl, k11 (by omega) (by omega), h3]
    simp only [Jn3_12, h1, k13]
    rw [eT rfl]
    exact k15 [] (by simp) 8 0 _ _ _ _
   ·rw [if_neg h3]
    rw [if_neg (by omega), hn, nF rfl, eT rfl, k11 (by omega) (by omega)]
    have hz : (((cr (a.filter (inB b))).length : Int) == 0) = false := by
     rw [cr_len]
     have : (a.filter (inB b)).length ≠ 0 := fun h => h3 (List.length_eq_zero_iff.1 h)
     exact beq_false_of_ne (by omega)
    simp only [Jn3_12, h1, k13, hz]
    rw [eT rfl]
    exact k15 _ hfl 0 0 _ _ _ _
  ·have hn : nz [codE a, codE b] = codE b := by simp [nz, h1, h2]
   rw [if_neg (by omega), if_pos h2]
   rw [if_neg (by omega), hn, nF rfl, eF h2]
   simp only [Jn3_12, h1, k13]
   rw [eT rfl]
   exact k15 [] (by simp) (codE b) 0 _ _ _ _
 ·have hn : nz [codE a, codE b] = codE a := by simp [nz, h1]
  rw [if_pos h1]
  rw [if_pos h1, hn, nF rfl, eF h1]
  simp only [Jn3_12]
  rw [eF h1]
  exact k15 [] (by simp) (codE a) (codE a) _ [] _ _
end Go.Proofs.YtjhfbmhblpjigaaGreatDoor.Med
end
section
set_option linter.unusedVariables false
set_option linter.unusedSimpArgs false
set_option linter.unusedSectionVars false
namespace Go.Proofs.YtjhfbmhblpjigaaGreatDoor.Med
open Go Go.Abs Go.Proofs Go.RowKit
theorem fn3_ok (rows : Abs.Rows) (m : Nat) (h : ∀ (R : Type) (k : Bool → Option R), Fn3 m rows k = k true) : FnOk Tryz.prog 3 [.f (.lst [.int .i64] rows)] (vBool true) [.undef] := by
 refine law_of (okT69 m) fun R k => ?_
 exact h R _
theorem glob3 {w : World} (h0 : w.var? Tryz.prog "internal/strconv.uint64pow10" = some (Lib.pow10Tab.map fun z => Value.int .u64 z).toArray) (h1 : ∃ m, w.cell? ⟨1, 0, none⟩ = some (.int .i64 m)) : GlobOk fun b => w.heap[b]? := by
 refine ⟨fun g ts rows e => (by cases e), fun g p e => ?_⟩
 match g, e with
 | 0, e =>
  cases e
  unfold World.var? at h0
  rw [show Tryz.prog.globalNamed "internal/strconv.uint64pow10" = some 0 by kernel_rfl] at h0
  simp only [Option.bind_some] at h0
  split at h0
  ·rename_i cs t fr hh
   cases h0
   exact ⟨_, _, _, hh, rfl⟩
  ·cases h0
 | 1, e =>
  cases e
  obtain ⟨m, hm⟩ := h1
  unfold World.cell? at hm
  simp only at hm
  split at hm
  ·rename_i cs t fr hh
   exact ⟨_, _, _, hh, m, by simpa using hm⟩
  all_goals first | cases hm | (simp at hm; done)
 | g + 2, e => cases e
theorem walk3 (w : World) (a : Option Addr) (len cap : Nat) (zs : List Int) (h : IsInts .i64 w a len cap zs) (h0 : w.var? Tryz.prog "internal/strconv.uint64pow10" = some (Lib.pow10Tab.map fun z => Value.int .u64 z).toArray) (h1 : ∃ m, w.cell? ⟨1, 0, none⟩ = some (.int .i64 m)) :
  Calls Tryz.prog 3 #[.slice a len cap] w fun e w' => e = .returned (.bool true) ∧ Below w.heap.size w w' := by
 obtain ⟨body, hb⟩ : ∃ b, Tryz.f3.body = some b := ⟨_, rfl⟩
 exact law_calls Tryz.func3 (by kernel_rfl) hb h (glob3 h0 h1) (fn3_ok _ (0 + 40000) fun R k => fn3 0 _ k)
end Go.Proofs.YtjhfbmhblpjigaaGreatDoor.Med
end
