/- A part of the proofs of the seat YtcoplddcbedeoaaGreatDoor: no statement of the seat stands here. -/
import Derived.Lib.Strings
import Derived.Lib.Bytealg
import Derived.Test.YtcoplddcbedeoaaGreatDoorMedTyped2
import Derived.Test.YtcoplddcbedeoaaGreatDoorAbsC
section
set_option linter.unusedVariables false
set_option linter.unusedSimpArgs false
set_option linter.unusedSectionVars false
namespace Go.Proofs.YtcoplddcbedeoaaGreatDoor.Med
open Go Go.Abs Go.Proofs
set_option linter.unusedVariables false
set_option linter.unusedSimpArgs false
section
variable {α : Type} {a b : α}
theorem dT {p : Prop} [Decidable p] (h : p) : (bif decide p then a else b) = a := by rw [decide_eq_true h]; rfl
theorem dF {p : Prop} [Decidable p] (h : ¬p) : (bif decide p then a else b) = b := by rw [decide_eq_false h]; rfl
theorem eT {x y : Int} (h : x = y) : (bif x == y then a else b) = a := by simp [h]
theorem nT {x y : Int} (h : ¬ x = y) : (bif x != y then a else b) = a := by rw [bne_iff_ne.2 h]; rfl
theorem nF {x y : Int} (h : x = y) : (bif x != y then a else b) = b := by subst h; rw [bne_self_eq_false]; rfl
theorem eF {x y : Int} (h : ¬ x = y) : (bif x == y then a else b) = b := by rw [beq_false_of_ne h]; rfl
theorem andC {p q : Bool} : (bif p && q then a else b) = bif p then (bif q then a else b) else b := by cases p <;> rfl
theorem orC {p q : Bool} : (bif p || q then a else b) = bif p then a else (bif q then a else b) := by cases p <;> rfl
theorem notC {p : Bool} : (bif !p then a else b) = bif p then b else a := by cases p <;> rfl
theorem bT {c : Bool} (h : c = true) : (bif c then a else b) = a := by subst h; rfl
theorem bF {c : Bool} (h : c = false) : (bif c then a else b) = b := by subst h; rfl
end
theorem w64 {x : Int} (h0 : -9223372036854775808 ≤ x) (h1 : x < 9223372036854775808) : IntKind.wrap .i64 x = x := by
 rw [IntKind.wrap_i64]; omega
theorem w64b (x : Int) : -9223372036854775808 ≤ IntKind.wrap .i64 x ∧ IntKind.wrap .i64 x < 9223372036854775808 := by
 rw [IntKind.wrap_i64]; omega
theorem w8 {x : Int} (h0 : 0 ≤ x) (h1 : x < 256) : IntKind.wrap .u8 x = x := by
 rw [IntKind.wrap_u8]; omega
theorem w8b (x : Int) : 0 ≤ IntKind.wrap .u8 x ∧ IntKind.wrap .u8 x < 256 := by
 rw [IntKind.wrap_u8]; omega
theorem rM : rowMax = 1073741824 := rfl
theorem tm_pos {x y : Int} (h : 0 ≤ x) : Int.tmod x y = x % y := Int.tmod_eq_emod_of_nonneg h
theorem td_pos {x y : Int} (h : 0 ≤ x) : Int.tdiv x y = x / y := Int.tdiv_eq_ediv_of_nonneg h
/-- - -/
theorem stR1 (t : LT) (r : Abs.Rows) (i : Nat) (x : F) : stR [t] r i 0 [x] = r.set i [x] := rfl
theorem fI_set {r : Abs.Rows} {i : Nat} {k : IntKind} {n : Int} (h : i < r.length) : fI (r.set i [F.lit (.int k n)]) i 0 = n := by
 simp [fI, dropF, Abs.rowAt, List.getD_eq_getElem?_getD, h, F.toInt]
theorem fI_set_ne {r : Abs.Rows} {i j : Nat} {x : List F} (h : i ≠ j) : fI (r.set i x) j 0 = fI r j 0 := by
 simp [fI, dropF, Abs.rowAt, List.getD_eq_getElem?_getD, List.getElem?_set_ne h]
theorem fI_app {r : Abs.Rows} {k : IntKind} {n : Int} : fI (r ++ [[F.lit (.int k n)]]) r.length 0 = n := by
 simp [fI, dropF, Abs.rowAt, List.getD_eq_getElem?_getD, F.toInt]
theorem fI_app_lt {r s : Abs.Rows} {i : Nat} (h : i < r.length) : fI (r ++ s) i 0 = fI r i 0 := by
 simp [fI, dropF, Abs.rowAt, List.getD_eq_getElem?_getD, List.getElem?_append_left h]
/-! lists that are made place by place -/
def mk (t : IntKind) (g : Nat → Int) (n : Nat) : Abs.Rows := (List.range n).map fun j => [F.lit (.int t (g j))]
theorem mk_len (t : IntKind) (g : Nat → Int) (n : Nat) : (mk t g n).length = n := by simp [mk]
theorem mk_succ (t : IntKind) (g : Nat → Int) (n : Nat) : mk t g (n + 1) = mk t g n ++ [[F.lit (.int t (g n))]] := by simp [mk, List.range_succ]
theorem mk_set (t : IntKind) (g : Nat → Int) (n d : Nat) (z : List F) : (mk t g n ++ List.replicate (d + 1) z).set n [F.lit (.int t (g n))] = mk t g (n + 1) ++ List.replicate d z := by
 rw [mk_succ, List.set_append_right _ _ (by simp [mk_len]), mk_len, Nat.sub_self, List.replicate_succ, List.set_cons_zero]
 simp
theorem mk_fI (t : IntKind) (g : Nat → Int) {n i : Nat} (h : i < n) : fI (mk t g n) i 0 = g i := by
 simp [fI, dropF, Abs.rowAt, List.getD_eq_getElem?_getD, mk, h, F.toInt]
def Byt (x : Int) : Prop := 0 ≤ x ∧ x < 256
end Go.Proofs.YtcoplddcbedeoaaGreatDoor.Med
end
section
set_option linter.unusedVariables false
set_option linter.unusedSimpArgs false
set_option linter.unusedSectionVars false
namespace Go.Proofs.YtcoplddcbedeoaaGreatDoor.Med
open Go Go.Abs Go.Proofs
set_option linter.unusedVariables false
set_option linter.unusedSimpArgs false
/-! strings as lists of bytes -/
abbrev bs (l : List UInt8) : ByteArray := ⟨l.toArray⟩
theorem bs_of (s : ByteArray) : s = bs s.data.toList := (Lib.mk_data s).symm
theorem bs_size (l : List UInt8) : (bs l).size = l.length := by simp [bs, ByteArray.size]
theorem bs_toList (l : List UInt8) : (bs l).toList = l := by rw [Lib.toList_data]
theorem bs_at (l : List UInt8) (i : Nat) : Array.getD (bs l).data i (0 : UInt8) = l.getD i 0 := by
 simp [bs, Array.getD_eq_getD_getElem?, List.getD_eq_getElem?_getD]
theorem arr_at (l : List UInt8) (i : Nat) : Array.getD l.toArray i (0 : UInt8) = l.getD i 0 := bs_at l i
theorem bs_ext (l : List UInt8) (a b : Nat) : (bs l).extract a b = bs ((l.drop a).take (b - a)) := Lib.extract_eq _ _ _
theorem bs_drop (l : List UInt8) (a : Nat) : (bs l).extract a (bs l).size = bs (l.drop a) := by
 rw [bs_ext, bs_size, List.take_of_length_le (by simp)]
theorem bs_take (l : List UInt8) (b : Nat) : (bs l).extract 0 b = bs (l.take b) := by rw [bs_ext]; simp
theorem bs_app (a b : List UInt8) : bs a ++ bs b = bs (a ++ b) := by
 apply ByteArray.ext
 simp [bs]
/-- - -/
def ixB (b : UInt8) : List UInt8 → Option Nat
 | [] => none
 | x :: l => if x = b then some 0 else (ixB b l).map (· + 1)
theorem find_ix (b : UInt8) : ∀ (l : List UInt8), (List.range l.length).find? (fun i => l.getD i 0 == b) = ixB b l
 | [] => rfl
 | x :: l => by
  rw [List.length_cons, List.range_succ_eq_map, List.find?_cons]
  simp only [List.getD_cons_zero, ixB]
  by_cases h : x = b
  ·simp [h]
  ·have h' : (x == b) = false := by simpa using h
   rw [h', if_neg h, List.find?_map]
   have := find_ix b l
   have e : ((fun i => (x :: l).getD i 0 == b) ∘ Nat.succ) = fun i => l.getD i 0 == b := by funext i; simp
   rw [e, this]
theorem bs_get (l : List UInt8) (i : Nat) : (bs l)[i]! = l.getD i 0 := by
 by_cases h : i < l.length
 ·have h' : i < (bs l).size := by rw [bs_size]; exact h
  rw [getElem!_pos (bs l) i h', List.getD_eq_getElem?_getD, List.getElem?_eq_getElem h]
  show (bs l).data[i] = _
  simp [bs]
 ·have h' : ¬ i < (bs l).size := by rw [bs_size]; exact h
  rw [getElem!_neg (bs l) i h', List.getD_eq_getElem?_getD, List.getElem?_eq_none (by omega)]
  rfl
def ixI (b : UInt8) (l : List UInt8) : Int := match ixB b l with
 | some i => i
 | none => -1
theorem idx_bs (l : List UInt8) (c : Int) : idxByte (bs l) c = ixI c.toNat.toUInt8 l := by
 unfold idxByte ixI
 have : (fun i => (bs l)[i]! == c.toNat.toUInt8) = fun i => l.getD i 0 == c.toNat.toUInt8 := by funext i; rw [bs_get]
 rw [this, bs_size, find_ix]
 cases ixB c.toNat.toUInt8 l <;> rfl
theorem ixB_lt {b : UInt8} : ∀ {l : List UInt8} {i : Nat}, ixB b l = some i → i < l.length ∧ l.getD i 0 = b ∧ b ∉ l.take i
 | [], _, h => by cases h
 | x :: l, i, h => by
  simp only [ixB] at h
  split at h
  ·cases h; rename_i hx; exact ⟨by simp, by simpa using hx, by simp⟩
  ·rename_i hx
   simp only [Option.map_eq_some_iff] at h
   obtain ⟨j, hj, rfl⟩ := h
   obtain ⟨h1, h2, h3⟩ := ixB_lt hj
   refine ⟨by simp; omega, by simpa using h2, ?_⟩
   simp only [List.take_succ_cons, List.mem_cons, not_or]
   exact ⟨fun e => hx e.symm, h3⟩
theorem ixB_none {b : UInt8} : ∀ {l : List UInt8}, ixB b l = none ↔ b ∉ l
 | [] => by simp [ixB]
 | x :: l => by
  simp only [ixB]
  split
  ·rename_i h; simp [h]
  ·rename_i h
   simp only [Option.map_eq_none_iff, List.mem_cons, not_or]
   rw [ixB_none]
   exact ⟨fun e => ⟨fun e2 => h e2.symm, e⟩, fun e => e.2⟩
theorem ixI_nn {b : UInt8} {l : List UInt8} : 0 ≤ ixI b l ↔ b ∈ l := by
 unfold ixI
 cases h : ixB b l with
 | none => simp; exact ixB_none.1 h
 | some i =>
  obtain ⟨h1, h2, _⟩ := ixB_lt h
  simp only [Int.natCast_nonneg, true_iff]
  rw [← h2, List.getD_eq_getElem?_getD, List.getElem?_eq_getElem h1]
  exact List.getElem_mem h1
theorem lT {x y : List UInt8} (h : x = y) {α : Type} {a b : α} : (bif x == y then a else b) = a := by simp [h]
theorem lF {x y : List UInt8} (h : ¬ x = y) {α : Type} {a b : α} : (bif x == y then a else b) = b := by
 rw [beq_false_of_ne h]; rfl
theorem lnT {x y : List UInt8} (h : ¬ x = y) {α : Type} {a b : α} : (bif !(x == y) then a else b) = a := by
 rw [beq_false_of_ne h]; rfl
theorem lnF {x y : List UInt8} (h : x = y) {α : Type} {a b : α} : (bif !(x == y) then a else b) = b := by simp [h]
end Go.Proofs.YtcoplddcbedeoaaGreatDoor.Med
end
section
set_option linter.unusedVariables false
set_option linter.unusedSimpArgs false
set_option linter.unusedSectionVars false
namespace Go.Proofs.YtcoplddcbedeoaaGreatDoor.Med
open Go Go.Abs Go.Proofs
set_option linter.unusedVariables false
set_option linter.unusedSimpArgs false
/-! the order of strings -/
theorem bytesLess_dec : ∀ (x y : List UInt8), Op.bytesLess x y = decide (x < y)
 | [], [] => by simp [Op.bytesLess]
 | _ :: _, [] => by simp [Op.bytesLess]
 | [], _ :: _ => by simp [Op.bytesLess]
 | a :: x, b :: y => by
  rw [Op.bytesLess, bytesLess_dec x y]
  simp only [List.cons_lt_cons_iff]
  by_cases h1 : a < b <;> by_cases h2 : a = b <;> by_cases h3 : x < y <;> simp [h1, h2, h3]
def cmS (a b : List UInt8) : Int := Lib.compareBytes a b
theorem cmpB_bs (a b : List UInt8) : cmpB (bs a) (bs b) = cmS a b := rfl
theorem u8_irr (a : UInt8) : ¬ a < a := UInt8.lt_irrefl a
theorem cmS_lt : ∀ (a b : List UInt8), cmS a b < 0 ↔ a < b
 | [], [] => by simp [cmS, Lib.compareBytes]
 | _ :: _, [] => by simp [cmS, Lib.compareBytes]
 | [], _ :: _ => by simp [cmS, Lib.compareBytes]
 | a :: x, b :: y => by
  have ih := cmS_lt x y
  unfold cmS at ih ⊢
  rw [Lib.compareBytes, List.cons_lt_cons_iff]
  by_cases h1 : a < b
  ·simp [h1]
  ·by_cases h2 : b < a
   ·have h3 : a ≠ b := fun e => u8_irr b (e ▸ h2)
    simp [h1, h2, h3]
   ·have h3 : a = b := UInt8.le_antisymm (UInt8.not_lt.1 h2) (UInt8.not_lt.1 h1)
    simp [h1, h2, h3, ih]
theorem cmS_eq : ∀ (a b : List UInt8), cmS a b = 0 ↔ a = b
 | [], [] => by simp [cmS, Lib.compareBytes]
 | _ :: _, [] => by simp [cmS, Lib.compareBytes]
 | [], _ :: _ => by simp [cmS, Lib.compareBytes]
 | a :: x, b :: y => by
  have ih := cmS_eq x y
  unfold cmS at ih ⊢
  rw [Lib.compareBytes, List.cons.injEq]
  by_cases h1 : a < b
  ·have h3 : a ≠ b := fun e => u8_irr b (e ▸ h1)
   simp [h1, h3]
  ·by_cases h2 : b < a
   ·have h3 : a ≠ b := fun e => u8_irr b (e ▸ h2)
    simp [h1, h2, h3]
   ·have h3 : a = b := UInt8.le_antisymm (UInt8.not_lt.1 h2) (UInt8.not_lt.1 h1)
    simp [h1, h2, h3, ih]
theorem lt_irr (a : List UInt8) : ¬ a < a := List.lt_irrefl a
theorem lt_tr {a b c : List UInt8} (h : a < b) (h2 : b < c) : a < c := List.lt_trans h h2
theorem lt_tri (a b : List UInt8) : a < b ∨ a = b ∨ b < a := by
 rcases Int.lt_trichotomy (cmS a b) 0 with h | h | h
 ·exact .inl ((cmS_lt a b).1 h)
 ·exact .inr (.inl ((cmS_eq a b).1 h))
 ·by_cases c : b < a
  ·exact .inr (.inr c)
  ·exact .inl (by
    have := List.not_lt.1 c
    rcases List.le_iff_lt_or_eq.1 this with h1 | h1
    ·exact h1
    ·subst h1; rw [(cmS_eq a a).2 rfl] at h; omega)
/-! the first fault of a loop -/
def fstE (f : Nat → Int) : Nat → Nat → Int
 | 0, _ => 0
 | d + 1, i => if f i = 0 then fstE f d (i + 1) else f i
theorem fstE_z {f : Nat → Int} : ∀ {d i : Nat}, fstE f d i = 0 → ∀ j, i ≤ j → j < i + d → f j = 0
 | 0, i, _, j, h1, h2 => by omega
 | d + 1, i, h, j, h1, h2 => by
  rw [fstE] at h
  split at h
  ·rename_i c
   by_cases e : j = i
   ·subst e; exact c
   ·exact fstE_z h j (by omega) (by omega)
  ·rename_i c; exact (c h).elim
end Go.Proofs.YtcoplddcbedeoaaGreatDoor.Med
end
section
set_option linter.unusedVariables false
set_option linter.unusedSimpArgs false
set_option linter.unusedSectionVars false
namespace Go.Proofs.YtcoplddcbedeoaaGreatDoor.Med
open Go Go.Abs Go.Proofs
set_option linter.unusedVariables false
set_option linter.unusedSimpArgs false
theorem gn99 (m : Nat) {x y : Int} (hy : 1 ≤ y) (hy2 : y ≤ 1099511627776) {R : Type} {k : Int → Option R} : Fn99 (m + 1) x y k = k (x % y) := by
 have h2 : Int.tmod x y = x % y ∨ (Int.tmod x y + y = x % y ∧ Int.tmod x y < 0 ∧ -y < Int.tmod x y) := by
  by_cases h : 0 ≤ x
  ·exact .inl (Int.tmod_eq_emod_of_nonneg h)
  ·have h3 := Int.tmod_eq_emod (a := x) (b := y)
   have h4 := Int.emod_nonneg x (show y ≠ 0 by omega)
   have h5 := Int.emod_lt_of_pos x (show 0 < y by omega)
   by_cases hd : y ∣ x
   ·left; rw [h3]; simp [hd]
   ·right
    have h6 : Int.tmod x y = x % y - y := by
     rw [h3, if_neg (by simp; exact ⟨by omega, hd⟩)]
     omega
    have h7 : x % y ≠ 0 := fun h => hd (Int.dvd_of_emod_eq_zero h)
    omega
 have h4 := Int.emod_nonneg x (show y ≠ 0 by omega)
 simp only [Fn99]
 rw [dF (by omega), dT (by omega)]
 rcases h2 with h2 | ⟨h2, h3, h5⟩
 ·rw [dF (by omega), h2]
 ·rw [dT h3, w64 (by omega) (by omega), h2]
def nx (r : Abs.Rows) (i : Int) : Int := if (r.length : Int) = 0 then IntKind.wrap .i64 ((i + 1) * 7919) else
 IntKind.wrap IntKind.i64 (fI r (Int.toNat (Int.tmod i (r.length : Int))) 0 % 1073741824 + IntKind.wrap IntKind.i64 (IntKind.wrap IntKind.i64 (Int.tdiv i (r.length : Int)) * IntKind.wrap IntKind.i64 (7919 + Int.tmod i (r.length : Int))))
theorem gn46 (m : Nat) (r : Abs.Rows) {i n : Int} (h0 : 0 ≤ i) (h1 : i ≤ 1099511627776) (hn : 1 ≤ n) (hn2 : n ≤ 1099511627776) {R : Type} {k : Int → Int → Option R} :
  Fn46 (m + 2) r i n k = k (nx r i % n) (i + 1) := by
 have e1 : IntKind.wrap .i64 (i + 1) = i + 1 := w64 (by omega) (by omega)
 have e2 : IntKind.wrap .i64 (i + 1 - 1) = i := by rw [show i + 1 - 1 = i by omega]; exact w64 (by omega) (by omega)
 by_cases hr : (r.length : Int) = 0
 ·simp only [Fn46, e1, nx, hr, if_true]
  rw [eT rfl, gn99 m hn hn2]
 ·have hm1 : 0 ≤ Int.tmod i (r.length : Int) := Int.tmod_nonneg _ h0
  have hm2 : Int.tmod i (r.length : Int) < (r.length : Int) := Int.tmod_lt_of_pos _ (by omega)
  simp only [Fn46, e1, e2, nx, if_neg hr]
  rw [eF hr, dT hr, dT hr, dT ⟨hm1, hm2⟩, gn99 m (by omega) (by omega), gn99 m hn hn2]
  try rfl
theorem gn44 (m : Nat) (r : Abs.Rows) {i n : Int} (h0 : 0 ≤ i) (h1 : i ≤ 1099511627776) (hn : 1 ≤ n) (hn2 : n ≤ 1099511627776) {R : Type} {k : Bool → Int → Option R} :
  Fn44 (m + 3) r i n k = k (nx r i % n == 0) (i + 1) := by
 simp only [Fn44]
 rw [gn46 m r h0 h1 hn hn2]
/-- - -/
def pk (rows q : Abs.Rows) (i : Int) : Int := fI rows (nx q i % (rows.length : Int)).toNat 0
theorem gn9 (m : Nat) (r : Abs.Rows) {i : Int} (rows : Abs.Rows) (h0 : 0 ≤ i) (h1 : i ≤ 1099511627776) (hn : 1 ≤ (rows.length : Int)) (hn2 : (rows.length : Int) ≤ 1099511627776) {R : Type} {k : Int → Int → Option R} :
  Fn9 (m + 3) r i rows k = k (pk rows r i) (i + 1) := by
 have h4 := Int.emod_nonneg (nx r i) (show (rows.length : Int) ≠ 0 by omega)
 have h5 := Int.emod_lt_of_pos (nx r i) (show 0 < (rows.length : Int) by omega)
 simp only [Fn9]
 rw [gn46 m r h0 h1 hn hn2, dT ⟨h4, h5⟩]
 rfl
/-- - -/
theorem pk_all {P : Int → Prop} (rows q : Abs.Rows) (i : Int) (h0 : 0 < rows.length) (h : ∀ j, j < rows.length → P (fI rows j 0)) : P (pk rows q i) := by
 have h4 := Int.emod_nonneg (nx q i) (show (rows.length : Int) ≠ 0 by omega)
 have h5 := Int.emod_lt_of_pos (nx q i) (show 0 < (rows.length : Int) by omega)
 exact h _ (by omega)
theorem gn8 (m : Nat) (r : Abs.Rows) {i lo hi : Int} (h0 : 0 ≤ i) (h1 : i ≤ 1099511627776) (hl : -500000000000 ≤ lo) (hh : hi ≤ 500000000000) (hlh : lo ≤ hi) {R : Type} {k : Int → Int → Option R} :
  Fn8 (m + 3) r i lo hi k = k (lo + nx r i % (hi - lo + 1)) (i + 1) := by
 have h4 := Int.emod_nonneg (nx r i) (show hi - lo + 1 ≠ 0 by omega)
 have h5 := Int.emod_lt_of_pos (nx r i) (show 0 < hi - lo + 1 by omega)
 simp only [Fn8]
 rw [dF (by omega), w64 (x := hi - lo) (by omega) (by omega), w64 (x := hi - lo + 1) (by omega) (by omega), gn46 m r h0 h1 (by omega) (by omega), w64 (by omega) (by omega)]
/-- - -/
def pkS (rows q : Abs.Rows) (i : Int) : ByteArray := fS rows (nx q i % (rows.length : Int)).toNat 0
theorem gn32 (m : Nat) (r : Abs.Rows) {i : Int} (rows : Abs.Rows) (h0 : 0 ≤ i) (h1 : i ≤ 1099511627776) (hn : 1 ≤ (rows.length : Int)) (hn2 : (rows.length : Int) ≤ 1099511627776) {R : Type} {k : ByteArray → Int → Option R} :
  Fn32 (m + 3) r i rows k = k (pkS rows r i) (i + 1) := by
 have h4 := Int.emod_nonneg (nx r i) (show (rows.length : Int) ≠ 0 by omega)
 have h5 := Int.emod_lt_of_pos (nx r i) (show 0 < (rows.length : Int) by omega)
 simp only [Fn32]
 rw [gn46 m r h0 h1 hn hn2, dT ⟨h4, h5⟩]
 rfl
theorem pkS_all {P : ByteArray → Prop} (rows q : Abs.Rows) (i : Int) (h0 : 0 < rows.length) (h : ∀ j, j < rows.length → P (fS rows j 0)) : P (pkS rows q i) := by
 have h4 := Int.emod_nonneg (nx q i) (show (rows.length : Int) ≠ 0 by omega)
 have h5 := Int.emod_lt_of_pos (nx q i) (show 0 < (rows.length : Int) by omega)
 exact h _ (by omega)
/-- - -/
theorem gn65 (m : Nat) (r : Abs.Rows) {i lo hi : Int} (h0 : 0 ≤ i) (h1 : i ≤ 1000000) (hl : -500000000 ≤ lo) (hh : hi ≤ 500000000) (hlh : lo ≤ hi) :
  ∃ (v i' : Int), i ≤ i' ∧ i' ≤ i + 2 ∧ ∀ (R : Type) (k : Int → Int → Option R), Fn65 (m + 4) r i lo hi k = k v i' := by
 by_cases c : nx r i % 12 = 0
 ·apply Exists.intro
  refine ⟨i + 1 + 1, by omega, by omega, fun R k => ?_⟩
  simp only [Fn65]
  rw [gn44 m r h0 (by omega) (by omega) (by omega), eT c, gn9 m r _ (by omega) (by omega) (by simp) (by simp)]
 ·apply Exists.intro
  refine ⟨i + 1 + 1, by omega, by omega, fun R k => ?_⟩
  simp only [Fn65]
  rw [gn44 m r h0 (by omega) (by omega) (by omega), eF c, gn8 m r (by omega) (by omega) (by omega) (by omega) hlh]
end Go.Proofs.YtcoplddcbedeoaaGreatDoor.Med
end
section
set_option linter.unusedVariables false
set_option linter.unusedSimpArgs false
set_option linter.unusedSectionVars false
namespace Go.Proofs.YtcoplddcbedeoaaGreatDoor.Med
open Go Go.Abs Go.Proofs
set_option linter.unusedVariables false
set_option linter.unusedSimpArgs false
/-! what strings are: prefixes, keys, numbers -/
def D10 : List UInt8 := [48, 49, 50, 51, 52, 53, 54, 55, 56, 57]
def S26 : List UInt8 := [97, 98, 99, 100, 101, 102, 103, 104, 105, 106, 107, 108, 109, 110, 111, 112, 113, 114, 115, 116, 117, 118, 119, 120, 121, 122]
def K38 : List UInt8 := [97, 98, 99, 100, 101, 102, 103, 104, 105, 106, 107, 108, 109, 110, 111, 112, 113, 114, 115, 116, 117, 118, 119, 120, 121, 122, 48, 49, 50, 51, 52, 53, 54, 55, 56, 57, 45, 95]
abbrev ls (s : ByteArray) : List UInt8 := s.data.toList
theorem ls_bs (l : List UInt8) : ls (bs l) = l := by simp [ls, bs]
theorem mem_dropW {b : UInt8} {p : UInt8 → Bool} (hb : p b = false) : ∀ (l : List UInt8), b ∈ l → b ∈ l.dropWhile p
 | [], h => by cases h
 | a :: l, h => by
  rw [List.dropWhile_cons]
  by_cases c : p a = true
  ·rw [if_pos c]
   rcases List.mem_cons.1 h with rfl | h
   ·rw [hb] at c; cases c
   ·exact mem_dropW hb l h
  ·rw [if_neg c]; exact h
theorem dropW_all {p : UInt8 → Bool} : ∀ (l : List UInt8), (∀ b ∈ l, p b = true) → l.dropWhile p = []
 | [], _ => rfl
 | a :: l, h => by
  rw [List.dropWhile_cons, if_pos (h a (by simp))]
  exact dropW_all l fun b hb => h b (by simp [hb])
theorem trim_nil (s cs : List UInt8) : Lib.trimS s cs = [] ↔ ∀ b ∈ s, b ∈ cs := by
 unfold Lib.trimS Lib.trimLeftS Lib.trimRightS
 constructor
 ·intro h b hb
  by_cases c : b ∈ cs
  ·exact c
  ·exfalso
   have hp : (fun x => cs.contains x) b = false := by simpa using c
   have h1 : b ∈ (s.reverse.dropWhile fun x => cs.contains x).reverse := List.mem_reverse.2 (mem_dropW hp _ (List.mem_reverse.2 hb))
   have h2 := mem_dropW hp _ h1
   rw [h] at h2
   cases h2
 ·intro h
  rw [dropW_all s.reverse fun b hb => by simpa using h b (List.mem_reverse.1 hb)]
  rfl
theorem trim_eq (s cs : List UInt8) : ((trimB (bs s) (bs cs)).toList == (bs []).toList) = s.all fun b => decide (b ∈ cs) := by
 show ((bs (Lib.trimS s cs)).toList == (bs []).toList) = _
 rw [bs_toList, bs_toList, Bool.eq_iff_iff]
 simp only [beq_iff_eq, trim_nil, List.all_eq_true, decide_eq_true_eq]
theorem trim_ok (s cs : List UInt8) (hs : s.length ≤ 1000) (hc : cs.length ≤ 1000) (hb : (cs.all fun b => decide (b.toNat < 128)) = true) : trimOk (bs s) (bs cs) = true := by
 unfold trimOk
 rw [bs_size, bs_size, decide_eq_true (by omega), decide_eq_true (by omega)]
 exact hb
theorem fn134 (m : Nat) (l : List UInt8) {R : Type} (k : Bool → Option R) : Fn134 (m + 1) (bs l) (bs [43]) k = k (decide (l.head? = some 43)) := by
 simp only [Fn134, bs_size]
 cases l with
 | nil => rw [dF (by simp)]; rfl
 | cons a t =>
  rw [dT (by simp; omega), dT (by simp; omega)]
  congr 1
  rw [bs_ext, bs_toList, bs_toList, Bool.eq_iff_iff]
  simp
theorem fn68 (m : Nat) (l : List UInt8) {R : Type} (k : ByteArray → Bool → Option R) : Fn68 (m + 3) (bs l) (bs [43]) k = if l.head? = some 43 then k (bs l.tail) true else k (bs l) false := by
 simp only [Fn68, Fn117]
 refine Eq.trans (fn134 m l _) ?_
 by_cases h : l.head? = some 43
 ·rw [if_pos h, decide_eq_true h]
  cases l with
  | nil => cases h
  | cons a t =>
   refine Eq.trans (bF rfl) ?_
   simp only [bs_size]
   rw [dT (by simp; omega)]
   congr 1
   rw [bs_ext]
   simp
   all_goals rfl
 ·rw [if_neg h, decide_eq_false h]; rfl
def prefB (l : List UInt8) : Bool := decide (l = []) || (decide (l.head? = some 43) && (decide (l.tail.length ≤ 15) && l.tail.all fun b => decide (b ∈ D10)))
theorem fn122 (m : Nat) (l : List UInt8) {R : Type} (k : Bool → Option R) : Fn122 (m + 4) (bs l) k = k (prefB l) := by
 simp only [Fn122]
 refine Eq.trans (fn68 m l _) ?_
 unfold prefB
 have hn : ((bs l).toList == (bs []).toList) = decide (l = []) := by rw [bs_toList, bs_toList, Bool.eq_iff_iff]; simp
 by_cases h0 : l = []
 ·subst h0
  rw [if_neg (by simp), decide_eq_true (rfl : ([] : List UInt8) = []), Bool.true_or]
  exact bT (hn.trans (decide_eq_true rfl))
 ·have hn' : ((bs l).toList == ({ data := #[] } : ByteArray).toList) = false := by
   refine Eq.trans hn ?_
   exact decide_eq_false h0
  by_cases h : l.head? = some 43
  ·rw [if_pos h, bF hn', decide_eq_false h0, decide_eq_true h, Bool.false_or, Bool.true_and]
   refine Eq.trans (bT rfl) ?_
   rw [bs_size]
   by_cases h2 : l.tail.length ≤ 15
   ·rw [dT (by omega), decide_eq_true h2, Bool.true_and]
    refine Eq.trans (bT (trim_ok l.tail D10 (by omega) (by decide) (by decide))) ?_
    congr 1
    exact trim_eq l.tail D10
   ·rw [dF (by omega), decide_eq_false h2, Bool.false_and]
  ·rw [if_neg h, bF hn', decide_eq_false h0, decide_eq_false h]
   rfl
def keyB (l : List UInt8) : Bool := decide (1 ≤ l.length) && (decide (l.length ≤ 40) && (decide (97 ≤ (l.getD 0 0).toNat) && (decide ((l.getD 0 0).toNat ≤ 122) && l.all fun b => decide (b ∈ K38))))
theorem fn74 (m : Nat) (l : List UInt8) {R : Type} (k : Bool → Option R) : Fn74 (m + 1) (bs l) k = k (keyB l) := by
 simp only [Fn74, bs_size, bs_at, arr_at]
 unfold keyB
 by_cases h1 : 1 ≤ l.length
 ·rw [dT (by omega), decide_eq_true h1, Bool.true_and]
  by_cases h2 : l.length ≤ 40
  ·rw [dT (by omega), decide_eq_true h2, Bool.true_and, dT (by omega)]
   have e0 : Int.toNat 0 = 0 := rfl
   simp only [e0]
   by_cases h3 : 97 ≤ (l.getD 0 0).toNat
   ·rw [dT (by omega), decide_eq_true h3, Bool.true_and, dT (by omega)]
    by_cases h4 : (l.getD 0 0).toNat ≤ 122
    ·rw [dT (by omega), decide_eq_true h4, Bool.true_and]
     refine Eq.trans (bT (trim_ok l K38 (by omega) (by decide) (by decide))) ?_
     congr 1
     exact trim_eq l K38
    ·rw [dF (by omega), decide_eq_false h4, Bool.false_and]
   ·rw [dF (by omega), decide_eq_false h3, Bool.false_and]
  ·rw [dF (by omega), decide_eq_false h2, Bool.false_and]
 ·rw [dF (by omega), decide_eq_false h1, Bool.false_and]
theorem fn75 (m : Nat) (x lo hi : Int) {R : Type} (k : Bool → Option R) : Fn75 (m + 1) x lo hi k = k (decide (lo ≤ x ∧ x ≤ hi)) := by
 simp only [Fn75]
 by_cases h1 : lo ≤ x
 ·rw [dT h1]; congr 1; simp [h1]
 ·rw [dF h1]; congr 1; simp [h1]
theorem fn70 (m : Nat) (x lo hi : Int) {R : Type} (k : Bool → Option R) : Fn70 (m + 1) x lo hi k = k (decide (lo ≤ x ∧ x ≤ hi)) := by
 simp only [Fn70]
 by_cases h1 : lo ≤ x
 ·rw [dT h1]; congr 1; simp [h1]
 ·rw [dF h1]; congr 1; simp [h1]
theorem fn118 (m : Nat) (l : List UInt8) (c : Int) {R : Type} (k : Int → Option R) : Fn118 (m + 2) (bs l) c k = k (ixI c.toNat.toUInt8 l) := by
 simp only [Fn118, Fn135, idx_bs]
theorem lp69 (m : Nat) (s cs : List UInt8) {R : Type} (k : Bool → Option R) (z : Bool) : ∀ (d n i : Nat), i + d = s.length → d < n → s.length ≤ 100000 →
  Lp69_2 (m + 2) (fun b _ => k b) (fun _ => k true) (bs s) (bs cs) z s.length n i = k ((s.drop i).all fun b => decide (b ∈ cs))
 | _, 0, _, _, h, _ => by omega
 | 0, n + 1, i, h1, h2, h3 => by
  have hi : i = s.length := by omega
  rw [Lp69_2]
  simp only [Lp69_2_step]
  rw [dF (by omega), hi, List.drop_length]
  rfl
 | d + 1, n + 1, i, h1, h2, h3 => by
  have e1 : IntKind.wrap .i64 ((i : Int) + 1) = ((i + 1 : Nat) : Int) := by rw [w64 (by omega) (by omega)]; omega
  have hd : s.drop i = s.getD i 0 :: s.drop (i + 1) := by
   rw [List.drop_eq_getElem_cons (by omega), List.getD_eq_getElem?_getD, List.getElem?_eq_getElem (by omega)]
   rfl
  rw [Lp69_2]
  simp only [Lp69_2_step, bs_size, bs_at, arr_at, e1, show Int.toNat (i : Int) = i by omega]
  rw [dT (by omega), dT (by omega)]
  refine Eq.trans (fn118 m cs ((s.getD i 0).toNat : Int) _) ?_
  have hcc : ((s.getD i 0).toNat : Int).toNat.toUInt8 = s.getD i 0 := by simp
  rw [hcc, hd, List.all_cons]
  by_cases c : s.getD i 0 ∈ cs
  ·have := ixI_nn.2 c
   rw [dF (by omega), decide_eq_true c, Bool.true_and]
   exact lp69 m s cs k z d n (i + 1) (by omega) (by omega) h3
  ·have : ¬ 0 ≤ ixI (s.getD i 0) cs := fun h => c (ixI_nn.1 h)
   rw [dT (by omega), decide_eq_false c]
   rfl
theorem fn69 (m : Nat) (s cs : List UInt8) (hs : s.length ≤ 100) (hm : 100 ≤ m) {R : Type} (k : Bool → Option R) : Fn69 (m + 3) (bs s) (bs cs) k = k (s.all fun b => decide (b ∈ cs)) := by
 simp only [Fn69, bs_size]
 exact lp69 m s cs k false s.length (m + 2) 0 (by omega) (by omega) (by omega)
theorem s26 : ((List.range 256).all fun n => decide (n.toUInt8 ∈ S26) == (decide (97 ≤ n) && decide (n ≤ 122))) = true := by kernel_rfl
theorem s26' (b : UInt8) : b ∈ S26 ↔ 97 ≤ b.toNat ∧ b.toNat ≤ 122 := by
 have h := List.all_eq_true.1 s26 b.toNat (List.mem_range.2 b.toNat_lt)
 have e : b.toNat.toUInt8 = b := by simp
 rw [e] at h
 have h := eq_of_beq h
 rw [← Bool.decide_and] at h
 exact decide_eq_decide.1 h
theorem fn34 (m : Nat) (hm : 100 ≤ m) (l : List UInt8) {R : Type} (k : Bool → Option R) : Fn34 (m + 4) (bs l) k = k (keyB l) := by
 simp only [Fn34, bs_size]
 refine Eq.trans (fn70 (m + 2) _ _ _ _) ?_
 unfold keyB
 by_cases h : 1 ≤ l.length ∧ l.length ≤ 40
 ·rw [decide_eq_true (show (1 : Int) ≤ (l.length : Int) ∧ (l.length : Int) ≤ 40 by omega), decide_eq_true h.1, decide_eq_true h.2, Bool.true_and, Bool.true_and]
  refine Eq.trans (bT rfl) ?_
  rw [dT (by omega)]
  have ht : (bs l).extract 0 (Int.toNat 1) = bs [l.getD 0 0] := by
   rw [bs_ext]
   cases l with
   | nil => simp at h
   | cons a t => rfl
  rw [ht]
  refine Eq.trans (fn69 m [l.getD 0 0] S26 (by simp) hm _) ?_
  have e1 : ([l.getD 0 0].all fun b => decide (b ∈ S26)) = (decide (97 ≤ (l.getD 0 0).toNat) && decide ((l.getD 0 0).toNat ≤ 122)) := by
   rw [List.all_cons, List.all_nil, Bool.and_true, ← Bool.decide_and]
   exact decide_eq_decide.2 (s26' _)
  rw [e1]
  cases h3 : decide (97 ≤ (l.getD 0 0).toNat) with
  | false => rfl
  | true =>
   cases h4 : decide ((l.getD 0 0).toNat ≤ 122) with
   | false => rfl
   | true =>
    refine Eq.trans (bT rfl) ?_
    exact fn69 m l K38 (by omega) hm k
 ·rw [decide_eq_false (show ¬ ((1 : Int) ≤ (l.length : Int) ∧ (l.length : Int) ≤ 40) by omega)]
  refine Eq.trans (bF rfl) ?_
  by_cases h1 : 1 ≤ l.length
  ·rw [decide_eq_true h1, decide_eq_false (show ¬ l.length ≤ 40 by omega)]; rfl
  ·rw [decide_eq_false h1]; rfl
def numB (l : List UInt8) : Bool := decide (l.head? = some 43) && (decide (4 ≤ l.tail.length ∧ l.tail.length ≤ 15) && ((l.tail.all fun b => decide (b ∈ D10)) && decide ((l.tail.getD 0 0).toNat ≠ 48)))
theorem fn104 (m : Nat) (l : List UInt8) {R : Type} (k : Bool → Option R) : Fn104 (m + 4) (bs l) k = k (numB l) := by
 simp only [Fn104]
 refine Eq.trans (fn68 m l _) ?_
 unfold numB
 by_cases h : l.head? = some 43
 ·rw [if_pos h, decide_eq_true h, Bool.true_and]
  refine Eq.trans (bT rfl) ?_
  simp only [Fn131, bs_size, bs_at, arr_at]
  by_cases h1 : 4 ≤ l.tail.length
  ·rw [dT (by omega)]
   by_cases h2 : l.tail.length ≤ 15
   ·rw [dT (by omega), decide_eq_true (show 4 ≤ l.tail.length ∧ l.tail.length ≤ 15 from ⟨h1, h2⟩), Bool.true_and]
    simp only [Fn173]
    refine Eq.trans (bT (trim_ok l.tail D10 (by omega) (by decide) (by decide))) ?_
    rw [show (ByteArray.toList (trimB (bs l.tail) { data := #[48, 49, 50, 51, 52, 53, 54, 55, 56, 57] }) == ByteArray.toList { data := #[] }) = (l.tail.all fun b => decide (b ∈ D10)) from trim_eq l.tail D10]
    cases hA : l.tail.all fun b => decide (b ∈ D10) with
    | false => rfl
    | true =>
     refine Eq.trans (bT rfl) ?_
     rw [dT (by omega), Bool.true_and]
     congr 1
     rw [Bool.eq_iff_iff]
     simp only [bne_iff_ne, decide_eq_true_eq, show Int.toNat 0 = 0 from rfl]
     omega
   ·rw [dF (by omega), decide_eq_false (show ¬ (4 ≤ l.tail.length ∧ l.tail.length ≤ 15) by omega)]; rfl
  ·rw [dF (by omega), decide_eq_false (show ¬ (4 ≤ l.tail.length ∧ l.tail.length ≤ 15) by omega)]; rfl
 ·rw [if_neg h, decide_eq_false h]; rfl
theorem fn71 (m : Nat) (hm : 100 ≤ m) (l : List UInt8) {R : Type} (k : Bool → Option R) : Fn71 (m + 4) (bs l) k = k (numB l) := by
 simp only [Fn71]
 refine Eq.trans (fn68 m l _) ?_
 unfold numB
 by_cases h : l.head? = some 43
 ·rw [if_pos h, decide_eq_true h, Bool.true_and]
  refine Eq.trans (bT rfl) ?_
  simp only [bs_size, bs_at, arr_at]
  refine Eq.trans (fn70 (m + 2) _ _ _ _) ?_
  by_cases h1 : 4 ≤ l.tail.length ∧ l.tail.length ≤ 15
  ·rw [decide_eq_true (show (4 : Int) ≤ (l.tail.length : Int) ∧ (l.tail.length : Int) ≤ 15 by omega), decide_eq_true h1, Bool.true_and]
   refine Eq.trans (bT rfl) ?_
   refine Eq.trans (fn69 m l.tail D10 (by omega) hm _) ?_
   cases hA : l.tail.all fun b => decide (b ∈ D10) with
   | false => rfl
   | true =>
    refine Eq.trans (bT rfl) ?_
    rw [dT (by omega), Bool.true_and]
    congr 1
    rw [Bool.eq_iff_iff]
    simp only [bne_iff_ne, decide_eq_true_eq, show Int.toNat 0 = 0 from rfl]
    omega
  ·rw [decide_eq_false (show ¬ ((4 : Int) ≤ (l.tail.length : Int) ∧ (l.tail.length : Int) ≤ 15) by omega), decide_eq_false h1]; rfl
 ·rw [if_neg h, decide_eq_false h]; rfl
/-! the first fault -/
def ei (l : List Int) : Abs.Rows := l.map fun x => [F.lit (.int .i64 x)]
def nz : List Int → Int
 | [] => 0
 | x :: l => if x ≠ 0 then x else nz l
theorem ei_len (l : List Int) : (ei l).length = l.length := by simp [ei]
theorem ei_fI (l : List Int) (i : Nat) (h : i < l.length) : fI (ei l) i 0 = l.getD i 0 := by
 simp [fI, dropF, Abs.rowAt, List.getD_eq_getElem?_getD, ei, h, F.toInt]
theorem lp13 (m : Nat) (l : List Int) (hl : l.length ≤ 1000) {R : Type} (k : Int → Option R) (a : Abs.Rows) (z : Int) : ∀ (d n i : Nat), i + d = l.length → d < n →
  Lp13_2 m (fun x _ => k x) (fun _ => k 0) a z (ei l) l.length n i = k (nz (l.drop i))
 | _, 0, _, _, h => by omega
 | 0, n + 1, i, h1, h2 => by
  rw [Lp13_2]
  simp only [Lp13_2_step]
  rw [dF (by omega), show i = l.length by omega, List.drop_length]
  rfl
 | d + 1, n + 1, i, h1, h2 => by
  have e1 : IntKind.wrap .i64 ((i : Int) + 1) = ((i + 1 : Nat) : Int) := by rw [w64 (by omega) (by omega)]; omega
  have hd : l.drop i = l.getD i 0 :: l.drop (i + 1) := by
   rw [List.drop_eq_getElem_cons (by omega), List.getD_eq_getElem?_getD, List.getElem?_eq_getElem (by omega)]
   rfl
  rw [Lp13_2]
  simp only [Lp13_2_step, ei_len, e1, show Int.toNat (i : Int) = i by omega]
  rw [dT (by omega), dT (by omega), ei_fI l i (by omega), hd, nz]
  by_cases c : l.getD i 0 = 0
  ·rw [nF c, if_neg (by simpa using c)]
   exact lp13 m l hl k a z d n (i + 1) (by omega) (by omega)
  ·rw [nT c, if_pos c]
theorem fn13 (m : Nat) (l : List Int) (hl : l.length ≤ 50) (hm : 51 ≤ m) {R : Type} (k : Int → Option R) : Fn13 (m + 1) (ei l) k = k (nz l) := by
 simp only [Fn13, ei_len]
 exact lp13 m l (by omega) k (ei l) 0 l.length m 0 (by omega) (by omega)
theorem fn14 (m : Nat) (b : Bool) (e : Int) {R : Type} (k : Int → Option R) : Fn14 (m + 1) b e k = k (if b = true then e else 0) := by
 simp only [Fn14]
 cases b <;> rfl
end Go.Proofs.YtcoplddcbedeoaaGreatDoor.Med
end
section
set_option linter.unusedVariables false
set_option linter.unusedSimpArgs false
set_option linter.unusedSectionVars false
namespace Go.Proofs.YtcoplddcbedeoaaGreatDoor.Med
open Go Go.Abs Go.Proofs
set_option linter.unusedVariables false
set_option linter.unusedSimpArgs false
/-! is a tariff right -/
theorem fn122b (m : Nat) (s : ByteArray) {R : Type} (k : Bool → Option R) : Fn122 (m + 4) s k = k (prefB (ls s)) := (congrArg (fun x => Fn122 (m + 4) x k) (bs_of s)).trans (fn122 m (ls s) k)
theorem fn74b (m : Nat) (s : ByteArray) {R : Type} (k : Bool → Option R) : Fn74 (m + 1) s k = k (keyB (ls s)) := (congrArg (fun x => Fn74 (m + 1) x k) (bs_of s)).trans (fn74 m (ls s) k)
theorem fn34b (m : Nat) (hm : 100 ≤ m) (s : ByteArray) {R : Type} (k : Bool → Option R) : Fn34 (m + 4) s k = k (keyB (ls s)) := (congrArg (fun x => Fn34 (m + 4) x k) (bs_of s)).trans (fn34 m hm (ls s) k)
theorem fn104b (m : Nat) (s : ByteArray) {R : Type} (k : Bool → Option R) : Fn104 (m + 4) s k = k (numB (ls s)) := (congrArg (fun x => Fn104 (m + 4) x k) (bs_of s)).trans (fn104 m (ls s) k)
theorem fn71b (m : Nat) (hm : 100 ≤ m) (s : ByteArray) {R : Type} (k : Bool → Option R) : Fn71 (m + 4) s k = k (numB (ls s)) := (congrArg (fun x => Fn71 (m + 4) x k) (bs_of s)).trans (fn71 m hm (ls s) k)
theorem fn68b (m : Nat) (s : ByteArray) {R : Type} (k : ByteArray → Bool → Option R) : Fn68 (m + 3) s (bs [43]) k = if (ls s).head? = some 43 then k (bs (ls s).tail) true else k s false := by
 refine Eq.trans (congrArg (fun x => Fn68 (m + 3) x (bs [43]) k) (bs_of s)) ?_
 refine Eq.trans (fn68 m (ls s) k) ?_
 rw [← bs_of s]
def ordB (a b : ByteArray) : Bool := Op.bytesLess a.toList b.toList || a.toList == b.toList
def rngP (a b c d : Int) : Prop := (0 ≤ a ∧ a ≤ 1000000) ∧ (0 ≤ d ∧ d ≤ 1000000) ∧ (0 ≤ b ∧ b ≤ 86400000) ∧ (1 ≤ c ∧ c ≤ 86400000)
instance (a b c d : Int) : Decidable (rngP a b c d) := by unfold rngP; infer_instance
def clF (r : Abs.Rows) (i : Nat) : Int := if prefB (ls (fS r i 0)) = false then 3 else if keyB (ls (fS r i 1)) = false then 5 else
 if ¬ rngP (fI r i 2) (fI r i 3) (fI r i 4) (fI r i 5) then 1 else if 0 < i ∧ ordB (fS r i 0) (fS r (i - 1) 0) = true then 7 else 0
def inF (r : Abs.Rows) (i : Nat) : Int := if keyB (ls (fS r i 0)) = false then 5 else if 0 < i ∧ ordB (fS r i 0) (fS r (i - 1) 0) = true then 7 else 0
def tarF (r : Abs.Rows) (free : Int) (ins : Abs.Rows) : Int := if 200 < r.length then 2 else if fstE (clF r) r.length 0 ≠ 0 then fstE (clF r) r.length 0 else
 if ¬ (0 ≤ free ∧ free ≤ 2592000000) then 1 else if 200 < ins.length then 2 else fstE (inF ins) ins.length 0
theorem wM1 {i : Nat} (h : 0 < i) (h2 : i ≤ 1000000) : IntKind.wrap .i64 ((i : Int) - 1) = ((i - 1 : Nat) : Int) := by rw [w64 (by omega) (by omega)]; omega
theorem wP1 {i : Nat} (h2 : i ≤ 1000000) : IntKind.wrap .i64 ((i : Int) + 1) = ((i + 1 : Nat) : Int) := by rw [w64 (by omega) (by omega)]; omega
theorem tN (i : Nat) : Int.toNat (i : Int) = i := by omega
theorem jn82 (m : Nat) {R : Type} (K : Int → Option R) (Z : Option R) (r : Abs.Rows) (f : Int) (q : Abs.Rows) (z : Int) (i : Nat) (hi : i < r.length) (hl : r.length ≤ 100000) (s1 s2 : ByteArray) (a1 a2 a3 a4 : Int) (r2 : Abs.Rows) (z1 z2 : Int) (b : Bool) :
  Jn82_13 m (fun e _ => K e) (fun _ => Z) r f q z i s1 s2 a1 a2 a3 a4 r2 z1 z2 b = if b = true then K 1 else if 0 < i ∧ ordB s1 (fS r (i - 1) 0) = true then K 7 else Z := by
 simp only [Jn82_13]
 cases b with
 | true => rfl
 | false =>
  refine Eq.trans (bF rfl) ?_
  rw [if_neg (by decide)]
  by_cases h : 0 < i
  ·rw [dT (by omega), wM1 h (by omega), dT (by omega), tN]
   show (bif ordB s1 (fS r (i - 1) 0) then _ else _) = _
   cases ho : ordB s1 (fS r (i - 1) 0) with
   | true => rw [if_pos ⟨h, rfl⟩]; rfl
   | false => rw [if_neg (by simp)]; rfl
  ·rw [dF (by omega), if_neg (by omega)]
theorem jn25 (m : Nat) {R : Type} (K : Int → Option R) (Z : Option R) (r : Abs.Rows) (f : Int) (q : Abs.Rows) (z : Int) (i : Nat) (hi : i < r.length) (hl : r.length ≤ 100000) (s1 s2 : ByteArray) (a1 a2 a3 a4 : Int) (r2 : Abs.Rows) (z1 z2 : Int) (b : Bool) :
  Jn25_14 m (fun e _ => K e) (fun _ => Z) r f q z i s1 s2 a1 a2 a3 a4 r2 z1 z2 b = if b = true then K 1 else if 0 < i ∧ ordB s1 (fS r (i - 1) 0) = true then K 7 else Z := by
 simp only [Jn25_14]
 cases b with
 | true => rfl
 | false =>
  refine Eq.trans (bF rfl) ?_
  rw [if_neg (by decide)]
  by_cases h : 0 < i
  ·rw [dT (by omega), wM1 h (by omega), dT (by omega), tN]
   show (bif ordB s1 (fS r (i - 1) 0) then _ else _) = _
   cases ho : ordB s1 (fS r (i - 1) 0) with
   | true => rw [if_pos ⟨h, rfl⟩]; rfl
   | false => rw [if_neg (by simp)]; rfl
  ·rw [dF (by omega), if_neg (by omega)]
theorem fstE_step {f : Nat → Int} {d i : Nat} {R : Type} {A : Option R} {K : Int → Option R} : (if fstE f (d + 1) i = 0 then A else K (fstE f (d + 1) i)) = if f i = 0 then (if fstE f d (i + 1) = 0 then A else K (fstE f d (i + 1))) else K (f i) := by
 rw [fstE]
 by_cases h : f i = 0
 ·rw [if_pos h, if_pos h]
 ·rw [if_neg h, if_neg h, if_neg h]
section
variable {r : Abs.Rows} {i : Nat}
theorem cl3 (h : prefB (ls (fS r i 0)) = false) : clF r i = 3 := by unfold clF; rw [if_pos h]
theorem cl5 (h : prefB (ls (fS r i 0)) = true) (h2 : keyB (ls (fS r i 1)) = false) : clF r i = 5 := by unfold clF; rw [if_neg (by rw [h]; decide), if_pos h2]
theorem cl1 (h : prefB (ls (fS r i 0)) = true) (h2 : keyB (ls (fS r i 1)) = true) (h3 : ¬ rngP (fI r i 2) (fI r i 3) (fI r i 4) (fI r i 5)) : clF r i = 1 := by unfold clF; rw [if_neg (by rw [h]; decide), if_neg (by rw [h2]; decide), if_pos h3]
theorem cl7 (h : prefB (ls (fS r i 0)) = true) (h2 : keyB (ls (fS r i 1)) = true) (h3 : rngP (fI r i 2) (fI r i 3) (fI r i 4) (fI r i 5)) (h4 : 0 < i ∧ ordB (fS r i 0) (fS r (i - 1) 0) = true) : clF r i = 7 := by
 unfold clF; rw [if_neg (by rw [h]; decide), if_neg (by rw [h2]; decide), if_neg (not_not_intro h3), if_pos h4]
theorem cl0 (h : prefB (ls (fS r i 0)) = true) (h2 : keyB (ls (fS r i 1)) = true) (h3 : rngP (fI r i 2) (fI r i 3) (fI r i 4) (fI r i 5)) (h4 : ¬ (0 < i ∧ ordB (fS r i 0) (fS r (i - 1) 0) = true)) : clF r i = 0 := by
 unfold clF; rw [if_neg (by rw [h]; decide), if_neg (by rw [h2]; decide), if_neg (not_not_intro h3), if_neg h4]
theorem in5 (h2 : keyB (ls (fS r i 0)) = false) : inF r i = 5 := by unfold inF; rw [if_pos h2]
theorem in7 (h2 : keyB (ls (fS r i 0)) = true) (h4 : 0 < i ∧ ordB (fS r i 0) (fS r (i - 1) 0) = true) : inF r i = 7 := by unfold inF; rw [if_neg (by rw [h2]; decide), if_pos h4]
theorem in0 (h2 : keyB (ls (fS r i 0)) = true) (h4 : ¬ (0 < i ∧ ordB (fS r i 0) (fS r (i - 1) 0) = true)) : inF r i = 0 := by unfold inF; rw [if_neg (by rw [h2]; decide), if_neg h4]
end
theorem lp82 (m : Nat) (r : Abs.Rows) (hl : r.length ≤ 100000) (f : Int) (q : Abs.Rows) (z : Int) {R : Type} (K : Int → Option R) (kx1 : Int → Option R) : ∀ (d n i : Nat), i + d = r.length → d < n →
  Lp82_5 (m + 4) (fun e _ => K e) kx1 r f q z r r.length n i = if fstE (clF r) d i = 0 then kx1 r.length else K (fstE (clF r) d i)
 | _, 0, _, _, h => by omega
 | 0, n + 1, i, h1, h2 => by
  rw [Lp82_5]
  simp only [Lp82_5_step]
  rw [dF (by omega), show i = r.length by omega]
  rfl
 | d + 1, n + 1, i, h1, h2 => by
  have ih := lp82 m r hl f q z K kx1 d n (i + 1) (by omega) (by omega)
  have hj := fun (b : Bool) => jn82 (m + 4) K (Lp82_5 (m + 4) (fun e _ => K e) kx1 r f q z r r.length n ((i + 1 : Nat) : Int)) r f q z i (by omega) hl (fS r i 0) (fS r i 1) (fI r i 2) (fI r i 3) (fI r i 4) (fI r i 5) r r.length i b
  rw [Lp82_5]
  simp only [Lp82_5_step, wP1 (show i ≤ 1000000 by omega), tN]
  rw [dT (by omega), dT (by omega), fstE_step, ← ih]
  refine Eq.trans (fn122b m _ _) ?_
  cases c1 : prefB (ls (fS r i 0)) with
  | false => rw [cl3 c1]; rfl
  | true =>
   refine Eq.trans (bF rfl) ?_
   refine Eq.trans (fn74b (m + 3) _ _) ?_
   cases c2 : keyB (ls (fS r i 1)) with
   | false => rw [cl5 c1 c2]; rfl
   | true =>
    refine Eq.trans (bF rfl) ?_
    have bad : ¬ rngP (fI r i 2) (fI r i 3) (fI r i 4) (fI r i 5) → Jn82_13 (m + 4) (fun e _ => K e) (fun _ => Lp82_5 (m + 4) (fun e _ => K e) kx1 r f q z r r.length n ((i + 1 : Nat) : Int)) r f q z i (fS r i 0) (fS r i 1) (fI r i 2) (fI r i 3) (fI r i 4) (fI r i 5) r r.length i true =
      if clF r i = 0 then Lp82_5 (m + 4) (fun e _ => K e) kx1 r f q z r r.length n ((i + 1 : Nat) : Int) else K (clF r i) := by
     intro c
     rw [hj, cl1 c1 c2 c]; rfl
    refine Eq.trans (fn75 (m + 3) _ _ _ _) ?_
    by_cases p1 : 0 ≤ fI r i 2 ∧ fI r i 2 ≤ 1000000
    ·rw [decide_eq_true p1]
     refine Eq.trans (bF rfl) ?_
     refine Eq.trans (fn75 (m + 3) _ _ _ _) ?_
     by_cases p2 : 0 ≤ fI r i 5 ∧ fI r i 5 ≤ 1000000
     ·rw [decide_eq_true p2]
      refine Eq.trans (bF rfl) ?_
      refine Eq.trans (fn75 (m + 3) _ _ _ _) ?_
      by_cases p3 : 0 ≤ fI r i 3 ∧ fI r i 3 ≤ 86400000
      ·rw [decide_eq_true p3]
       refine Eq.trans (bF rfl) ?_
       refine Eq.trans (fn75 (m + 3) _ _ _ _) ?_
       by_cases p4 : 1 ≤ fI r i 4 ∧ fI r i 4 ≤ 86400000
       ·rw [decide_eq_true p4]
        refine Eq.trans (hj _) ?_
        rw [if_neg (by decide)]
        have c : rngP (fI r i 2) (fI r i 3) (fI r i 4) (fI r i 5) := ⟨p1, p2, p3, p4⟩
        by_cases c3 : 0 < i ∧ ordB (fS r i 0) (fS r (i - 1) 0) = true
        ·rw [if_pos c3, cl7 c1 c2 c c3]; rfl
        ·rw [if_neg c3, cl0 c1 c2 c c3]; rfl
       ·rw [decide_eq_false p4]
        exact bad fun h => p4 h.2.2.2
      ·rw [decide_eq_false p3]
       exact (bT rfl).trans (bad fun h => p3 h.2.2.1)
     ·rw [decide_eq_false p2]
      exact (bT rfl).trans (bad fun h => p2 h.2.1)
    ·rw [decide_eq_false p1]
     exact (bT rfl).trans (bad fun h => p1 h.1)
theorem lp82i (m : Nat) (r q : Abs.Rows) (hl : r.length ≤ 100000) (f : Int) (z : Int) {R : Type} (K : Int → Option R) (kx1 : Int → Option R) : ∀ (d n i : Nat), i + d = r.length → d < n →
  Lp82_26 (m + 4) (fun e _ => K e) kx1 q f r z r r.length n i = if fstE (inF r) d i = 0 then kx1 r.length else K (fstE (inF r) d i)
 | _, 0, _, _, h => by omega
 | 0, n + 1, i, h1, h2 => by
  rw [Lp82_26]
  simp only [Lp82_26_step]
  rw [dF (by omega), show i = r.length by omega]
  rfl
 | d + 1, n + 1, i, h1, h2 => by
  have ih := lp82i m r q hl f z K kx1 d n (i + 1) (by omega) (by omega)
  rw [Lp82_26]
  simp only [Lp82_26_step, wP1 (show i ≤ 1000000 by omega), tN]
  rw [dT (by omega), dT (by omega), fstE_step, ← ih]
  refine Eq.trans (fn74b (m + 3) _ _) ?_
  cases c2 : keyB (ls (fS r i 0)) with
  | false => rw [in5 c2]; rfl
  | true =>
   refine Eq.trans (bF rfl) ?_
   by_cases h : 0 < i
   ·rw [dT (by omega), wM1 h (by omega), dT (by omega), tN]
    show (bif ordB (fS r i 0) (fS r (i - 1) 0) then _ else _) = _
    cases ho : ordB (fS r i 0) (fS r (i - 1) 0) with
    | true => rw [in7 c2 ⟨h, ho⟩]; rfl
    | false => rw [in0 c2 (by rw [ho]; simp)]; rfl
   ·rw [dF (by omega), in0 c2 (by omega)]; rfl
theorem fn82 (m : Nat) (hm : 300 ≤ m) (r : Abs.Rows) (f : Int) (q : Abs.Rows) {R : Type} (k : Int → Option R) : Fn82 (m + 5) r f q k = k (tarF r f q) := by
 simp only [Fn82]
 unfold tarF
 by_cases h1 : 200 < r.length
 ·rw [dT (by omega), if_pos h1]
 ·rw [dF (by omega), if_neg h1]
  refine Eq.trans (lp82 m r (by omega) f q 0 k _ r.length (m + 4) 0 (by omega) (by omega)) ?_
  by_cases h2 : fstE (clF r) r.length 0 = 0
  ·rw [if_pos h2, if_neg (not_not_intro h2)]
   refine Eq.trans (fn75 (m + 3) _ _ _ _) ?_
   by_cases h3 : 0 ≤ f ∧ f ≤ 2592000000
   ·rw [decide_eq_true h3, if_neg (not_not_intro h3)]
    refine Eq.trans (bF rfl) ?_
    by_cases h4 : 200 < q.length
    ·rw [dT (by omega), if_pos h4]
    ·rw [dF (by omega), if_neg h4]
     refine Eq.trans (lp82i m q r (by omega) f 0 k _ q.length (m + 4) 0 (by omega) (by omega)) ?_
     by_cases h5 : fstE (inF q) q.length 0 = 0
     ·rw [if_pos h5, h5]
     ·rw [if_neg h5]
   ·rw [decide_eq_false h3, if_pos h3]; rfl
  ·rw [if_neg h2, if_pos h2]
end Go.Proofs.YtcoplddcbedeoaaGreatDoor.Med
end
section
set_option linter.unusedVariables false
set_option linter.unusedSimpArgs false
set_option linter.unusedSectionVars false
namespace Go.Proofs.YtcoplddcbedeoaaGreatDoor.Med
open Go Go.Abs Go.Proofs
set_option linter.unusedVariables false
set_option linter.unusedSimpArgs false
/-! the reference: is a tariff right -/
theorem jn25b (m : Nat) (hm : 100 ≤ m) {R : Type} (K : Int → Option R) (Z : Option R) (r : Abs.Rows) (f : Int) (q : Abs.Rows) (z : Int) (i : Nat) (hi : i < r.length) (hl : r.length ≤ 100000) (s1 s2 : ByteArray) (a1 a2 a3 a4 : Int) (r2 : Abs.Rows) (z1 z2 : Int) (b : Bool) :
  Jn25_10 (m + 4) (fun e _ => K e) (fun e => K e) Z r f q z i s1 s2 a1 a2 a3 a4 r2 z1 z2 b = if b = true then K 3 else if keyB (ls s2) = false then K 5 else if ¬ rngP a1 a2 a3 a4 then K 1 else if 0 < i ∧ ordB s1 (fS r (i - 1) 0) = true then K 7 else Z := by
 simp only [Jn25_10]
 cases b with
 | true => rfl
 | false =>
  refine Eq.trans (bF rfl) ?_
  rw [if_neg (by decide)]
  refine Eq.trans (fn34b m hm _ _) ?_
  cases c2 : keyB (ls s2) with
  | false => rfl
  | true =>
   refine Eq.trans (bF rfl) ?_
   rw [if_neg (by decide)]
   have hj := fun (b : Bool) => jn25 (m + 4) K Z r f q z i hi hl s1 s2 a1 a2 a3 a4 r2 z1 z2 b
   refine Eq.trans (fn70 (m + 3) _ _ _ _) ?_
   by_cases p1 : 0 ≤ a1 ∧ a1 ≤ 1000000
   ·rw [decide_eq_true p1]
    refine Eq.trans (bF rfl) ?_
    refine Eq.trans (fn70 (m + 3) _ _ _ _) ?_
    by_cases p2 : 0 ≤ a4 ∧ a4 ≤ 1000000
    ·rw [decide_eq_true p2]
     refine Eq.trans (bF rfl) ?_
     refine Eq.trans (fn70 (m + 3) _ _ _ _) ?_
     by_cases p3 : 0 ≤ a2 ∧ a2 ≤ 86400000
     ·rw [decide_eq_true p3]
      refine Eq.trans (bF rfl) ?_
      refine Eq.trans (fn70 (m + 3) _ _ _ _) ?_
      refine Eq.trans (hj _) ?_
      by_cases p4 : 1 ≤ a3 ∧ a3 ≤ 86400000
      ·rw [decide_eq_true p4, if_neg (by decide), if_neg (not_not_intro (show rngP a1 a2 a3 a4 from ⟨p1, p2, p3, p4⟩))]
      ·rw [decide_eq_false p4, if_pos (show (!false) = true from rfl), if_pos (fun h : rngP a1 a2 a3 a4 => p4 h.2.2.2)]
     ·rw [decide_eq_false p3, if_pos (fun h : rngP a1 a2 a3 a4 => p3 h.2.2.1)]
      exact (bT rfl).trans ((hj true).trans (if_pos rfl))
    ·rw [decide_eq_false p2, if_pos (fun h : rngP a1 a2 a3 a4 => p2 h.2.1)]
     exact (bT rfl).trans ((hj true).trans (if_pos rfl))
   ·rw [decide_eq_false p1, if_pos (fun h : rngP a1 a2 a3 a4 => p1 h.1)]
    exact (bT rfl).trans ((hj true).trans (if_pos rfl))
theorem lp25 (m : Nat) (hm : 100 ≤ m) (r : Abs.Rows) (hl : r.length ≤ 100000) (f : Int) (q : Abs.Rows) (z : Int) {R : Type} (K : Int → Option R) (kx1 : Int → Option R) : ∀ (d n i : Nat), i + d = r.length → d < n →
  Lp25_5 (m + 4) (fun e _ => K e) kx1 r f q z r r.length n i = if fstE (clF r) d i = 0 then kx1 r.length else K (fstE (clF r) d i)
 | _, 0, _, _, h => by omega
 | 0, n + 1, i, h1, h2 => by
  rw [Lp25_5]
  simp only [Lp25_5_step]
  rw [dF (by omega), show i = r.length by omega]
  rfl
 | d + 1, n + 1, i, h1, h2 => by
  have ih := lp25 m hm r hl f q z K kx1 d n (i + 1) (by omega) (by omega)
  have hj := fun (b : Bool) => jn25b m hm K (Lp25_5 (m + 4) (fun e _ => K e) kx1 r f q z r r.length n ((i + 1 : Nat) : Int)) r f q z i (by omega) hl (fS r i 0) (fS r i 1) (fI r i 2) (fI r i 3) (fI r i 4) (fI r i 5) r r.length i b
  rw [Lp25_5]
  simp only [Lp25_5_step, wP1 (show i ≤ 1000000 by omega), tN]
  rw [dT (by omega), dT (by omega)]
  refine Eq.trans (fn68b (m + 1) _ _) ?_
  have main : ∀ b : Bool, (b = !prefB (ls (fS r i 0))) → Jn25_10 (m + 4) (fun e _ => K e) (fun e => K e) (Lp25_5 (m + 4) (fun e _ => K e) kx1 r f q z r r.length n ((i + 1 : Nat) : Int)) r f q z i (fS r i 0) (fS r i 1) (fI r i 2) (fI r i 3) (fI r i 4) (fI r i 5) r r.length i b =
    if fstE (clF r) (d + 1) i = 0 then kx1 r.length else K (fstE (clF r) (d + 1) i) := by
   intro b hb
   rw [hj, hb, fstE_step, ← ih]
   cases c1 : prefB (ls (fS r i 0)) with
   | false => rw [cl3 c1]; rfl
   | true =>
    cases c2 : keyB (ls (fS r i 1)) with
    | false => rw [cl5 c1 c2]; rfl
    | true =>
     rw [if_neg (by decide), if_neg (by decide)]
     by_cases c : rngP (fI r i 2) (fI r i 3) (fI r i 4) (fI r i 5)
     ·rw [if_neg (not_not_intro c)]
      by_cases c3 : 0 < i ∧ ordB (fS r i 0) (fS r (i - 1) 0) = true
      ·rw [if_pos c3, cl7 c1 c2 c c3]; rfl
      ·rw [if_neg c3, cl0 c1 c2 c c3]; rfl
     ·rw [if_pos c, cl1 c1 c2 c]; rfl
  have hn : ((fS r i 0).toList == (bs []).toList) = decide (ls (fS r i 0) = []) := by
   rw [bs_toList, Lib.toList_data, Bool.eq_iff_iff]; simp
  have hpe : prefB (ls (fS r i 0)) = (decide (ls (fS r i 0) = []) || (decide ((ls (fS r i 0)).head? = some 43) && (decide ((ls (fS r i 0)).tail.length ≤ 15) && (ls (fS r i 0)).tail.all fun b => decide (b ∈ D10)))) := rfl
  by_cases h0 : ls (fS r i 0) = []
  ·have hh : (ls (fS r i 0)).head? ≠ some 43 := by rw [h0]; simp
   rw [if_neg hh]
   have hn' : (!((fS r i 0).toList == ({ data := #[] } : ByteArray).toList)) = false := by rw [show ((fS r i 0).toList == ({ data := #[] } : ByteArray).toList) = _ from hn, decide_eq_true h0]; rfl
   refine Eq.trans (bF hn') ?_
   exact main false (by rw [hpe, decide_eq_true h0]; rfl)
  ·have hn' : (!((fS r i 0).toList == ({ data := #[] } : ByteArray).toList)) = true := by rw [show ((fS r i 0).toList == ({ data := #[] } : ByteArray).toList) = _ from hn, decide_eq_false h0]; rfl
   by_cases h : (ls (fS r i 0)).head? = some 43
   ·rw [if_pos h]
    refine Eq.trans (bT hn') ?_
    refine Eq.trans (bF rfl) ?_
    rw [bs_size]
    by_cases h2 : (ls (fS r i 0)).tail.length ≤ 15
    ·rw [dF (by omega)]
     refine Eq.trans (fn69 (m + 1) _ D10 (by omega) (by omega) _) ?_
     exact main _ (by rw [hpe, decide_eq_false h0, decide_eq_true h, decide_eq_true h2]; rfl)
    ·rw [dT (by omega)]
     exact main true (by rw [hpe, decide_eq_false h0, decide_eq_true h, decide_eq_false h2]; rfl)
   ·rw [if_neg h]
    refine Eq.trans (bT hn') ?_
    refine Eq.trans (bT rfl) ?_
    exact main true (by rw [hpe, decide_eq_false h0, decide_eq_false h]; rfl)
theorem lp25i (m : Nat) (hm : 100 ≤ m) (r q : Abs.Rows) (hl : r.length ≤ 100000) (f : Int) (z : Int) {R : Type} (K : Int → Option R) (kx1 : Int → Option R) : ∀ (d n i : Nat), i + d = r.length → d < n →
  Lp25_26 (m + 4) (fun e _ => K e) kx1 q f r z r r.length n i = if fstE (inF r) d i = 0 then kx1 r.length else K (fstE (inF r) d i)
 | _, 0, _, _, h => by omega
 | 0, n + 1, i, h1, h2 => by
  rw [Lp25_26]
  simp only [Lp25_26_step]
  rw [dF (by omega), show i = r.length by omega]
  rfl
 | d + 1, n + 1, i, h1, h2 => by
  have ih := lp25i m hm r q hl f z K kx1 d n (i + 1) (by omega) (by omega)
  rw [Lp25_26]
  simp only [Lp25_26_step, wP1 (show i ≤ 1000000 by omega), tN]
  rw [dT (by omega), dT (by omega), fstE_step, ← ih]
  refine Eq.trans (fn34b m hm _ _) ?_
  cases c2 : keyB (ls (fS r i 0)) with
  | false => rw [in5 c2]; rfl
  | true =>
   refine Eq.trans (bF rfl) ?_
   by_cases h : 0 < i
   ·rw [dT (by omega), wM1 h (by omega), dT (by omega), tN]
    show (bif ordB (fS r i 0) (fS r (i - 1) 0) then _ else _) = _
    cases ho : ordB (fS r i 0) (fS r (i - 1) 0) with
    | true => rw [in7 c2 ⟨h, ho⟩]; rfl
    | false => rw [in0 c2 (by rw [ho]; simp)]; rfl
   ·rw [dF (by omega), in0 c2 (by omega)]; rfl
theorem fn25 (m : Nat) (hm : 300 ≤ m) (r : Abs.Rows) (f : Int) (q : Abs.Rows) {R : Type} (k : Int → Option R) : Fn25 (m + 5) r f q k = k (tarF r f q) := by
 simp only [Fn25]
 unfold tarF
 by_cases h1 : 200 < r.length
 ·rw [dT (by omega), if_pos h1]
 ·rw [dF (by omega), if_neg h1]
  refine Eq.trans (lp25 m (by omega) r (by omega) f q 0 k _ r.length (m + 4) 0 (by omega) (by omega)) ?_
  by_cases h2 : fstE (clF r) r.length 0 = 0
  ·rw [if_pos h2, if_neg (not_not_intro h2)]
   refine Eq.trans (fn70 (m + 3) _ _ _ _) ?_
   by_cases h3 : 0 ≤ f ∧ f ≤ 2592000000
   ·rw [decide_eq_true h3, if_neg (not_not_intro h3)]
    refine Eq.trans (bF rfl) ?_
    by_cases h4 : 200 < q.length
    ·rw [dT (by omega), if_pos h4]
    ·rw [dF (by omega), if_neg h4]
     refine Eq.trans (lp25i m (by omega) q r (by omega) f 0 k _ q.length (m + 4) 0 (by omega) (by omega)) ?_
     by_cases h5 : fstE (inF q) q.length 0 = 0
     ·rw [if_pos h5, h5]
     ·rw [if_neg h5]
   ·rw [decide_eq_false h3, if_pos h3]; rfl
  ·rw [if_neg h2, if_pos h2]
end Go.Proofs.YtcoplddcbedeoaaGreatDoor.Med
end
section
set_option linter.unusedVariables false
set_option linter.unusedSimpArgs false
set_option linter.unusedSectionVars false
namespace Go.Proofs.YtcoplddcbedeoaaGreatDoor.Med
open Go Go.Abs Go.Proofs
set_option linter.unusedVariables false
set_option linter.unusedSimpArgs false
/-! the class of a number -/
/-- - -/
def fxF (r : Abs.Rows) (t : List UInt8) : Nat → Nat → Option Nat
 | 0, _ => none
 | d + 1, i => if ls (fS r i 0) = t then some i else fxF r t d (i + 1)
theorem fx_some {r : Abs.Rows} {t : List UInt8} {e : Nat} (he : ls (fS r e 0) = t) : ∀ (d i : Nat), i ≤ e → e < i + d → (∀ a, i ≤ a → a < e → ls (fS r a 0) ≠ t) → fxF r t d i = some e
 | 0, i, h1, h2, _ => by omega
 | d + 1, i, h1, h2, h3 => by
  rw [fxF]
  by_cases c : i = e
  ·subst c; rw [if_pos he]
  ·rw [if_neg (h3 i (by omega) (by omega))]
   exact fx_some he d (i + 1) (by omega) (by omega) fun a h4 h5 => h3 a (by omega) h5
theorem fx_none {r : Abs.Rows} {t : List UInt8} : ∀ (d i : Nat), (∀ a, i ≤ a → a < i + d → ls (fS r a 0) ≠ t) → fxF r t d i = none
 | 0, i, _ => rfl
 | d + 1, i, h => by
  rw [fxF, if_neg (h i (by omega) (by omega))]
  exact fx_none d (i + 1) fun a h4 h5 => h a (by omega) (by omega)
theorem fx_lt {r : Abs.Rows} {t : List UInt8} {e : Nat} : ∀ (d i : Nat), fxF r t d i = some e → i ≤ e ∧ e < i + d
 | 0, i, h => by cases h
 | d + 1, i, h => by
  rw [fxF] at h
  split at h
  ·cases h; omega
  ·have := fx_lt d (i + 1) h; omega
def clsF (r : Abs.Rows) (l : List UInt8) : Nat → Option Nat
 | 0 => fxF r (l.take 0) r.length 0
 | n + 1 => match fxF r (l.take (n + 1)) r.length 0 with
  | some j => some j
  | none => clsF r l n
def apC {R : Type} (r : Abs.Rows) (o : Option Nat) (k : ByteArray → ByteArray → Int → Int → Int → Int → Bool → Option R) : Option R := match o with
 | some j => k (fS r j 0) (fS r j 1) (fI r j 2) (fI r j 3) (fI r j 4) (fI r j 5) true
 | none => k ⟨#[]⟩ ⟨#[]⟩ 0 0 0 0 false
def SortP (r : Abs.Rows) : Prop := ∀ a b, a < b → b < r.length → ls (fS r a 0) < ls (fS r b 0)
theorem ordB_lt {a b : ByteArray} (h : ordB a b = false) : ls b < ls a := by
 unfold ordB at h
 rw [bytesLess_dec, Lib.toList_data, Lib.toList_data, Bool.or_eq_false_iff] at h
 rcases lt_tri (ls a) (ls b) with c | c | c
 ·have := of_decide_eq_false h.1; exact (this c).elim
 ·have := h.2; rw [show a.data.toList = b.data.toList from c, beq_self_eq_true] at this; cases this
 ·exact c
theorem sort_of {r : Abs.Rows} (h : ∀ j, j < r.length → clF r j = 0) : SortP r := by
 have step : ∀ j, 0 < j → j < r.length → ls (fS r (j - 1) 0) < ls (fS r j 0) := by
  intro j h0 h1
  have := h j h1
  unfold clF at this
  apply ordB_lt
  cases c : ordB (fS r j 0) (fS r (j - 1) 0) with
  | false => rfl
  | true =>
   exfalso
   split at this
   ·omega
   ·split at this
    ·omega
    ·split at this
     ·omega
     ·rw [if_pos ⟨h0, c⟩] at this; omega
 intro a b hab hb
 obtain ⟨d, rfl⟩ : ∃ d, b = a + 1 + d := ⟨b - (a + 1), by omega⟩
 clear hab
 induction d with
 | zero => exact step (a + 1) (by omega) hb
 | succ d ih => exact lt_tr (ih (by omega)) (step (a + 1 + (d + 1)) (by omega) hb)
theorem hmid {i j : Nat} (h : i + j ≤ 1000000) : IntKind.wrap IntKind.i64 (Int.fdiv (IntKind.wrap IntKind.u64 (IntKind.wrap IntKind.i64 ((i : Int) + (j : Int)))) ((2 : Int) ^ min (Int.toNat (1 : Int)) (64 : Nat))) = (((i + j) / 2 : Nat) : Int) := by
 rw [w64 (x := (i : Int) + j) (by omega) (by omega), IntKind.wrap_u64]
 have e : ((i : Int) + (j : Int)) % 18446744073709551616 = (i : Int) + j := by omega
 have e2 : ((2 : Int) ^ min (Int.toNat (1 : Int)) (64 : Nat)) = 2 := by decide
 first
  | rw [e, e2]
  | skip
 rw [Int.fdiv_eq_ediv_of_nonneg _ (by omega), w64 (by omega) (by omega)]
 omega
theorem lp112 (m : Nat) (r : Abs.Rows) (hl : r.length ≤ 100000) (hs : SortP r) (t : List UInt8) (z : Int) {R : Type} (K : Int → Int → Option R) : ∀ (d n i j : Nat), j - i ≤ d → d < n → i ≤ j → j ≤ r.length →
  (∀ a, a < i → ls (fS r a 0) < t) → (∀ a, j ≤ a → a < r.length → ¬ ls (fS r a 0) < t) →
  ∃ e : Nat, e ≤ r.length ∧ (∀ a, a < e → ls (fS r a 0) < t) ∧ (∀ a, e ≤ a → a < r.length → ¬ ls (fS r a 0) < t) ∧ Lp112_3 (m + 1) K r (bs t) z n i j = K e e
 | _, 0, _, _, _, h, _, _, _, _ => by omega
 | d, n + 1, i, j, h1, h2, h3, h4, h5, h6 => by
  by_cases c : i < j
  ·obtain ⟨d, rfl⟩ : ∃ d', d = d' + 1 := ⟨d - 1, by omega⟩
   have hm1 : (i + j) / 2 < j := by omega
   have hm2 : i ≤ (i + j) / 2 := by omega
   have step : Lp112_3 (m + 1) K r (bs t) z (n + 1) i j = bif decide (cmS (ls (fS r ((i + j) / 2) 0)) t < 0) then Lp112_3 (m + 1) K r (bs t) z n (((i + j) / 2 + 1 : Nat) : Int) j else Lp112_3 (m + 1) K r (bs t) z n i (((i + j) / 2 : Nat) : Int) := by
    rw [Lp112_3]
    simp only [Lp112_3_step, hmid (show i + j ≤ 1000000 by omega), wP1 (show (i + j) / 2 ≤ 1000000 by omega), tN, Fn113]
    rw [dT (by omega), dT (by omega)]
    rfl
   by_cases c2 : ls (fS r ((i + j) / 2) 0) < t
   ·obtain ⟨e, e1, e2, e3, e4⟩ := lp112 m r hl hs t z K d n ((i + j) / 2 + 1) j (by omega) (by omega) (by omega) h4 (fun a ha => by
     by_cases ca : a = (i + j) / 2
     ·rw [ca]; exact c2
     ·exact lt_tr (hs a ((i + j) / 2) (by omega) (by omega)) c2) h6
    exact ⟨e, e1, e2, e3, by rw [step, dT ((cmS_lt _ _).2 c2), e4]⟩
   ·obtain ⟨e, e1, e2, e3, e4⟩ := lp112 m r hl hs t z K d n i ((i + j) / 2) (by omega) (by omega) (by omega) (by omega) h5 (fun a ha hb hlt => by
     by_cases ca : a = (i + j) / 2
     ·rw [ca] at hlt; exact c2 hlt
     ·exact c2 (lt_tr (hs ((i + j) / 2) a (by omega) hb) hlt))
    exact ⟨e, e1, e2, e3, by rw [step, dF (fun h => c2 ((cmS_lt _ _).1 h)), e4]⟩
  ·obtain rfl : i = j := by omega
   refine ⟨i, h4, h5, h6, ?_⟩
   rw [Lp112_3]
   simp only [Lp112_3_step]
   rw [dF (by omega)]
theorem fn112 (m : Nat) (r : Abs.Rows) (hl : r.length ≤ 1000) (hm : 1000 ≤ m) (hs : SortP r) (t : List UInt8) {R : Type} (k : Int → Bool → Option R) : ∃ e : Int, Fn112 (m + 2) r (bs t) k = match fxF r t r.length 0 with
  | some j => k j true
  | none => k e false := by
 simp only [Fn112]
 obtain ⟨e, e1, e2, e3, e4⟩ := lp112 m r (by omega) hs t r.length (fun i310 i311 => bif decide (i310 < (r.length : Int)) then (bif decide ((0 : Int) ≤ i310 ∧ i310 < (r.length : Int)) then (Fn113 (m + 1) (fS r (Int.toNat i310) 0) (fS r (Int.toNat i310) 1) (fI r (Int.toNat i310) 2) (fI r (Int.toNat i310) 3) (fI r (Int.toNat i310) 4) (fI r (Int.toNat i310) 5) (bs t) (fun i312 => k i310 (i312 == (0 : Int)))) else none) else (k i310 false)) r.length (m + 1) 0 r.length (by omega) (by omega) (by omega) (by omega) (fun a ha => by omega) (fun a ha hb => by omega)
 refine ⟨e, Eq.trans e4 ?_⟩
 by_cases c : e < r.length
 ·rw [dT (by omega), dT (by omega)]
  simp only [Fn113, tN]
  by_cases c2 : ls (fS r e 0) = t
  ·rw [fx_some c2 r.length 0 (by omega) (by omega) fun a h1 h2 h3 => lt_irr t (h3 ▸ e2 a h2)]
   show k e (cmS (ls (fS r e 0)) t == 0) = k e true
   rw [(cmS_eq _ _).2 c2]; rfl
  ·rw [fx_none (r := r) (t := t) r.length 0 fun a h1 h2 h3 => by
    by_cases ca : a < e
    ·exact lt_irr t (h3 ▸ e2 a ca)
    ·by_cases ce : a = e
     ·exact c2 (ce ▸ h3)
     ·exact e3 e (by omega) c (h3 ▸ hs e a (by omega) (by omega))]
   show k e (cmS (ls (fS r e 0)) t == 0) = k e false
   rw [beq_false_of_ne (fun h => c2 ((cmS_eq _ _).1 h))]
 ·rw [dF (by omega), fx_none (r := r) (t := t) r.length 0 fun a h1 h2 h3 => lt_irr t (h3 ▸ e2 a (by omega))]
theorem wM1' {N : Nat} (h2 : N ≤ 1000000) : IntKind.wrap .i64 (((N + 1 : Nat) : Int) - 1) = (N : Int) := by rw [w64 (by omega) (by omega)]; omega
theorem lp57 (m : Nat) (r : Abs.Rows) (hl : r.length ≤ 1000) (hm : 1000 ≤ m) (hs : SortP r) (l : List UInt8) (hl2 : l.length ≤ 1000) (f : Int) (q : Abs.Rows) (s1 s2 : ByteArray) (a1 a2 a3 a4 : Int) (b : Bool) {R : Type} (K : ByteArray → ByteArray → Int → Int → Int → Int → Bool → Option R) (Z : Option R) : ∀ (N n : Nat), N + 1 < n → N ≤ l.length →
  Lp57_2 (m + 2) (fun a b c d e f g _ => K a b c d e f g) (fun _ => Z) (bs l) r f q s1 s2 a1 a2 a3 a4 b n N = match clsF r l N with
   | some j => K (fS r j 0) (fS r j 1) (fI r j 2) (fI r j 3) (fI r j 4) (fI r j 5) true
   | none => Z
 | _, 0, h, _ => by omega
 | 0, n + 1, h, h2 => by
  rw [Lp57_2]
  simp only [Lp57_2_step, bs_size]
  rw [dT (by omega), dT (by omega)]
  have ht : (bs l).extract 0 (Int.toNat ((0 : Nat) : Int)) = bs (l.take 0) := bs_take l 0
  rw [ht]
  obtain ⟨e, he⟩ := fn112 m r hl hm hs (l.take 0) (fun i315 b316 => bif b316 then (bif decide ((0 : Int) ≤ i315 ∧ i315 < (r.length : Int)) then (K (fS r (Int.toNat i315) 0) (fS r (Int.toNat i315) 1) (fI r (Int.toNat i315) 2) (fI r (Int.toNat i315) 3) (fI r (Int.toNat i315) 4) (fI r (Int.toNat i315) 5) true) else none) else (Lp57_2 (m + 2) (fun a b c d e f g _ => K a b c d e f g) (fun _ => Z) (bs l) r f q s1 s2 a1 a2 a3 a4 b n (IntKind.wrap IntKind.i64 (((0 : Nat) : Int) - 1))))
  refine Eq.trans he ?_
  rw [clsF]
  cases hf : fxF r (l.take 0) r.length 0 with
  | some j =>
   have := fx_lt _ _ hf
   refine Eq.trans (bT rfl) ?_
   rw [dT (by omega), tN]
  | none =>
   refine Eq.trans (bF rfl) ?_
   rw [w64 (by omega) (by omega)]
   cases n with
   | zero => omega
   | succ n =>
    rw [Lp57_2]
    simp only [Lp57_2_step]
    rw [dF (by omega)]
 | N + 1, n + 1, h, h2 => by
  rw [Lp57_2]
  simp only [Lp57_2_step, bs_size]
  rw [dT (by omega), dT (by omega)]
  have ht : (bs l).extract 0 (Int.toNat ((N + 1 : Nat) : Int)) = bs (l.take (N + 1)) := bs_take l (N + 1)
  rw [ht]
  obtain ⟨e, he⟩ := fn112 m r hl hm hs (l.take (N + 1)) (fun i315 b316 => bif b316 then (bif decide ((0 : Int) ≤ i315 ∧ i315 < (r.length : Int)) then (K (fS r (Int.toNat i315) 0) (fS r (Int.toNat i315) 1) (fI r (Int.toNat i315) 2) (fI r (Int.toNat i315) 3) (fI r (Int.toNat i315) 4) (fI r (Int.toNat i315) 5) true) else none) else (Lp57_2 (m + 2) (fun a b c d e f g _ => K a b c d e f g) (fun _ => Z) (bs l) r f q s1 s2 a1 a2 a3 a4 b n (IntKind.wrap IntKind.i64 (((N + 1 : Nat) : Int) - 1))))
  refine Eq.trans he ?_
  rw [clsF]
  cases hf : fxF r (l.take (N + 1)) r.length 0 with
  | some j =>
   have := fx_lt _ _ hf
   refine Eq.trans (bT rfl) ?_
   rw [dT (by omega), tN]
  | none =>
   refine Eq.trans (bF rfl) ?_
   rw [wM1' (by omega)]
   exact lp57 m r hl hm hs l hl2 f q s1 s2 a1 a2 a3 a4 b K Z N n (by omega) (by omega)
theorem fn57 (m : Nat) (r : Abs.Rows) (hl : r.length ≤ 1000) (hm : 1100 ≤ m) (hs : SortP r) (l : List UInt8) (hl2 : l.length ≤ 1000) (f : Int) (q : Abs.Rows) {R : Type} (k : ByteArray → ByteArray → Int → Int → Int → Int → Bool → Option R) :
  Fn57 (m + 3) r f q (bs l) k = apC r (clsF r l l.length) k := by
 simp only [Fn57, bs_size]
 refine Eq.trans (lp57 m r hl (by omega) hs l hl2 f q _ _ _ _ _ _ _ k _ l.length (m + 2) (by omega) (by omega)) ?_
 unfold apC
 cases clsF r l l.length <;> rfl
theorem lp114i (m : Nat) (r : Abs.Rows) (hl : r.length ≤ 1000) (l : List UInt8) (N : Nat) (hN : N ≤ l.length) (f : Int) (q : Abs.Rows) (s1 s2 : ByteArray) (a1 a2 a3 a4 : Int) (b : Bool) {R : Type} (K : ByteArray → ByteArray → Int → Int → Int → Int → Bool → Option R) (Z : Option R) : ∀ (d n i : Nat), i + d = r.length → d < n →
  Lp114_6 m (fun a b c d e f g _ => K a b c d e f g) (fun _ => Z) (bs l) r f q s1 s2 a1 a2 a3 a4 b N r r.length n i = match fxF r (l.take N) d i with
   | some j => K (fS r j 0) (fS r j 1) (fI r j 2) (fI r j 3) (fI r j 4) (fI r j 5) true
   | none => Z
 | _, 0, _, _, h => by omega
 | 0, n + 1, i, h1, h2 => by
  rw [Lp114_6]
  simp only [Lp114_6_step]
  rw [dF (by omega)]
  rfl
 | d + 1, n + 1, i, h1, h2 => by
  rw [Lp114_6]
  simp only [Lp114_6_step, bs_size, tN, wP1 (show i ≤ 1000000 by omega)]
  rw [dT (by omega), dT (by omega), dT (by omega), bs_take, bs_toList, Lib.toList_data, fxF]
  by_cases c : ls (fS r i 0) = l.take N
  ·rw [lT c, if_pos c]
  ·rw [lF c, if_neg c]
   exact lp114i m r hl l N hN f q s1 s2 a1 a2 a3 a4 b K Z d n (i + 1) (by omega) (by omega)
theorem lp114 (m : Nat) (r : Abs.Rows) (hl : r.length ≤ 1000) (hm : 1000 < m) (l : List UInt8) (hl2 : l.length ≤ 1000) (f : Int) (q : Abs.Rows) (s1 s2 : ByteArray) (a1 a2 a3 a4 : Int) (b : Bool) {R : Type} (K : ByteArray → ByteArray → Int → Int → Int → Int → Bool → Option R) (Z : Option R) : ∀ (N n : Nat), N + 1 < n → N ≤ l.length →
  Lp114_2 m (fun a b c d e f g _ => K a b c d e f g) (fun _ => Z) (bs l) r f q s1 s2 a1 a2 a3 a4 b n N = match clsF r l N with
   | some j => K (fS r j 0) (fS r j 1) (fI r j 2) (fI r j 3) (fI r j 4) (fI r j 5) true
   | none => Z
 | _, 0, h, _ => by omega
 | 0, n + 1, h, h2 => by
  rw [Lp114_2]
  simp only [Lp114_2_step]
  rw [dT (by omega)]
  refine Eq.trans (lp114i m r hl l 0 (by omega) f q s1 s2 a1 a2 a3 a4 b K _ r.length m 0 (by omega) (by omega)) ?_
  rw [clsF]
  cases hf : fxF r (l.take 0) r.length 0 with
  | some j => rfl
  | none =>
   show Lp114_2 m (fun a b c d e f g _ => K a b c d e f g) (fun _ => Z) (bs l) r f q s1 s2 a1 a2 a3 a4 b n (IntKind.wrap IntKind.i64 (((0 : Nat) : Int) - 1)) = Z
   rw [w64 (by omega) (by omega)]
   cases n with
   | zero => omega
   | succ n =>
    rw [Lp114_2]
    simp only [Lp114_2_step]
    rw [dF (by omega)]
 | N + 1, n + 1, h, h2 => by
  rw [Lp114_2]
  simp only [Lp114_2_step]
  rw [dT (by omega)]
  refine Eq.trans (lp114i m r hl l (N + 1) (by omega) f q s1 s2 a1 a2 a3 a4 b K _ r.length m 0 (by omega) (by omega)) ?_
  rw [clsF]
  cases hf : fxF r (l.take (N + 1)) r.length 0 with
  | some j => rfl
  | none =>
   show Lp114_2 m (fun a b c d e f g _ => K a b c d e f g) (fun _ => Z) (bs l) r f q s1 s2 a1 a2 a3 a4 b n (IntKind.wrap IntKind.i64 (((N + 1 : Nat) : Int) - 1)) = _
   rw [wM1' (by omega)]
   exact lp114 m r hl hm l hl2 f q s1 s2 a1 a2 a3 a4 b K Z N n (by omega) (by omega)
theorem fn114 (m : Nat) (r : Abs.Rows) (hl : r.length ≤ 1000) (hm : 1100 ≤ m) (l : List UInt8) (hl2 : l.length ≤ 1000) (f : Int) (q : Abs.Rows) {R : Type} (k : ByteArray → ByteArray → Int → Int → Int → Int → Bool → Option R) :
  Fn114 (m + 1) r f q (bs l) k = apC r (clsF r l l.length) k := by
 simp only [Fn114, bs_size]
 refine Eq.trans (lp114 m r hl (by omega) l hl2 f q _ _ _ _ _ _ _ k _ l.length m (by omega) (by omega)) ?_
 unfold apC
 cases clsF r l l.length <;> rfl
end Go.Proofs.YtcoplddcbedeoaaGreatDoor.Med
end
section
set_option linter.unusedVariables false
set_option linter.unusedSimpArgs false
set_option linter.unusedSectionVars false
namespace Go.Proofs.YtcoplddcbedeoaaGreatDoor.Med
open Go Go.Abs Go.Proofs
set_option linter.unusedVariables false
set_option linter.unusedSimpArgs false
/-! what a call costs -/
def ovr (b t : Int) : Int := if t - b > 0 then t - b else 0
def prc (a b c d t : Int) : Int := if t = 0 then 0 else a + d * ((ovr b t + c - 1) / c)
theorem ceil_eq {x c : Int} (hx : 0 ≤ x) (hc : 1 ≤ c) : (x + c - 1) / c = x / c + (if x % c > 0 then 1 else 0) := by
 have h1 := Int.mul_ediv_add_emod x c
 have h2 := Int.emod_nonneg x (show c ≠ 0 by omega)
 have h3 := Int.emod_lt_of_pos x (show 0 < c by omega)
 have e : x + c - 1 = (x % c + c - 1) + c * (x / c) := by omega
 rw [e, Int.add_mul_ediv_left _ _ (by omega), Int.add_comm]
 congr 1
 by_cases c0 : x % c > 0
 ·rw [if_pos c0]
  have e2 : x % c + c - 1 = (x % c - 1) + c * 1 := by omega
  rw [e2, Int.add_mul_ediv_left _ _ (by omega), Int.ediv_eq_zero_of_lt (by omega) (by omega)]
  rfl
 ·rw [if_neg c0, Int.ediv_eq_zero_of_lt (by omega) (by omega)]
theorem q_b {x c : Int} (hx : 0 ≤ x) (hx2 : x ≤ 86400000) (hc : 1 ≤ c) (hc2 : c ≤ 86400000) : 0 ≤ (x + c - 1) / c ∧ (x + c - 1) / c ≤ 200000000 := by
 refine ⟨Int.ediv_nonneg (by omega) (by omega), ?_⟩
 have := Int.ediv_le_self c (show 0 ≤ x + c - 1 by omega)
 omega
theorem dq_b {d y : Int} (h0 : 0 ≤ d) (h1 : d ≤ 1000000) (h2 : 0 ≤ y) (h3 : y ≤ 200000000) : 0 ≤ d * y ∧ d * y ≤ 200000000000000 := by
 refine ⟨Int.mul_nonneg h0 h2, ?_⟩
 have := Int.mul_le_mul h1 h3 h2 (show (0 : Int) ≤ 1000000 by omega)
 omega
theorem fn110 (m : Nat) (s1 s2 : ByteArray) {a b c d t : Int} (h : rngP a b c d) (h0 : 0 ≤ t) (h1 : t ≤ 86400000) {R : Type} (k : Int → Option R) : Fn110 (m + 1) s1 s2 a b c d t k = k (prc a b c d t) := by
 obtain ⟨⟨ha0, ha1⟩, ⟨hd0, hd1⟩, ⟨hb0, hb1⟩, ⟨hc0, hc1⟩⟩ := h
 simp only [Fn110]
 unfold prc
 by_cases ht : t = 0
 ·rw [eT ht, if_pos ht]
 ·rw [eF ht, if_neg ht, dT (by omega), w64 (x := t - b) (by omega) (by omega)]
  have ho : 0 ≤ ovr b t ∧ ovr b t ≤ 86400000 := by unfold ovr; split <;> omega
  have e : (if t - b > 0 then t - b else 0) = ovr b t := rfl
  obtain ⟨q0, q1⟩ := q_b ho.1 ho.2 hc0 hc1
  obtain ⟨r0, r1⟩ := dq_b hd0 hd1 q0 q1
  rw [e, w64 (x := ovr b t + c) (by omega) (by omega), w64 (x := ovr b t + c - 1) (by omega) (by omega)]
  show k (IntKind.wrap _ (a + IntKind.wrap _ (d * IntKind.wrap _ (Int.tdiv (ovr b t + c - 1) c)))) = _
  rw [td_pos (by omega), w64 (x := (ovr b t + c - 1) / c) (by omega) (by omega), w64 (x := d * _) (by omega) (by omega), w64 (by omega) (by omega)]
theorem fn60 (m : Nat) (s1 s2 : ByteArray) {a b c d t : Int} (h : rngP a b c d) (h0 : 0 ≤ t) (h1 : t ≤ 86400000) {R : Type} (k : Int → Option R) : Fn60 (m + 1) s1 s2 a b c d t k = k (prc a b c d t) := by
 obtain ⟨⟨ha0, ha1⟩, ⟨hd0, hd1⟩, ⟨hb0, hb1⟩, ⟨hc0, hc1⟩⟩ := h
 simp only [Fn60, Jn60_9]
 unfold prc
 by_cases ht : t = 0
 ·rw [eT ht, if_pos ht]
 ·rw [eF ht, if_neg ht]
  have ho : 0 ≤ ovr b t ∧ ovr b t ≤ 86400000 := by unfold ovr; split <;> omega
  obtain ⟨q0, q1⟩ := q_b ho.1 ho.2 hc0 hc1
  obtain ⟨r0, r1⟩ := dq_b hd0 hd1 q0 q1
  rw [w64 (x := t - b) (by omega) (by omega)]
  have fin : ∀ y : Int, y = (ovr b t + c - 1) / c → k (IntKind.wrap .i64 (a + IntKind.wrap .i64 (y * d))) = k (a + d * ((ovr b t + c - 1) / c)) := by
   intro y hy
   rw [hy, Int.mul_comm _ d, w64 (x := d * _) (by omega) (by omega), w64 (by omega) (by omega)]
  by_cases hp : t - b > 0
  ·have eo : ovr b t = t - b := by unfold ovr; rw [if_pos hp]
   have hce := ceil_eq (x := t - b) (c := c) (by omega) hc0
   rw [dT hp, dT (by omega), dT (by omega), tm_pos (by omega), td_pos (by omega)]
   rw [eo] at q0 q1 ⊢
   have hq2 : 0 ≤ (t - b) / c := Int.ediv_nonneg (by omega) (by omega)
   rw [eo] at fin
   by_cases hm : (t - b) % c > 0
   ·rw [if_pos hm] at hce
    rw [dT hm, w64 (x := (t - b) / c) (by omega) (by omega), w64 (x := (t - b) / c + 1) (by omega) (by omega)]
    exact fin _ hce.symm
   ·rw [if_neg hm] at hce
    rw [dF hm, w64 (x := (t - b) / c) (by omega) (by omega)]
    exact fin _ (by omega)
  ·have eo : ovr b t = 0 := by unfold ovr; rw [if_neg hp]
   rw [dF hp]
   exact fin 0 (by rw [eo, Int.zero_add, Int.ediv_eq_zero_of_lt (by omega) (by omega)])
end Go.Proofs.YtcoplddcbedeoaaGreatDoor.Med
end
section
set_option linter.unusedVariables false
set_option linter.unusedSimpArgs false
set_option linter.unusedSectionVars false
namespace Go.Proofs.YtcoplddcbedeoaaGreatDoor.Med
open Go Go.Abs Go.Proofs
set_option linter.unusedVariables false
set_option linter.unusedSimpArgs false
/-! payers -/
instance : LawfulBEq ByteArray where
 eq_of_beq {a b} h := by
  have h : (a.data == b.data) = true := h
  exact ByteArray.ext (eq_of_beq h)
 rfl {a} := by
  show (a.data == a.data) = true
  exact beq_self_eq_true _
instance : DecidableEq ByteArray := fun a b => decidable_of_iff (a.data = b.data) ⟨ByteArray.ext, congrArg _⟩
/-- - -/
def seenS (ks : List ByteArray) : Abs.Rows := ks.map fun x => [F.lit (Value.string x), F.lit (Value.bool true)]
/-- - -/
def owM (ps : List (ByteArray × ByteArray)) : Abs.Rows := ps.map fun x => [F.lit (Value.string x.1), F.lit (Value.string x.2)]
theorem seenS_len (ks : List ByteArray) : (seenS ks).length = ks.length := by simp [seenS]
theorem owM_len (ks : List (ByteArray × ByteArray)) : (owM ks).length = ks.length := by simp [owM]
theorem seenS_get (x : ByteArray) : ∀ (ks : List ByteArray), F.toBool (List.headD (mRow (F.lit (Value.string x)) [F.lit (Value.bool false)] (seenS ks)) default) = decide (x ∈ ks)
 | [] => rfl
 | y :: ks => by
  show F.toBool (List.headD (bif (x == y) then [F.lit (Value.bool true)] else mRow (F.lit (Value.string x)) [F.lit (Value.bool false)] (seenS ks)) default) = _
  by_cases h : x = y
  ·subst h; simp; rfl
  ·rw [beq_false_of_ne h]
   simp only [cond_false]
   rw [seenS_get x ks]
   simp [h]
theorem seenS_put (x : ByteArray) : ∀ (ks : List ByteArray), x ∉ ks → mPut (F.lit (Value.string x)) [F.lit (Value.bool true)] (seenS ks) = seenS (ks ++ [x])
 | [], _ => rfl
 | y :: ks, hn => by
  show (bif (x == y) then [F.lit (Value.string x), F.lit (Value.bool true)] :: seenS ks else [F.lit (Value.string y), F.lit (Value.bool true)] :: mPut (F.lit (Value.string x)) [F.lit (Value.bool true)] (seenS ks)) = _
  have h : x ≠ y := fun e => hn (by simp [e])
  rw [beq_false_of_ne h]
  simp only [cond_false]
  rw [seenS_put x ks fun h2 => hn (by simp [h2])]
  rfl
theorem owM_put (x o : ByteArray) : ∀ (ps : List (ByteArray × ByteArray)), x ∉ ps.map Prod.fst → mPut (F.lit (Value.string x)) [F.lit (Value.string o)] (owM ps) = owM (ps ++ [(x, o)])
 | [], _ => rfl
 | (y, v) :: ps, hn => by
  show (bif (x == y) then [F.lit (Value.string x), F.lit (Value.string o)] :: owM ps else [F.lit (Value.string y), F.lit (Value.string v)] :: mPut (F.lit (Value.string x)) [F.lit (Value.string o)] (owM ps)) = _
  have h : x ≠ y := fun e => hn (by simp [e])
  rw [beq_false_of_ne h]
  simp only [cond_false]
  rw [owM_put x o ps fun h2 => hn (by simp at h2 ⊢; exact .inr h2)]
  rfl
/-- - -/
def lk (s : ByteArray) : List (ByteArray × ByteArray) → Option ByteArray
 | [] => none
 | (y, v) :: ps => if s = y then some v else lk s ps
theorem owM_has (x : ByteArray) : ∀ (ps : List (ByteArray × ByteArray)), mHas (F.lit (Value.string x)) (owM ps) = (lk x ps).isSome
 | [] => rfl
 | (y, v) :: ps => by
  show (bif (x == y) then true else mHas (F.lit (Value.string x)) (owM ps)) = _
  rw [lk]
  by_cases h : x = y
  ·subst h; simp
  ·rw [beq_false_of_ne h, if_neg h]
   exact owM_has x ps
theorem owM_get (x : ByteArray) : ∀ (ps : List (ByteArray × ByteArray)), F.toStr (List.headD (mRow (F.lit (Value.string x)) [F.lit (Value.string ⟨#[]⟩)] (owM ps)) default) = (lk x ps).getD ⟨#[]⟩
 | [] => rfl
 | (y, v) :: ps => by
  show F.toStr (List.headD (bif (x == y) then [F.lit (Value.string v)] else mRow (F.lit (Value.string x)) [F.lit (Value.string ⟨#[]⟩)] (owM ps)) default) = _
  rw [lk]
  by_cases h : x = y
  ·subst h; simp; rfl
  ·rw [beq_false_of_ne h, if_neg h]
   exact owM_get x ps
/-- - -/
def nmL (q : Abs.Rows) : Nat → Nat → List ByteArray
 | 0, _ => []
 | d + 1, j => fS q j 0 :: nmL q d (j + 1)
theorem nmL_len (q : Abs.Rows) : ∀ (d j : Nat), (nmL q d j).length = d
 | 0, _ => rfl
 | d + 1, j => by rw [nmL, List.length_cons, nmL_len q d]
/-- - -/
def nuE (q : Abs.Rows) : Nat → Nat → List ByteArray → Int × List ByteArray
 | 0, _, ks => (0, ks)
 | d + 1, j, ks => if numB (ls (fS q j 0)) = false then (3, ks) else if fS q j 0 ∈ ks then (6, ks) else nuE q d (j + 1) (ks ++ [fS q j 0])
theorem nuE_len (q : Abs.Rows) : ∀ (d j : Nat) (ks : List ByteArray), (nuE q d j ks).2.length ≤ ks.length + d
 | 0, j, ks => by simp [nuE]
 | d + 1, j, ks => by
  rw [nuE]
  split
  ·simp
  ·split
   ·simp
   ·have := nuE_len q d (j + 1) (ks ++ [fS q j 0])
    simp at this
    omega
theorem nuE_ok (q : Abs.Rows) : ∀ (d j : Nat) (ks : List ByteArray), (nuE q d j ks).1 = 0 → (nuE q d j ks).2 = ks ++ nmL q d j
 | 0, j, ks, _ => by simp [nuE, nmL]
 | d + 1, j, ks, h => by
  rw [nuE] at h ⊢
  split
  ·rename_i c; rw [if_pos c] at h; omega
  ·rename_i c
   rw [if_neg c] at h
   split
   ·rename_i c2; rw [if_pos c2] at h; omega
   ·rename_i c2
    rw [if_neg c2] at h
    rw [nuE_ok q d (j + 1) _ h, nmL]
    simp
theorem lp111i (m : Nat) (q : Abs.Rows) (hq : q.length ≤ 1000) (a : Abs.Rows) (z1 : Int) (s : ByteArray) (b c : Abs.Rows) (z2 z3 : Int) {R : Type} (K : Int → Option R) (kx1 : Abs.Rows → Option R) : ∀ (d n j : Nat) (ks : List ByteArray), j + d = q.length → d < n → ks.length + d ≤ 1000000 →
  Lp111_18 (m + 4) (fun e _ _ => K e) (fun M _ => kx1 M) a z1 s b c z2 z3 q q.length n (seenS ks) j = if (nuE q d j ks).1 = 0 then kx1 (seenS (nuE q d j ks).2) else K (nuE q d j ks).1
 | _, 0, _, _, _, h, _ => by omega
 | 0, n + 1, j, ks, h1, h2, h3 => by
  rw [Lp111_18]
  simp only [Lp111_18_step]
  rw [dF (by omega)]
  rfl
 | d + 1, n + 1, j, ks, h1, h2, h3 => by
  rw [Lp111_18]
  simp only [Lp111_18_step, wP1 (show j ≤ 1000000 by omega), tN]
  rw [dT (by omega), dT (by omega)]
  refine Eq.trans (fn104b m _ _) ?_
  rw [nuE]
  cases c1 : numB (ls (fS q j 0)) with
  | false => rfl
  | true =>
   refine Eq.trans (bF rfl) ?_
   have e3 : ¬ (true = false) := by decide
   rw [if_neg e3, seenS_get]
   by_cases c2 : fS q j 0 ∈ ks
   ·rw [decide_eq_true c2, if_pos c2]; rfl
   ·rw [decide_eq_false c2, if_neg c2]
    refine Eq.trans (bF rfl) ?_
    rw [dT (by rw [seenS_len, rM]; omega), seenS_put _ _ c2]
    exact lp111i m q hq a z1 s b c z2 z3 K kx1 d n (j + 1) _ (by omega) (by omega) (by simp; omega)
theorem lp26i (m : Nat) (hm : 100 ≤ m) (q : Abs.Rows) (hq : q.length ≤ 1000) (a : Abs.Rows) (z1 : Int) (s s' : ByteArray) (b c : Abs.Rows) (z2 z3 : Int) {R : Type} (K : Int → Option R) (kx1 : Abs.Rows → Option R) : ∀ (d n j : Nat) (ks : List ByteArray), j + d = q.length → d < n → ks.length + d ≤ 1000000 →
  Lp26_20 (m + 4) (fun e _ _ => K e) (fun M _ => kx1 M) a z1 s s' b c z2 z3 q q.length n (seenS ks) j = if (nuE q d j ks).1 = 0 then kx1 (seenS (nuE q d j ks).2) else K (nuE q d j ks).1
 | _, 0, _, _, _, h, _ => by omega
 | 0, n + 1, j, ks, h1, h2, h3 => by
  rw [Lp26_20]
  simp only [Lp26_20_step]
  rw [dF (by omega)]
  rfl
 | d + 1, n + 1, j, ks, h1, h2, h3 => by
  rw [Lp26_20]
  simp only [Lp26_20_step, wP1 (show j ≤ 1000000 by omega), tN]
  rw [dT (by omega), dT (by omega)]
  refine Eq.trans (fn71b m hm _ _) ?_
  rw [nuE]
  cases c1 : numB (ls (fS q j 0)) with
  | false => rfl
  | true =>
   refine Eq.trans (bF rfl) ?_
   have e3 : ¬ (true = false) := by decide
   rw [if_neg e3, seenS_get]
   by_cases c2 : fS q j 0 ∈ ks
   ·rw [decide_eq_true c2, if_pos c2]; rfl
   ·rw [decide_eq_false c2, if_neg c2]
    refine Eq.trans (bF rfl) ?_
    rw [dT (by rw [seenS_len, rM]; omega), seenS_put _ _ c2]
    exact lp26i m hm q hq a z1 s s' b c z2 z3 K kx1 d n (j + 1) _ (by omega) (by omega) (by simp; omega)
/-- - -/
def pyF (r : Abs.Rows) (i : Nat) : Int := if keyB (ls (fS r i 0)) = false then 5 else if 0 < i ∧ ordB (fS r i 0) (fS r (i - 1) 0) = true then 7 else if 500 < (fR r i 1).length then 2 else 0
def paE (r : Abs.Rows) : Nat → Nat → List ByteArray → Int
 | 0, _, _ => 0
 | d + 1, i, ks => if pyF r i ≠ 0 then pyF r i else if (nuE (fR r i 1) (fR r i 1).length 0 ks).1 ≠ 0 then (nuE (fR r i 1) (fR r i 1).length 0 ks).1 else paE r d (i + 1) (nuE (fR r i 1) (fR r i 1).length 0 ks).2
section
variable {r : Abs.Rows} {i : Nat}
theorem py5 (h2 : keyB (ls (fS r i 0)) = false) : pyF r i = 5 := by unfold pyF; rw [if_pos h2]
theorem py7 (h2 : keyB (ls (fS r i 0)) = true) (h4 : 0 < i ∧ ordB (fS r i 0) (fS r (i - 1) 0) = true) : pyF r i = 7 := by unfold pyF; rw [if_neg (by rw [h2]; decide), if_pos h4]
theorem py2 (h2 : keyB (ls (fS r i 0)) = true) (h4 : ¬ (0 < i ∧ ordB (fS r i 0) (fS r (i - 1) 0) = true)) (h5 : 500 < (fR r i 1).length) : pyF r i = 2 := by unfold pyF; rw [if_neg (by rw [h2]; decide), if_neg h4, if_pos h5]
theorem py0 (h2 : keyB (ls (fS r i 0)) = true) (h4 : ¬ (0 < i ∧ ordB (fS r i 0) (fS r (i - 1) 0) = true)) (h5 : ¬ 500 < (fR r i 1).length) : pyF r i = 0 := by unfold pyF; rw [if_neg (by rw [h2]; decide), if_neg h4, if_neg h5]
end
theorem lp111 (m : Nat) (hm : 600 ≤ m) (r : Abs.Rows) (hr : r.length ≤ 500) (z : Int) {R : Type} (K : Int → Option R) : ∀ (d n i : Nat) (ks : List ByteArray), i + d = r.length → d < n → ks.length ≤ 500 * i →
  Lp111_6 (m + 4) (fun e _ _ => K e) (fun _ _ => K 0) r z r r.length n (seenS ks) i = K (paE r d i ks)
 | _, 0, _, _, _, h, _ => by omega
 | 0, n + 1, i, ks, h1, h2, h3 => by
  rw [Lp111_6]
  simp only [Lp111_6_step]
  rw [dF (by omega)]
  rfl
 | d + 1, n + 1, i, ks, h1, h2, h3 => by
  have hj : ∀ b : Bool, Jn111_12 (m + 4) (fun e _ => K e) (fun _ => Jn111_16 (m + 4) (fun e _ => K e) (fun M => Lp111_6 (m + 4) (fun e _ _ => K e) (fun _ _ => K 0) r z r r.length n M ((i + 1 : Nat) : Int)) r z (seenS ks) (fS r i 0) (fR r i 1) r r.length i) r z (seenS ks) (fS r i 0) (fR r i 1) r r.length i b =
    if b = true then K 7 else if 500 < (fR r i 1).length then K 2 else if (nuE (fR r i 1) (fR r i 1).length 0 ks).1 ≠ 0 then K (nuE (fR r i 1) (fR r i 1).length 0 ks).1 else K (paE r d (i + 1) (nuE (fR r i 1) (fR r i 1).length 0 ks).2) := by
   intro b
   simp only [Jn111_12]
   cases b with
   | true => rfl
   | false =>
    refine Eq.trans (bF rfl) ?_
    rw [if_neg (by decide)]
    by_cases h5 : 500 < (fR r i 1).length
    ·rw [dT (by omega), if_pos h5]
    ·rw [dF (by omega), if_neg h5]
     simp only [Jn111_16]
     have hlen := nuE_len (fR r i 1) (fR r i 1).length 0 ks
     refine Eq.trans (lp111i m (fR r i 1) (by omega) _ _ _ _ _ _ _ K _ (fR r i 1).length (m + 4) 0 ks (by omega) (by omega) (by omega)) ?_
     by_cases h6 : (nuE (fR r i 1) (fR r i 1).length 0 ks).1 = 0
     ·rw [if_pos h6, if_neg (not_not_intro h6)]
      exact lp111 m hm r hr z K d n (i + 1) _ (by omega) (by omega) (by omega)
     ·rw [if_neg h6, if_pos h6]
  rw [Lp111_6]
  simp only [Lp111_6_step, wP1 (show i ≤ 1000000 by omega), tN]
  rw [dT (by omega), dT (by omega), paE]
  refine Eq.trans (fn74b (m + 3) _ _) ?_
  have fin : keyB (ls (fS r i 0)) = true → ∀ b : Bool, (b = true ↔ (0 < i ∧ ordB (fS r i 0) (fS r (i - 1) 0) = true)) → (if b = true then K 7 else if 500 < (fR r i 1).length then K 2 else if (nuE (fR r i 1) (fR r i 1).length 0 ks).1 ≠ 0 then K (nuE (fR r i 1) (fR r i 1).length 0 ks).1 else K (paE r d (i + 1) (nuE (fR r i 1) (fR r i 1).length 0 ks).2)) =
    K (if pyF r i ≠ 0 then pyF r i else if (nuE (fR r i 1) (fR r i 1).length 0 ks).1 ≠ 0 then (nuE (fR r i 1) (fR r i 1).length 0 ks).1 else paE r d (i + 1) (nuE (fR r i 1) (fR r i 1).length 0 ks).2) := by
   intro c2 b hb
   by_cases c3 : 0 < i ∧ ordB (fS r i 0) (fS r (i - 1) 0) = true
   ·rw [if_pos (hb.2 c3), py7 c2 c3]; rfl
   ·rw [if_neg (fun h => c3 (hb.1 h))]
    by_cases h5 : 500 < (fR r i 1).length
    ·rw [if_pos h5, py2 c2 c3 h5]; rfl
    ·rw [if_neg h5, py0 c2 c3 h5, if_neg (show ¬ ((0 : Int) ≠ 0) by simp)]
     split <;> rfl
  cases c2 : keyB (ls (fS r i 0)) with
  | false => rw [py5 c2]; rfl
  | true =>
   refine Eq.trans (bF rfl) ?_
   by_cases h : 0 < i
   ·rw [dT (by omega), wM1 h (by omega), dT (by omega), tN]
    refine Eq.trans (hj (ordB (fS r i 0) (fS r (i - 1) 0))) ?_
    exact fin c2 _ ⟨fun h4 => ⟨h, h4⟩, fun h4 => h4.2⟩
   ·rw [dF (by omega)]
    refine Eq.trans (hj false) ?_
    exact fin c2 _ ⟨fun h4 => (by cases h4), fun h4 => (h h4.1).elim⟩
def payF (r : Abs.Rows) : Int := if 500 < r.length then 2 else paE r r.length 0 []
theorem fn111 (m : Nat) (hm : 600 ≤ m) (r : Abs.Rows) {R : Type} (k : Int → Option R) : Fn111 (m + 5) r k = k (payF r) := by
 simp only [Fn111]
 unfold payF
 by_cases h1 : 500 < r.length
 ·rw [dT (by omega), if_pos h1]
 ·rw [dF (by omega), if_neg h1]
  exact lp111 m hm r (by omega) 0 k r.length (m + 4) 0 [] (by omega) (by omega) (by simp)
end Go.Proofs.YtcoplddcbedeoaaGreatDoor.Med
end
section
set_option linter.unusedVariables false
set_option linter.unusedSimpArgs false
set_option linter.unusedSectionVars false
namespace Go.Proofs.YtcoplddcbedeoaaGreatDoor.Med
open Go Go.Abs Go.Proofs
set_option linter.unusedVariables false
set_option linter.unusedSimpArgs false
/-! the reference: payers -/
theorem ordB_nil {s : ByteArray} (h : keyB (ls s) = true) : ordB s ⟨#[]⟩ = false := by
 have h1 : 1 ≤ (ls s).length := by
  unfold keyB at h
  simp only [Bool.and_eq_true, decide_eq_true_eq] at h
  exact h.1
 unfold ordB
 rw [bytesLess_dec, Lib.toList_data, Lib.toList_data]
 cases hs : s.data.toList with
 | nil => rw [show ls s = [] from hs] at h1; simp at h1
 | cons a t => simp
theorem lp26 (m : Nat) (hm : 600 ≤ m) (r : Abs.Rows) (hr : r.length ≤ 500) (z : Int) {R : Type} (K : Int → Option R) : ∀ (d n i : Nat) (ks : List ByteArray) (s : ByteArray), i + d = r.length → d < n → ks.length ≤ 500 * i → (i = 0 → s = ⟨#[]⟩) → (0 < i → s = fS r (i - 1) 0) →
  Lp26_7 (m + 4) (fun e _ _ _ => K e) (fun _ _ _ => K 0) r z r r.length n (seenS ks) s i = K (paE r d i ks)
 | _, 0, _, _, _, _, h, _, _, _ => by omega
 | 0, n + 1, i, ks, s, h1, h2, h3, h4, h5 => by
  rw [Lp26_7]
  simp only [Lp26_7_step]
  rw [dF (by omega)]
  rfl
 | d + 1, n + 1, i, ks, s, h1, h2, h3, h4, h5 => by
  rw [Lp26_7]
  simp only [Lp26_7_step, wP1 (show i ≤ 1000000 by omega), tN]
  rw [dT (by omega), dT (by omega), paE]
  refine Eq.trans (fn34b m (by omega) _ _) ?_
  cases c2 : keyB (ls (fS r i 0)) with
  | false => rw [py5 c2]; rfl
  | true =>
   refine Eq.trans (bF rfl) ?_
   show (bif ordB (fS r i 0) s then _ else _) = _
   have hord : ordB (fS r i 0) s = true ↔ (0 < i ∧ ordB (fS r i 0) (fS r (i - 1) 0) = true) := by
    by_cases h : 0 < i
    ·rw [h5 h]; exact ⟨fun h6 => ⟨h, h6⟩, fun h6 => h6.2⟩
    ·rw [h4 (by omega), ordB_nil c2]; exact ⟨fun h6 => (by cases h6), fun h6 => (h h6.1).elim⟩
   by_cases c3 : 0 < i ∧ ordB (fS r i 0) (fS r (i - 1) 0) = true
   ·rw [hord.2 c3, py7 c2 c3]; rfl
   ·rw [Bool.eq_false_iff.2 (fun h => c3 (hord.1 h))]
    refine Eq.trans (bF rfl) ?_
    by_cases h6 : 500 < (fR r i 1).length
    ·rw [dT (by omega), py2 c2 c3 h6]; rfl
    ·rw [dF (by omega), py0 c2 c3 h6, if_neg (show ¬ ((0 : Int) ≠ 0) by simp)]
     have hlen := nuE_len (fR r i 1) (fR r i 1).length 0 ks
     refine Eq.trans (lp26i m (by omega) (fR r i 1) (by omega) _ _ _ _ _ _ _ _ K _ (fR r i 1).length (m + 4) 0 ks (by omega) (by omega) (by omega)) ?_
     by_cases h7 : (nuE (fR r i 1) (fR r i 1).length 0 ks).1 = 0
     ·rw [if_pos h7, if_neg (not_not_intro h7)]
      exact lp26 m hm r hr z K d n (i + 1) _ _ (by omega) (by omega) (by omega) (fun h => by omega) (fun _ => by rw [Nat.add_sub_cancel])
     ·rw [if_neg h7, if_pos h7]
theorem fn26 (m : Nat) (hm : 600 ≤ m) (r : Abs.Rows) {R : Type} (k : Int → Option R) : Fn26 (m + 5) r k = k (payF r) := by
 simp only [Fn26]
 unfold payF
 by_cases h1 : 500 < r.length
 ·rw [dT (by omega), if_pos h1]
 ·rw [dF (by omega), if_neg h1]
  exact lp26 m hm r (by omega) 0 k r.length (m + 4) 0 [] _ (by omega) (by omega) (by simp) (fun _ => rfl) (fun h => by omega)
/-! who pays -/
def prL (o : ByteArray) (l : List ByteArray) : List (ByteArray × ByteArray) := l.map fun x => (x, o)
def flt (r : Abs.Rows) : Nat → Nat → List (ByteArray × ByteArray)
 | 0, _ => []
 | d + 1, i => prL (fS r i 0) (nmL (fR r i 1) (fR r i 1).length 0) ++ flt r d (i + 1)
theorem prL_fst (o : ByteArray) (l : List ByteArray) : (prL o l).map Prod.fst = l := by simp [prL, Function.comp_def]
theorem lp56i (m : Nat) (q : Abs.Rows) (hq : q.length ≤ 1000) (a : Abs.Rows) (o : ByteArray) (b c : Abs.Rows) (z1 z2 : Int) {R : Type} (kx0 : Abs.Rows → Option R) : ∀ (d n j : Nat) (ps : List (ByteArray × ByteArray)), j + d = q.length → d < n → ps.length + d ≤ 1000000 → (nuE q d j (ps.map Prod.fst)).1 = 0 →
  Lp56_8 m (fun M _ => kx0 M) a o b c z1 z2 q q.length n (owM ps) j = kx0 (owM (ps ++ prL o (nmL q d j)))
 | _, 0, _, _, _, h, _, _ => by omega
 | 0, n + 1, j, ps, h1, h2, h3, h4 => by
  rw [Lp56_8]
  simp only [Lp56_8_step]
  rw [dF (by omega)]
  simp [nmL, prL]
 | d + 1, n + 1, j, ps, h1, h2, h3, h4 => by
  rw [nuE] at h4
  have c1 : ¬ numB (ls (fS q j 0)) = false := fun c => by rw [if_pos c] at h4; omega
  rw [if_neg c1] at h4
  have c2 : ¬ fS q j 0 ∈ ps.map Prod.fst := fun c => by rw [if_pos c] at h4; omega
  rw [if_neg c2] at h4
  rw [Lp56_8]
  simp only [Lp56_8_step, wP1 (show j ≤ 1000000 by omega), tN]
  rw [dT (by omega), dT (by omega), dT (by rw [owM_len, rM]; omega), owM_put _ _ _ c2]
  have h5 : (nuE q d (j + 1) ((ps ++ [(fS q j 0, o)]).map Prod.fst)).1 = 0 := by rw [List.map_append]; exact h4
  refine Eq.trans (lp56i m q hq a o b c z1 z2 kx0 d n (j + 1) _ (by omega) (by omega) (by simp; omega) h5) ?_
  rw [nmL]
  simp [prL]
theorem lp56 (m : Nat) (hm : 600 ≤ m) (r : Abs.Rows) (hr : r.length ≤ 500) {R : Type} (k : Abs.Rows → Option R) : ∀ (d n i : Nat) (ps : List (ByteArray × ByteArray)), i + d = r.length → d < n → ps.length ≤ 500 * i → paE r d i (ps.map Prod.fst) = 0 →
  Lp56_3 m (fun M _ => k M) r r r.length n (owM ps) i = k (owM (ps ++ flt r d i))
 | _, 0, _, _, _, h, _, _ => by omega
 | 0, n + 1, i, ps, h1, h2, h3, h4 => by
  rw [Lp56_3]
  simp only [Lp56_3_step]
  rw [dF (by omega)]
  simp [flt]
 | d + 1, n + 1, i, ps, h1, h2, h3, h4 => by
  rw [paE] at h4
  have c1 : pyF r i = 0 := by
   by_cases c : pyF r i = 0
   ·exact c
   ·rw [if_pos c] at h4; exact h4
  rw [if_neg (not_not_intro c1)] at h4
  have c2 : (nuE (fR r i 1) (fR r i 1).length 0 (ps.map Prod.fst)).1 = 0 := by
   by_cases c : (nuE (fR r i 1) (fR r i 1).length 0 (ps.map Prod.fst)).1 = 0
   ·exact c
   ·rw [if_pos c] at h4; exact h4
  rw [if_neg (not_not_intro c2), nuE_ok _ _ _ _ c2] at h4
  have c3 : (fR r i 1).length ≤ 500 := by
   have h := c1
   unfold pyF at h
   split at h
   ·omega
   ·split at h
    ·omega
    ·split at h
     ·omega
     ·omega
  rw [Lp56_3]
  simp only [Lp56_3_step, wP1 (show i ≤ 1000000 by omega), tN]
  rw [dT (by omega), dT (by omega)]
  refine Eq.trans (lp56i m (fR r i 1) (by omega) _ _ _ _ _ _ _ (fR r i 1).length m 0 ps (by omega) (by omega) (by omega) c2) ?_
  have h5 : paE r d (i + 1) ((ps ++ prL (fS r i 0) (nmL (fR r i 1) (fR r i 1).length 0)).map Prod.fst) = 0 := by rw [List.map_append, prL_fst]; exact h4
  refine Eq.trans (lp56 m hm r hr k d n (i + 1) _ (by omega) (by omega) (by simp [prL, nmL_len]; omega) h5) ?_
  rw [flt, List.append_assoc]
theorem fn56 (m : Nat) (hm : 600 ≤ m) (r : Abs.Rows) (h : payF r = 0) {R : Type} (k : Abs.Rows → Option R) : Fn56 (m + 1) r k = k (owM (flt r r.length 0)) := by
 unfold payF at h
 have hr : ¬ 500 < r.length := fun c => by rw [if_pos c] at h; omega
 rw [if_neg hr] at h
 simp only [Fn56]
 exact lp56 m hm r (by omega) k r.length m 0 [] (by omega) (by omega) (by simp) h
/-! the first payer who has a number -/
theorem lk_app (s : ByteArray) : ∀ (a b : List (ByteArray × ByteArray)), lk s (a ++ b) = match lk s a with
  | some v => some v
  | none => lk s b
 | [], b => rfl
 | (y, v) :: a, b => by
  show (if s = y then some v else lk s (a ++ b)) = _
  rw [lk]
  by_cases h : s = y
  ·rw [if_pos h, if_pos h]
  ·rw [if_neg h, if_neg h]; exact lk_app s a b
theorem lk_pr (s o : ByteArray) : ∀ (l : List ByteArray), lk s (prL o l) = if s ∈ l then some o else none
 | [] => rfl
 | y :: l => by
  show (if s = y then some o else lk s (prL o l)) = _
  by_cases h : s = y
  ·rw [if_pos h, if_pos (by simp [h])]
  ·rw [if_neg h, lk_pr s o l]
   simp [h]
theorem nmL_mem {s : ByteArray} {q : Abs.Rows} : ∀ (d j : Nat), s ∈ nmL q d j ↔ ∃ a, j ≤ a ∧ a < j + d ∧ fS q a 0 = s
 | 0, j => by simp [nmL]; intro a _ h; omega
 | d + 1, j => by
  rw [nmL, List.mem_cons, nmL_mem d (j + 1)]
  constructor
  ·rintro (h | ⟨a, h1, h2, h3⟩)
   ·exact ⟨j, by omega, by omega, h.symm⟩
   ·exact ⟨a, by omega, by omega, h3⟩
  ·rintro ⟨a, h1, h2, h3⟩
   by_cases c : a = j
   ·subst c; exact .inl h3.symm
   ·exact .inr ⟨a, by omega, by omega, h3⟩
theorem lp115 (m : Nat) (q : Abs.Rows) (hq : q.length ≤ 100000) (s : ByteArray) (z : Int) {R : Type} (k : Bool → Option R) : ∀ (d n j : Nat), j + d = q.length → d < n →
  Lp115_2 m (fun i _ => k (decide (i ≥ 0))) (fun _ => k (decide ((-1 : Int) ≥ 0))) q s z q.length n j = k (decide (s ∈ nmL q d j))
 | _, 0, _, _, h => by omega
 | 0, n + 1, j, h1, h2 => by
  rw [Lp115_2]
  simp only [Lp115_2_step]
  rw [dF (by omega)]
  rfl
 | d + 1, n + 1, j, h1, h2 => by
  rw [Lp115_2]
  simp only [Lp115_2_step, wP1 (show j ≤ 1000000 by omega), tN]
  rw [dT (by omega), dT (by omega), nmL, Lib.toList_data, Lib.toList_data]
  by_cases c : s = fS q j 0
  ·rw [lT (by rw [c]), decide_eq_true (show (j : Int) ≥ 0 by omega), decide_eq_true (by rw [← c]; simp)]
  ·rw [lF (fun h => c (ByteArray.ext (by simpa using h)))]
   refine Eq.trans (lp115 m q hq s z k d n (j + 1) (by omega) (by omega)) ?_
   congr 1
   rw [decide_eq_decide]
   simp [c]
theorem fn59 (m : Nat) (q : Abs.Rows) (hq : q.length ≤ 500) (hm : 600 ≤ m) (s : ByteArray) {R : Type} (k : Bool → Option R) : Fn59 (m + 2) q s k = k (decide (s ∈ nmL q q.length 0)) := by
 simp only [Fn59, Fn115]
 exact lp115 m q (by omega) s 0 k q.length m 0 (by omega) (by omega)
theorem lp76 (m : Nat) (hm : 600 ≤ m) (r : Abs.Rows) (hr : r.length ≤ 500) (hc : ∀ i, i < r.length → (fR r i 1).length ≤ 500) (s s2 : ByteArray) (z : Bool) {R : Type} (k : ByteArray → Bool → Option R) : ∀ (d n i : Nat), i + d = r.length → d < n →
  Lp76_2 (m + 2) (fun s b _ => k s b) (fun _ => k ⟨#[]⟩ false) r s s2 z r r.length n i = k ((lk s (flt r d i)).getD ⟨#[]⟩) (lk s (flt r d i)).isSome
 | _, 0, _, _, h => by omega
 | 0, n + 1, i, h1, h2 => by
  rw [Lp76_2]
  simp only [Lp76_2_step]
  rw [dF (by omega)]
  rfl
 | d + 1, n + 1, i, h1, h2 => by
  rw [Lp76_2]
  simp only [Lp76_2_step, wP1 (show i ≤ 1000000 by omega), tN]
  rw [dT (by omega), dT (by omega)]
  refine Eq.trans (fn59 m (fR r i 1) (hc i (by omega)) hm s _) ?_
  rw [flt, lk_app, lk_pr]
  by_cases c : s ∈ nmL (fR r i 1) (fR r i 1).length 0
  ·rw [decide_eq_true c, if_pos c]; rfl
  ·rw [decide_eq_false c, if_neg c]
   exact lp76 m hm r hr hc s s2 z k d n (i + 1) (by omega) (by omega)
theorem pa_cnt {r : Abs.Rows} : ∀ (d i : Nat) (ks : List ByteArray), paE r d i ks = 0 → ∀ a, i ≤ a → a < i + d → (fR r a 1).length ≤ 500
 | 0, i, ks, _, a, h1, h2 => by omega
 | d + 1, i, ks, h4, a, h1, h2 => by
  rw [paE] at h4
  have c1 : pyF r i = 0 := by
   by_cases c : pyF r i = 0
   ·exact c
   ·rw [if_pos c] at h4; exact h4
  rw [if_neg (not_not_intro c1)] at h4
  have c2 : (nuE (fR r i 1) (fR r i 1).length 0 ks).1 = 0 := by
   by_cases c : (nuE (fR r i 1) (fR r i 1).length 0 ks).1 = 0
   ·exact c
   ·rw [if_pos c] at h4; exact h4
  rw [if_neg (not_not_intro c2)] at h4
  by_cases c : a = i
  ·subst c
   have h := c1
   unfold pyF at h
   split at h
   ·omega
   ·split at h
    ·omega
    ·split at h
     ·omega
     ·omega
  ·exact pa_cnt d (i + 1) _ h4 a (by omega) (by omega)
theorem fn76 (m : Nat) (hm : 600 ≤ m) (r : Abs.Rows) (h : payF r = 0) (s : ByteArray) {R : Type} (k : ByteArray → Bool → Option R) : Fn76 (m + 3) r s k = k ((lk s (flt r r.length 0)).getD ⟨#[]⟩) (lk s (flt r r.length 0)).isSome := by
 unfold payF at h
 have hr : ¬ 500 < r.length := fun c => by rw [if_pos c] at h; omega
 rw [if_neg hr] at h
 simp only [Fn76]
 exact lp76 m hm r (by omega) (fun i hi => pa_cnt r.length 0 [] h i (by omega) (by omega)) s _ _ k r.length (m + 2) 0 (by omega) (by omega)
end Go.Proofs.YtcoplddcbedeoaaGreatDoor.Med
end
section
set_option linter.unusedVariables false
set_option linter.unusedSimpArgs false
set_option linter.unusedSectionVars false
namespace Go.Proofs.YtcoplddcbedeoaaGreatDoor.Med
open Go Go.Abs Go.Proofs
set_option linter.unusedVariables false
set_option linter.unusedSimpArgs false
/-! what is drawn -/
theorem lp81 (m : Nat) (q P : Abs.Rows) (hP : P.length ≤ 100) (a c : Abs.Rows) (x1 x2 : Int) (b : Abs.Rows) : ∀ (d n i : Nat) (r : Abs.Rows) (t : Int), i + d = P.length → d < n → 0 ≤ t → t + 6 * d ≤ 100000 → r.length + d ≤ 1000 →
  ∃ (r' : Abs.Rows) (t' : Int), r'.length ≤ r.length + d ∧ t ≤ t' ∧ t' ≤ t + 6 * d ∧ ∀ (R : Type) (k : Abs.Rows → Int → Int → Option R), Lp81_3 (m + 3) k a x1 b x2 c P P.length q n r i t = k r' P.length t'
 | _, 0, _, _, _, _, h, _, _, _ => by omega
 | 0, n + 1, i, r, t, h1, h2, h3, h4, h5 => by
  refine ⟨r, t, by omega, by omega, by omega, fun R k => ?_⟩
  rw [Lp81_3]
  simp only [Lp81_3_step]
  rw [dF (by omega), show i = P.length by omega]
 | d + 1, n + 1, i, r, t, h1, h2, h3, h4, h5 => by
  have hi : i ≤ 1000000 := by omega
  by_cases c0 : nx q t % 3 = 0
  ·obtain ⟨r', t', k1, k2, k3, k4⟩ := lp81 m q P hP a c x1 x2 b d n (i + 1) r (t + 1) (by omega) (by omega) (by omega) (by omega) (by omega)
   refine ⟨r', t', by omega, by omega, by omega, fun R k => ?_⟩
   rw [Lp81_3]
   simp only [Lp81_3_step, wP1 hi, tN]
   rw [dT (by omega), dT (by omega), gn44 m q h3 (by omega) (by omega) (by omega), eT c0]
   exact k4 R k
  ·have key : ∃ x : List F, ∀ (R : Type) (k : Abs.Rows → Int → Int → Option R), Lp81_3 (m + 3) k a x1 b x2 c P P.length q (n + 1) r i t = Lp81_3 (m + 3) k a x1 b x2 c P P.length q n (r ++ [x]) ((i + 1 : Nat) : Int) (t + 1 + 1 + 1 + 1 + 1 + 1) := ⟨_, fun R k => by
    rw [Lp81_3]
    simp only [Lp81_3_step, wP1 hi, tN]
    rw [dT (by omega), dT (by omega), gn44 m q h3 (by omega) (by omega) (by omega), eF c0]
    rw [gn32 m q _ (by omega) (by omega) (by simp) (by simp), gn9 m q _ (by omega) (by omega) (by simp) (by simp), gn9 m q _ (by omega) (by omega) (by simp) (by simp), gn9 m q _ (by omega) (by omega) (by simp) (by simp), gn9 m q _ (by omega) (by omega) (by simp) (by simp), dT (by simp [rM]; omega)]
    rfl⟩
   obtain ⟨x, hx⟩ := key
   obtain ⟨r', t', k1, k2, k3, k4⟩ := lp81 m q P hP a c x1 x2 b d n (i + 1) (r ++ [x]) (t + 1 + 1 + 1 + 1 + 1 + 1) (by omega) (by omega) (by omega) (by omega) (by simp; omega)
   refine ⟨r', t', by simp at k1; omega, by omega, by omega, fun R k => ?_⟩
   rw [hx]
   exact k4 R k
theorem fn81 (m : Nat) (hm : 20 ≤ m) (q : Abs.Rows) {t : Int} (h0 : 0 ≤ t) (h1 : t ≤ 1000) :
  ∃ (r : Abs.Rows) (f : Int) (ins : Abs.Rows) (t' : Int), r.length ≤ 5 ∧ t ≤ t' ∧ t' ≤ t + 40 ∧ ∀ (R : Type) (k : Abs.Rows → Int → Abs.Rows → Int → Option R), Fn81 (m + 4) q t k = k r f ins t' := by
 have b1 := Int.emod_nonneg (nx q (t + 1)) (show (3 : Int) ≠ 0 by omega)
 have b2 := Int.emod_lt_of_pos (nx q (t + 1)) (show (0 : Int) < 3 by omega)
 obtain ⟨r', t', k1, k2, k3, k4⟩ := lp81 m q [[F.lit (Value.string ⟨#[]⟩)], [F.lit (Value.string ⟨#[43, 52]⟩)], [F.lit (Value.string ⟨#[43, 52, 57]⟩)], [F.lit (Value.string ⟨#[43, 52, 57, 51, 48]⟩)], [F.lit (Value.string ⟨#[43, 53]⟩)]] (by simp) rows0
  (fR [[F.lst [LT.str] rows0], [F.lst [LT.str] [[F.lit (Value.string ⟨#[104, 111, 109, 101]⟩)]]], [F.lst [LT.str] [[F.lit (Value.string ⟨#[104, 111, 109, 101]⟩)], [F.lit (Value.string ⟨#[110, 101, 97, 114]⟩)]]]] (Int.toNat (nx q (t + 1) % 3)) 0)
  0 (pk [[F.lit (Value.int IntKind.i64 (0 : Int))], [F.lit (Value.int IntKind.i64 (0 : Int))], [F.lit (Value.int IntKind.i64 (60000 : Int))], [F.lit (Value.int IntKind.i64 (90000 : Int))]] q t) rows0 5 (m + 3) 0 rows0 (t + 1 + 1) (by simp) (by omega) (by omega) (by omega) (by simp [rows0])
 refine ⟨r', ?_⟩
 apply Exists.intro
 apply Exists.intro
 refine ⟨t', by simpa [rows0] using k1, by omega, by omega, fun R k => ?_⟩
 simp only [Fn81]
 rw [gn9 m q _ (by omega) (by omega) (by simp) (by simp), gn46 (m + 1) q (by omega) (by omega) (by omega) (by omega), dT ⟨b1, by simpa using b2⟩]
 exact k4 R _
theorem fn37 (m : Nat) (hm : 20 ≤ m) (q : Abs.Rows) {t : Int} (h0 : 0 ≤ t) (h1 : t ≤ 1000) :
  ∃ (r : Abs.Rows) (f : Int) (ins : Abs.Rows) (t' : Int), r.length ≤ 6 ∧ t ≤ t' ∧ t' ≤ t + 60 ∧ ∀ (R : Type) (k : Abs.Rows → Int → Abs.Rows → Int → Option R), Fn37 (m + 5) q t k = k r f ins t' := by
 obtain ⟨r, f, ins, t1, e1, e2, e3, e4⟩ := fn81 m hm q h0 h1
 by_cases c : nx q t1 % 12 = 0
 ·have b1 := Int.emod_nonneg (nx q (t1 + 1 + 1)) (show (3 : Int) ≠ 0 by omega)
  have b2 := Int.emod_lt_of_pos (nx q (t1 + 1 + 1)) (show (0 : Int) < 3 by omega)
  by_cases c0 : nx q (t1 + 1) % 3 = 0
  ·obtain ⟨v, i', g1, g2, g3⟩ := gn65 m q (i := t1 + 1 + 1) (lo := 0) (hi := 100) (by omega) (by omega) (by omega) (by omega) (by omega)
   exact ⟨r, v, ins, i', by omega, by omega, by omega, fun R k => by simp only [Fn37]; rw [e4, gn44 (m + 1) q (by omega) (by omega) (by omega) (by omega), eT c, gn46 (m + 2) q (by omega) (by omega) (by omega) (by omega)]; rw [eT c0, g3]⟩
  ·by_cases c1 : nx q (t1 + 1) % 3 = 1
   ·refine ⟨r, f, ?_⟩
    apply Exists.intro
    refine ⟨t1 + 1 + 1 + 1, by omega, by omega, by omega, fun R k => ?_⟩
    simp only [Fn37]
    rw [e4, gn44 (m + 1) q (by omega) (by omega) (by omega) (by omega), eT c, gn46 (m + 2) q (by omega) (by omega) (by omega) (by omega)]
    rw [eF c0, eT c1, gn46 (m + 2) q (by omega) (by omega) (by omega) (by omega), dT ⟨b1, by simpa using b2⟩]
   ·obtain ⟨v1, i1, g1, g2, g3⟩ := gn65 m q (i := t1 + 1 + 1 + 1 + 1) (lo := 0) (hi := 1000) (by omega) (by omega) (by omega) (by omega) (by omega)
    obtain ⟨v2, i2, g4, g5, g6⟩ := gn65 m q (i := i1) (lo := 0) (hi := 100) (by omega) (by omega) (by omega) (by omega) (by omega)
    obtain ⟨v3, i3, g7, g8, g9⟩ := gn65 m q (i := i2) (lo := 1) (hi := 100) (by omega) (by omega) (by omega) (by omega) (by omega)
    obtain ⟨v4, i4, g10, g11, g12⟩ := gn65 m q (i := i3) (lo := 0) (hi := 1000000) (by omega) (by omega) (by omega) (by omega) (by omega)
    have key : ∃ x : List F, ∀ (R : Type) (k : Abs.Rows → Int → Abs.Rows → Int → Option R), Fn37 (m + 5) q t k = k (r ++ [x]) f ins i4 := ⟨_, fun R k => by
     simp only [Fn37]
     rw [e4, gn44 (m + 1) q (by omega) (by omega) (by omega) (by omega), eT c, gn46 (m + 2) q (by omega) (by omega) (by omega) (by omega)]
     rw [eF c0, eF c1, gn32 (m + 1) q _ (by omega) (by omega) (by simp) (by simp), gn32 (m + 1) q _ (by omega) (by omega) (by simp) (by simp), g3, g6, g9, g12, dT (by simp [rM]; omega)]
     rfl⟩
    obtain ⟨x, hx⟩ := key
    exact ⟨r ++ [x], f, ins, i4, by simp; omega, by omega, by omega, hx⟩
 ·refine ⟨r, f, ins, t1 + 1, by omega, by omega, by omega, fun R k => ?_⟩
  simp only [Fn37]
  rw [e4, gn44 (m + 1) q (by omega) (by omega) (by omega) (by omega), eF c]
theorem fn52 (m : Nat) (q : Abs.Rows) {t : Int} (h0 : 0 ≤ t) (h1 : t ≤ 10000) :
  ∃ (p : Abs.Rows) (t' : Int), t ≤ t' ∧ t' ≤ t + 10 ∧ ∀ (R : Type) (k : Abs.Rows → Int → Option R), Fn52 (m + 5) q t k = k p t' := by
 have b := pk_all (P := fun x => 0 ≤ x ∧ x ≤ 3) [[F.lit (Value.int IntKind.i64 (1 : Int))], [F.lit (Value.int IntKind.i64 (2 : Int))], [F.lit (Value.int IntKind.i64 (3 : Int))], [F.lit (Value.int IntKind.i64 (3 : Int))]] q t (by simp) (by decide)
 have f27 : ∃ p : Abs.Rows, p.length ≤ 3 ∧ ∀ (R : Type) (k : Abs.Rows → Int → Option R), Fn109 (m + 4) q t k = k p (t + 1) := by
  apply Exists.intro
  constructor
  rotate_left
  ·intro R k
   simp only [Fn109]
   rw [gn9 m q _ (by omega) (by omega) (by simp) (by simp), dT ⟨b.1, by simpa using b.2⟩]
  ·rw [List.length_take]
   exact Nat.min_le_right _ _
 obtain ⟨p, p1, p2⟩ := f27
 by_cases c : nx q (t + 1) % 12 = 0
 ·have key : ∃ x : List F, ∀ (R : Type) (k : Abs.Rows → Int → Option R), Fn52 (m + 5) q t k = k (p ++ [x]) (t + 1 + 1 + 1 + 1) := ⟨_, fun R k => by
   simp only [Fn52]
   rw [p2, gn44 (m + 1) q (by omega) (by omega) (by omega) (by omega), eT c, gn32 (m + 1) q _ (by omega) (by omega) (by simp) (by simp), gn32 (m + 1) q _ (by omega) (by omega) (by simp) (by simp), dT (by simp [rM]; omega)]
   rfl⟩
  obtain ⟨x, hx⟩ := key
  exact ⟨_, _, by omega, by omega, hx⟩
 ·refine ⟨p, t + 1 + 1, by omega, by omega, fun R k => ?_⟩
  simp only [Fn52]
  rw [p2, gn44 (m + 1) q (by omega) (by omega) (by omega) (by omega), eF c]
theorem fn95 (m : Nat) (q : Abs.Rows) {t : Int} (h0 : 0 ≤ t) (h1 : t ≤ 10000) :
  ∃ s : ByteArray, (ls s).length ≤ 100 ∧ ∀ (R : Type) (k : ByteArray → Int → Option R), Fn95 (m + 4) q t k = k s (t + 1 + 1) := by
 by_cases c : nx q t % 25 = 0
 ·apply Exists.intro
  constructor
  rotate_left
  ·intro R k
   simp only [Fn95]
   rw [gn44 m q (by omega) (by omega) (by omega) (by omega), eT c, gn32 m q _ (by omega) (by omega) (by simp) (by simp)]
  ·exact pkS_all (P := fun s => (ls s).length ≤ 100) _ q (t + 1) (by simp) (by decide)
 ·apply Exists.intro
  constructor
  rotate_left
  ·intro R k
   simp only [Fn95]
   rw [gn44 m q (by omega) (by omega) (by omega) (by omega), eF c, gn32 m q _ (by omega) (by omega) (by simp) (by simp)]
  ·exact pkS_all (P := fun s => (ls s).length ≤ 100) _ q (t + 1) (by simp) (by decide)
end Go.Proofs.YtcoplddcbedeoaaGreatDoor.Med
end
section
set_option linter.unusedVariables false
set_option linter.unusedSimpArgs false
set_option linter.unusedSectionVars false
namespace Go.Proofs.YtcoplddcbedeoaaGreatDoor.Med
open Go Go.Abs Go.Proofs
set_option linter.unusedVariables false
set_option linter.unusedSimpArgs false
/-! records that are drawn, sorted -/
def sgV (x : Int) : Int := if x < 0 then -1 else if x > 0 then 1 else 0
/-- - -/
def roV (a b : Int) (s t : ByteArray) : Int := if a ≠ b then sgV (IntKind.wrap .i64 (a - b)) else cmpB s t
theorem fn73 (m : Nat) (s1 s2 s3 : ByteArray) (a b c d : Int) (s4 t1 t2 t3 : ByteArray) (a' b' c' d' : Int) (t4 : ByteArray) {R : Type} (k : Int → Option R) :
  Fn73 (m + 2) s1 s2 s3 a b c d s4 t1 t2 t3 a' b' c' d' t4 k = k (roV a a' s1 t1) := by
 simp only [Fn73, Fn94]
 unfold roV sgV
 by_cases h : a = a'
 ·rw [nF h, if_neg (not_not_intro h)]
 ·rw [nT h, if_pos h]
  by_cases h2 : IntKind.wrap .i64 (a - a') < 0
  ·rw [dT h2, if_pos h2]
  ·rw [dF h2, if_neg h2]
   by_cases h3 : IntKind.wrap .i64 (a - a') > 0
   ·rw [dT h3, if_pos h3]
   ·rw [dF h3, if_neg h3]
theorem stR_len (ts : List LT) (r : Abs.Rows) (i j : Nat) (ys : List F) : (stR ts r i j ys).length = r.length := by simp [stR]
theorem lp155i (m : Nat) (N : Nat) (hN : N ≤ 1000) (a : Nat) (b c : Int) : ∀ (j n : Nat) (r : Abs.Rows), j < n → j < N → r.length = N →
  ∃ (r' : Abs.Rows) (j' : Int), r'.length = N ∧ ∀ (R : Type) (k : Int → Abs.Rows → Option R), Lp155_5 (m + 2) k N a b c n j r = k j' r'
 | j, 0, r, h, _, _ => by omega
 | j, n + 1, r, h1, h2, h3 => by
  by_cases c1 : a < j
  ·obtain ⟨j, rfl⟩ : ∃ j', j = j' + 1 := ⟨j - 1, by omega⟩
   have e : IntKind.wrap .i64 (((j + 1 : Nat) : Int) - 1) = (j : Int) := by rw [w64 (by omega) (by omega)]; omega
   by_cases c2 : roV (fI r (j + 1) 3) (fI r j 3) (fS r (j + 1) 0) (fS r j 0) < 0
   ·have key : ∃ r1 : Abs.Rows, r1.length = N ∧ ∀ (R : Type) (k : Int → Abs.Rows → Option R), Lp155_5 (m + 2) k N a b c (n + 1) ((j + 1 : Nat) : Int) r = Lp155_5 (m + 2) k N a b c n (j : Int) r1 := by
     apply Exists.intro
     constructor
     rotate_left
     ·intro R k
      rw [Lp155_5]
      simp only [Lp155_5_step, e, tN]
      rw [dT (by omega), dT (by omega), dT (by omega), fn73, dT c2]
      simp only [Jn155_7, e, tN]
      rw [dT (by omega), dT (by omega), dT (by omega), dT (by omega)]
      rfl
     ·rw [stR_len, stR_len]; exact h3
    obtain ⟨r1, k1, k2⟩ := key
    obtain ⟨r', j', k3, k4⟩ := lp155i m N hN a b c j n r1 (by omega) (by omega) k1
    exact ⟨r', j', k3, fun R k => by rw [k2, k4]⟩
   ·refine ⟨r, ((j + 1 : Nat) : Int), h3, fun R k => ?_⟩
    rw [Lp155_5]
    simp only [Lp155_5_step, e, tN]
    rw [dT (by omega), dT (by omega), dT (by omega), fn73, dF c2]
  ·refine ⟨r, j, h3, fun R k => ?_⟩
   rw [Lp155_5]
   simp only [Lp155_5_step]
   rw [dF (by omega)]
theorem lp155 (m : Nat) (hm : 1000 ≤ m) (N : Nat) (hN : N ≤ 500) (a b : Nat) (hb : b ≤ N) : ∀ (d n i : Nat) (r : Abs.Rows), i + d = max i b → d < n → r.length = N →
  ∃ (r' : Abs.Rows) (j' : Int), r'.length = N ∧ ∀ (R : Type) (k : Int → Abs.Rows → Option R), Lp155_1 (m + 2) k N a b n i r = k j' r'
 | _, 0, i, r, _, h, _ => by omega
 | 0, n + 1, i, r, h1, h2, h3 => by
  refine ⟨r, i, h3, fun R k => ?_⟩
  rw [Lp155_1]
  simp only [Lp155_1_step]
  rw [dF (by omega)]
 | d + 1, n + 1, i, r, h1, h2, h3 => by
  obtain ⟨r1, j1, k1, k2⟩ := lp155i m N (by omega) a b i i (m + 2) r (by omega) (by omega) h3
  obtain ⟨r', j', k3, k4⟩ := lp155 m hm N hN a b hb d n (i + 1) r1 (by omega) (by omega) k1
  refine ⟨r', j', k3, fun R k => ?_⟩
  rw [Lp155_1]
  simp only [Lp155_1_step]
  rw [dT (by omega), k2, wP1 (by omega), k4]
theorem fn155 (m : Nat) (hm : 1000 ≤ m) (r : Abs.Rows) (hr : r.length ≤ 500) (a b : Nat) (hb : b ≤ r.length) (ha : a ≤ 1000) : ∃ r' : Abs.Rows, r'.length = r.length ∧ ∀ (R : Type) (k : Abs.Rows → Option R), Fn155 (m + 3) r a b k = k r' := by
 obtain ⟨r', j', k1, k2⟩ := lp155 m hm r.length hr a b hb (max (a + 1) b - (a + 1)) (m + 2) (a + 1) r (by omega) (by omega) rfl
 refine ⟨r', k1, fun R k => ?_⟩
 simp only [Fn155]
 rw [wP1 (by omega), k2]
theorem fn98 (m : Nat) (hm : 1000 ≤ m) (r : Abs.Rows) (hr : r.length ≤ 19) : ∃ r' : Abs.Rows, r'.length = r.length ∧ ∀ (R : Type) (k : Abs.Rows → Option R), Fn98 (m + 5) r k = k r' := by
 obtain ⟨r', k1, k2⟩ := fn155 m hm r (by omega) 0 r.length (by omega) (by omega)
 refine ⟨r', k1, fun R k => ?_⟩
 simp only [Fn98, Fn128]
 rw [Lp128_2]
 simp only [Lp128_2_step]
 rw [dF (by omega)]
 refine Eq.trans (k2 _ _) ?_
 rw [Lp128_9]
 simp only [Lp128_9_step]
 rw [dF (by omega)]
theorem enc_size (r : Int) : (Utf8.encode r).size ≤ 4 := by
 unfold Utf8.encode
 generalize (if Utf8.valid r = true then r.toNat else Utf8.runeError) = c
 dsimp only
 split
 ·exact (by decide : 1 ≤ 4)
 ·split
  ·exact (by decide : 2 ≤ 4)
  ·split
   ·exact (by decide : 3 ≤ 4)
   ·exact (by decide : 4 ≤ 4)
theorem lp61 (m : Nat) (r : Abs.Rows) (hr : r.length ≤ 100000) (s1 s2 s3 : ByteArray) (a b c d : Int) (s4 : ByteArray) (z : Int) : ∀ (e n i : Nat), i + e = r.length → e < n →
  ∃ x : Bool, ∀ (R : Type) (k : Bool → Option R), Lp61_2 (m + 1) (fun i _ => k (decide (i ≥ 0))) (fun _ => k (decide ((-1 : Int) ≥ 0))) r s1 s2 s3 a b c d s4 z r.length n i = k x
 | _, 0, i, _, h => by omega
 | 0, n + 1, i, h1, h2 => by
  refine ⟨decide ((-1 : Int) ≥ 0), fun R k => ?_⟩
  rw [Lp61_2]
  simp only [Lp61_2_step]
  rw [dF (by omega)]
 | e + 1, n + 1, i, h1, h2 => by
  cases hc : (fS r i 0).toList == s1.toList with
  | true =>
   refine ⟨true, fun R k => ?_⟩
   rw [Lp61_2]
   simp only [Lp61_2_step, tN, Fn97]
   rw [dT (by omega), dT (by omega), bT hc, decide_eq_true (show (i : Int) ≥ 0 by omega)]
  | false =>
   obtain ⟨x, hx⟩ := lp61 m r hr s1 s2 s3 a b c d s4 z e n (i + 1) (by omega) (by omega)
   refine ⟨x, fun R k => ?_⟩
   rw [Lp61_2]
   simp only [Lp61_2_step, tN, Fn97, wP1 (show i ≤ 1000000 by omega)]
   rw [dT (by omega), dT (by omega), bF hc, hx]
theorem fn96 (m : Nat) (r : Abs.Rows) (hr : r.length ≤ 500) (hm : 600 ≤ m) (s1 s2 s3 : ByteArray) (a b c d : Int) (s4 : ByteArray) : ∃ x : Bool, ∀ (R : Type) (k : Bool → Option R), Fn96 (m + 3) r s1 s2 s3 a b c d s4 k = k x := by
 obtain ⟨x, hx⟩ := lp61 m r (by omega) s1 s2 s3 a b c d s4 0 r.length (m + 1) 0 (by omega) (by omega)
 refine ⟨x, fun R k => ?_⟩
 simp only [Fn96, Fn61]
 exact hx R k
theorem jn17 (m : Nat) (hm : 600 ≤ m) (r : Abs.Rows) (hr : r.length ≤ 400) (x : Int) (s1 s2 s3 : ByteArray) (a b c d : Int) (s4 : ByteArray) (y z : Int) (q : Abs.Rows) {t : Int} (h0 : 0 ≤ t) (h1 : t ≤ 1000000) :
  ∃ r' : Abs.Rows, r'.length ≤ r.length + 1 ∧ ∀ (R : Type) (k : Abs.Rows → Int → Option R), Jn43_17 (m + 3) k r x s1 s2 s3 a b c d s4 y z q t = k r' (t + 1) := by
 by_cases c1 : nx q t % 80 = 0
 ·refine ⟨r ++ [[F.lit (Value.string s1), F.lit (Value.string s2), F.lit (Value.string s3), F.lit (Value.int IntKind.i64 a), F.lit (Value.int IntKind.i64 b), F.lit (Value.int IntKind.i64 c), F.lit (Value.int IntKind.i64 d), F.lit (Value.string s4)]], by simp, fun R k => ?_⟩
  simp only [Jn43_17]
  rw [gn44 m q h0 (by omega) (by omega) (by omega), eT c1, dT (by simp [rM]; omega)]
  rfl
 ·obtain ⟨x1, hx⟩ := fn96 m r (by omega) hm s1 s2 s3 a b c d s4
  cases x1 with
  | false =>
   refine ⟨r ++ [[F.lit (Value.string s1), F.lit (Value.string s2), F.lit (Value.string s3), F.lit (Value.int IntKind.i64 a), F.lit (Value.int IntKind.i64 b), F.lit (Value.int IntKind.i64 c), F.lit (Value.int IntKind.i64 d), F.lit (Value.string s4)]], by simp, fun R k => ?_⟩
   simp only [Jn43_17]
   rw [gn44 m q h0 (by omega) (by omega) (by omega), eF c1, hx, bT (show (!false) = true from rfl), dT (by simp [rM]; omega)]
   rfl
  | true =>
   refine ⟨r, by omega, fun R k => ?_⟩
   simp only [Jn43_17]
   rw [gn44 m q h0 (by omega) (by omega) (by omega), eF c1, hx, bF (show (!true) = false from rfl)]
end Go.Proofs.YtcoplddcbedeoaaGreatDoor.Med
end
section
set_option linter.unusedVariables false
set_option linter.unusedSimpArgs false
set_option linter.unusedSectionVars false
namespace Go.Proofs.YtcoplddcbedeoaaGreatDoor.Med
open Go Go.Abs Go.Proofs
set_option linter.unusedVariables false
set_option linter.unusedSimpArgs false
theorem jn11 (m : Nat) (hm : 600 ≤ m) (r : Abs.Rows) (hr : r.length ≤ 400) (x : Int) (s1 s2 s3 : ByteArray) (a b c d : Int) (s4 : ByteArray) (y z : Int) (q : Abs.Rows) {t : Int} (h0 : 0 ≤ t) (h1 : t ≤ 9000) :
  ∃ (r' : Abs.Rows) (t' : Int), r'.length ≤ r.length + 1 ∧ t ≤ t' ∧ t' ≤ t + 12 ∧ ∀ (R : Type) (k : Abs.Rows → Int → Option R), Jn43_11 (m + 5) (fun r _ _ _ _ _ _ _ _ t => k r t) r x s1 s2 s3 a b c d s4 y z q t = k r' t' := by
 by_cases c1 : nx q t % 80 = 0
 ·by_cases c2 : nx q (t + 1) % 4 = 0
  ·obtain ⟨r', k1, k2⟩ := jn17 (m + 2) (by omega) r hr x (pkS [[F.lit (Value.string ⟨#[]⟩)], [F.lit (Value.string ⟨#[65]⟩)], [F.lit (Value.string ⟨#[114, 97]⟩)]] q (t + 1 + 1)) s2 s3 a b c d s4 y z q (t := t + 1 + 1 + 1) (by omega) (by omega)
   refine ⟨r', t + 1 + 1 + 1 + 1, k1, ?_, ?_, fun R k => ?_⟩
   rotate_left 2
   ·simp only [Jn43_11]
    rw [gn44 (m + 2) q h0 (by omega) (by omega) (by omega), eT c1, gn46 (m + 3) q (by omega) (by omega) (by omega) (by omega), eT c2, gn32 (m + 2) q _ (by omega) (by omega) (by simp) (by simp)]
    exact k2 _ _
   ·omega
   ·omega
  ·by_cases c3 : nx q (t + 1) % 4 = 1
   ·obtain ⟨p1, u1, e1⟩ := fn95 (m + 1) q (t := t + 1 + 1) (by omega) (by omega)
    obtain ⟨p2, u2, e2⟩ := fn95 (m + 1) q (t := t + 1 + 1 + 1 + 1) (by omega) (by omega)
    obtain ⟨r', k1, k2⟩ := jn17 (m + 2) (by omega) r hr x s1 p1 p2 a b c d s4 y z q (t := t + 1 + 1 + 1 + 1 + 1 + 1) (by omega) (by omega)
    refine ⟨r', t + 1 + 1 + 1 + 1 + 1 + 1 + 1, k1, ?_, ?_, fun R k => ?_⟩
    rotate_left 2
    ·simp only [Jn43_11]
     rw [gn44 (m + 2) q h0 (by omega) (by omega) (by omega), eT c1, gn46 (m + 3) q (by omega) (by omega) (by omega) (by omega), eF c2, eT c3, e1, e2]
     exact k2 _ _
    ·omega
    ·omega
   ·by_cases c4 : nx q (t + 1) % 4 = 2
    ·obtain ⟨v1, i1, g1, g2, g3⟩ := gn65 (m + 1) q (i := t + 1 + 1) (lo := 0) (hi := 100) (by omega) (by omega) (by omega) (by omega) (by omega)
     obtain ⟨v2, i2, g4, g5, g6⟩ := gn65 (m + 1) q (i := i1) (lo := 1) (hi := 4) (by omega) (by omega) (by omega) (by omega) (by omega)
     obtain ⟨r', k1, k2⟩ := jn17 (m + 2) (by omega) r hr x s1 s2 s3 a b v1 v2 s4 y z q (t := i2) (by omega) (by omega)
     refine ⟨r', i2 + 1, k1, ?_, ?_, fun R k => ?_⟩
     rotate_left 2
     ·simp only [Jn43_11]
      rw [gn44 (m + 2) q h0 (by omega) (by omega) (by omega), eT c1, gn46 (m + 3) q (by omega) (by omega) (by omega) (by omega), eF c2, eF c3, eT c4, g3, g6]
      exact k2 _ _
     ·omega
     ·omega
    ·obtain ⟨v1, i1, g1, g2, g3⟩ := gn65 (m + 1) q (i := t + 1 + 1) (lo := 0) (hi := 100) (by omega) (by omega) (by omega) (by omega) (by omega)
     obtain ⟨v2, i2, g4, g5, g6⟩ := gn65 (m + 1) q (i := i1) (lo := 0) (hi := 100) (by omega) (by omega) (by omega) (by omega) (by omega)
     obtain ⟨r', k1, k2⟩ := jn17 (m + 2) (by omega) r hr x s1 s2 s3 v1 v2 c d (pkS [[F.lit (Value.string ⟨#[]⟩)], [F.lit (Value.string ⟨#[65]⟩)]] q i2) y z q (t := i2 + 1) (by omega) (by omega)
     refine ⟨r', i2 + 1 + 1, k1, ?_, ?_, fun R k => ?_⟩
     rotate_left 2
     ·simp only [Jn43_11]
      rw [gn44 (m + 2) q h0 (by omega) (by omega) (by omega), eT c1, gn46 (m + 3) q (by omega) (by omega) (by omega) (by omega), eF c2, eF c3, eF c4, g3, g6, gn32 (m + 2) q _ (by omega) (by omega) (by simp) (by simp)]
      exact k2 _ _
     ·omega
     ·omega
 ·obtain ⟨r', k1, k2⟩ := jn17 (m + 2) (by omega) r hr x s1 s2 s3 a b c d s4 y z q (t := t + 1) (by omega) (by omega)
  refine ⟨r', t + 1 + 1, k1, ?_, ?_, fun R k => ?_⟩
  rotate_left 2
  ·simp only [Jn43_11]
   rw [gn44 (m + 2) q h0 (by omega) (by omega) (by omega), eF c1]
   exact k2 _ _
  ·omega
  ·omega
theorem lp43r (m : Nat) (hm : 600 ≤ m) (q : Abs.Rows) (N : Nat) (hN : N ≤ 100) : ∀ (d n i : Nat) (r : Abs.Rows) (at_ t : Int), i + d = N → d < n → r.length + d ≤ 200 → 0 ≤ t → t + 30 * d ≤ 8000 →
  ∃ (r' : Abs.Rows) (x : Int) (t' : Int), r'.length ≤ r.length + d ∧ t ≤ t' ∧ t' ≤ t + 30 * d ∧ ∀ (R : Type) (k : Abs.Rows → Int → Int → Int → Option R), Lp43_4 (m + 5) k N q n r at_ i t = k r' x N t'
 | _, 0, _, _, _, _, _, h, _, _, _ => by omega
 | 0, n + 1, i, r, at_, t, h1, h2, h3, h4, h5 => by
  refine ⟨r, at_, t, by omega, by omega, by omega, fun R k => ?_⟩
  rw [Lp43_4]
  simp only [Lp43_4_step]
  rw [dF (by omega), show i = N by omega]
 | d + 1, n + 1, i, r, at_, t, h1, h2, h3, h4, h5 => by
  have hsz : ∀ x : Int, ByteArray.size ⟨#[(114 : UInt8)]⟩ + ByteArray.size (Utf8.encode x) ≤ strMax := fun x => by
   have h1 := enc_size x
   have h2 : ByteArray.size ⟨#[(114 : UInt8)]⟩ = 1 := rfl
   have h3 : strMax = 1099511627776 := rfl
   omega
  have key : ∃ (T : Int), t ≤ T ∧ T ≤ t + 8 ∧ ∃ (A B : Int) (s1 s2 s3 : ByteArray) (a b c e : Int) (s4 : ByteArray), ∀ (R : Type) (k : Abs.Rows → Int → Int → Int → Option R), Lp43_4 (m + 5) k N q (n + 1) r at_ i t =
    Jn43_11 (m + 5) (fun r _ _ _ _ _ _ _ _ t => Lp43_4 (m + 5) k N q n r A ((i + 1 : Nat) : Int) t) r B s1 s2 s3 a b c e s4 N i q T := by
   by_cases ch : pk [[F.lit (Value.int IntKind.i64 (1 : Int))], [F.lit (Value.int IntKind.i64 (1 : Int))], [F.lit (Value.int IntKind.i64 (1 : Int))], [F.lit (Value.int IntKind.i64 (2 : Int))], [F.lit (Value.int IntKind.i64 (3 : Int))], [F.lit (Value.int IntKind.i64 (4 : Int))]] q (t + 1 + 1 + 1 + 1 + 1) = 1
   ·refine ⟨t + 1 + 1 + 1 + 1 + 1 + 1 + 1 + 1, by omega, by omega, ?_⟩
    iterate 10 apply Exists.intro
    intro R k
    rw [Lp43_4]
    simp only [Lp43_4_step, wP1 (show i ≤ 1000000 by omega)]
    rw [dT (by omega), gn9 (m + 2) q _ (by omega) (by omega) (by simp) (by simp), gn46 (m + 3) q (by omega) (by omega) (by omega) (by omega), dT (hsz _)]
    simp only [letV]
    rw [gn32 (m + 2) q _ (by omega) (by omega) (by simp) (by simp), gn32 (m + 2) q _ (by omega) (by omega) (by simp) (by simp), gn9 (m + 2) q _ (by omega) (by omega) (by simp) (by simp), gn9 (m + 2) q _ (by omega) (by omega) (by simp) (by simp), gn32 (m + 2) q _ (by omega) (by omega) (by simp) (by simp), eT ch, gn9 (m + 2) q _ (by omega) (by omega) (by simp) (by simp)]
   ·refine ⟨t + 1 + 1 + 1 + 1 + 1 + 1 + 1, by omega, by omega, ?_⟩
    iterate 10 apply Exists.intro
    intro R k
    rw [Lp43_4]
    simp only [Lp43_4_step, wP1 (show i ≤ 1000000 by omega)]
    rw [dT (by omega), gn9 (m + 2) q _ (by omega) (by omega) (by simp) (by simp), gn46 (m + 3) q (by omega) (by omega) (by omega) (by omega), dT (hsz _)]
    simp only [letV]
    rw [gn32 (m + 2) q _ (by omega) (by omega) (by simp) (by simp), gn32 (m + 2) q _ (by omega) (by omega) (by simp) (by simp), gn9 (m + 2) q _ (by omega) (by omega) (by simp) (by simp), gn9 (m + 2) q _ (by omega) (by omega) (by simp) (by simp), gn32 (m + 2) q _ (by omega) (by omega) (by simp) (by simp), eF ch]
  obtain ⟨T, hT1, hT2, A, B, s1, s2, s3, a, b, c, e, s4, hk⟩ := key
  obtain ⟨r1, t1, k1, k2, k3, k4⟩ := jn11 m hm r (by omega) B s1 s2 s3 a b c e s4 N i q (t := T) (by omega) (by omega)
  obtain ⟨r', x, t', k5, k6, k7, k8⟩ := lp43r m hm q N hN d n (i + 1) r1 A t1 (by omega) (by omega) (by omega) (by omega) (by omega)
  refine ⟨r', x, t', by omega, by omega, by omega, fun R k => ?_⟩
  rw [hk, k4, k8]
theorem fn43r (m : Nat) (hm : 1000 ≤ m) (q : Abs.Rows) {t : Int} (h0 : 0 ≤ t) (h1 : t ≤ 1000) (N : Nat) (hN : N ≤ 14) : ∃ (l : Abs.Rows) (t' : Int), l.length ≤ 14 ∧ t ≤ t' ∧ t' ≤ t + 500 ∧ ∀ (R : Type) (k : Abs.Rows → Int → Option R), Fn43 (m + 6) q t N k = k l t' := by
 obtain ⟨r, x, t', k1, k2, k3, k4⟩ := lp43r m (by omega) q N (by omega) N (m + 5) 0 rows0 0 t (by omega) (by omega) (by simp [rows0]; omega) h0 (by omega)
 simp only [rows0, List.length_nil] at k1
 obtain ⟨r', k5, k6⟩ := fn98 m hm r (by omega)
 refine ⟨r', t', by omega, by omega, by omega, fun R k => ?_⟩
 simp only [Fn43]
 refine Eq.trans (k4 _ _) ?_
 rw [k6]
end Go.Proofs.YtcoplddcbedeoaaGreatDoor.Med
end
section
set_option linter.unusedVariables false
set_option linter.unusedSimpArgs false
set_option linter.unusedSectionVars false
namespace Go.Proofs.YtcoplddcbedeoaaGreatDoor.Med
open Go Go.Abs Go.Proofs
set_option linter.unusedVariables false
set_option linter.unusedSimpArgs false
/-! are records right -/
def cm (a b : Int) : Int := if a < b then -1 else if a > b then 1 else 0
def coV (a b : Int) (s t : ByteArray) : Int := if cm a b ≠ 0 then cm a b else cmpB s t
def momP (a b c : Int) : Prop := (0 ≤ a ∧ a ≤ 345686399999) ∧ (0 ≤ b ∧ b ≤ 86400000) ∧ (0 ≤ c ∧ c ≤ 86400000)
instance (a b c : Int) : Decidable (momP a b c) := by unfold momP; infer_instance
theorem ro_co {a b : Int} (ha : 0 ≤ a ∧ a ≤ 345686399999) (hb : 0 ≤ b ∧ b ≤ 345686399999) (s t : ByteArray) : roV a b s t = coV a b s t := by
 unfold roV coV sgV cm
 by_cases h : a = b
 ·subst h
  rw [if_neg (by simp), if_neg (show ¬ a < a by omega), if_neg (show ¬ a > a by omega), if_neg (by simp)]
 ·rw [if_pos h, w64 (by omega) (by omega)]
  by_cases h2 : a < b
  ·rw [if_pos h2, if_pos (show a - b < 0 by omega), if_pos (by decide)]
  ·rw [if_neg h2, if_pos (show a > b by omega), if_neg (show ¬ a - b < 0 by omega), if_pos (show a - b > 0 by omega), if_pos (by decide)]
def carB (s : ByteArray) : Bool := decide (ls s = []) || keyB (ls s)
def c3 (d c : Int) (s4 : ByteArray) (o : Bool) : Int := if ¬ (1 ≤ d ∧ d ≤ 4) then 4 else if ((d == 1) == decide (c > 0)) = false then 3 else if carB s4 = false then 5 else if o = true then 7 else 0
def ordR (l : Abs.Rows) (i : Nat) : Bool := decide (0 < i ∧ 0 ≤ coV (fI l (i - 1) 3) (fI l i 3) (fS l (i - 1) 0) (fS l i 0))
def rcF (l : Abs.Rows) (i : Nat) : Int := if keyB (ls (fS l i 0)) = false then 5 else if (numB (ls (fS l i 1)) && numB (ls (fS l i 2))) = false then 3 else
 if ¬ momP (fI l i 3) (fI l i 4) (fI l i 5) then 1 else c3 (fI l i 6) (fI l i 5) (fS l i 7) (ordR l i)
theorem rc_mom {l : Abs.Rows} {i : Nat} (h : rcF l i = 0) : momP (fI l i 3) (fI l i 4) (fI l i 5) := by
 unfold rcF at h
 split at h
 ·omega
 ·split at h
  ·omega
  ·split at h
   ·omega
   ·rename_i c; exact Decidable.not_not.1 c
theorem rc_how {l : Abs.Rows} {i : Nat} (h : rcF l i = 0) : (fI l i 6 = 1 ↔ fI l i 5 > 0) := by
 unfold rcF at h
 split at h
 ·omega
 ·split at h
  ·omega
  ·split at h
   ·omega
   ·unfold c3 at h
    split at h
    ·omega
    ·split at h
     ·omega
     ·rename_i c
      have c : ((fI l i 6 == 1) == decide (fI l i 5 > 0)) = true := by simpa using c
      have c := eq_of_beq c
      rw [Bool.eq_iff_iff] at c
      simpa using c
def momR (l : Abs.Rows) (i : Nat) : Prop := 0 < i → 0 ≤ fI l (i - 1) 3 ∧ fI l (i - 1) 3 ≤ 345686399999
theorem notnil (s : ByteArray) : (!(s.toList == ({ data := #[] } : ByteArray).toList)) = !decide (ls s = []) := by
 have : (s.toList == ({ data := #[] } : ByteArray).toList) = decide (ls s = []) := by
  rw [show ({ data := #[] } : ByteArray).toList = [] from bs_toList [], Lib.toList_data, Bool.eq_iff_iff]; simp
 rw [this]
section
variable {R : Type} (K : Int → Option R) (Z : Option R)
def goK (v : Int) : Option R := if v = 0 then Z else K v
theorem jn28_19 (m : Nat) (l : Abs.Rows) (hl : l.length ≤ 100000) (z : Int) (i : Nat) (hi : i < l.length) (hp : momR l i) (ha : 0 ≤ fI l i 3 ∧ fI l i 3 ≤ 345686399999) (s2 s3 : ByteArray) (b c d : Int) (s4 : ByteArray) (r2 : Abs.Rows) (z1 z2 : Int) (f : Bool) :
  Jn28_19 (m + 2) (fun e _ => K e) (fun _ => Z) l z i (fS l i 0) s2 s3 (fI l i 3) b c d s4 r2 z1 z2 f = if f = true then K 5 else if ordR l i = true then K 7 else Z := by
 simp only [Jn28_19]
 cases f with
 | true => rfl
 | false =>
  refine Eq.trans (bF rfl) ?_
  rw [if_neg (by decide)]
  unfold ordR
  by_cases h : 0 < i
  ·rw [dT (by omega), wM1 h (by omega), dT (by omega)]
   simp only [tN]
   rw [fn73, ro_co (hp h) ha]
   by_cases h2 : 0 ≤ coV (fI l (i - 1) 3) (fI l i 3) (fS l (i - 1) 0) (fS l i 0)
   ·rw [dT h2, if_pos (decide_eq_true ⟨h, h2⟩)]
   ·rw [dF h2, if_neg (by simp; intro _; omega)]
  ·rw [dF (by omega), if_neg (by simp; omega)]
theorem jn28_13 (m : Nat) (hm : 200 ≤ m) (l : Abs.Rows) (hl : l.length ≤ 100000) (z : Int) (i : Nat) (hi : i < l.length) (hp : momR l i) (ha : 0 ≤ fI l i 3 ∧ fI l i 3 ≤ 345686399999) (s2 s3 : ByteArray) (b c d : Int) (s4 : ByteArray) (r2 : Abs.Rows) (z1 z2 : Int) :
  Jn28_13 (m + 5) (fun e _ => K e) (fun e => K e) Z l z i (fS l i 0) s2 s3 (fI l i 3) b c d s4 r2 z1 z2 false = goK K Z (c3 d c s4 (ordR l i)) := by
 simp only [Jn28_13]
 refine Eq.trans (bF rfl) ?_
 refine Eq.trans (fn70 (m + 4) d 1 4 _) ?_
 unfold goK c3
 by_cases h1 : 1 ≤ d ∧ d ≤ 4
 ·rw [decide_eq_true h1, if_neg (not_not_intro h1)]
  refine Eq.trans (bF rfl) ?_
  cases h2 : ((d == 1) == decide (c > 0)) with
  | false => rfl
  | true =>
   refine Eq.trans (bF rfl) ?_
   rw [if_neg (show ¬ (true = false) by decide)]
   have hj := fun (f : Bool) => jn28_19 K Z (m + 3) l hl z i hi hp ha s2 s3 b c d s4 r2 z1 z2 f
   have fin : ∀ f : Bool, f = !carB s4 → Jn28_19 (m + 5) (fun e _ => K e) (fun _ => Z) l z i (fS l i 0) s2 s3 (fI l i 3) b c d s4 r2 z1 z2 f = if (if carB s4 = false then (5 : Int) else if ordR l i = true then 7 else 0) = 0 then Z else K (if carB s4 = false then (5 : Int) else if ordR l i = true then 7 else 0) := by
    intro f hf
    rw [hj, hf]
    cases carB s4 with
    | false => rfl
    | true => cases ordR l i <;> rfl
   rw [notnil]
   by_cases h3 : ls s4 = []
   ·rw [decide_eq_true h3]
    exact fin false (by unfold carB; rw [decide_eq_true h3]; rfl)
   ·rw [decide_eq_false h3]
    refine Eq.trans (bT rfl) ?_
    refine Eq.trans (fn34b (m + 1) (by omega) s4 _) ?_
    exact fin _ (by unfold carB; rw [decide_eq_false h3]; rfl)
 ·rw [decide_eq_false h1, if_pos h1]; rfl
theorem jn28_11 (m : Nat) (hm : 200 ≤ m) (l : Abs.Rows) (hl : l.length ≤ 100000) (z : Int) (i : Nat) (hi : i < l.length) (hp : momR l i) (s2 s3 : ByteArray) (b c d : Int) (s4 : ByteArray) (r2 : Abs.Rows) (z1 z2 : Int) (f : Bool) :
  Jn28_11 (m + 5) (fun e _ => K e) (fun e => K e) Z l z i (fS l i 0) s2 s3 (fI l i 3) b c d s4 r2 z1 z2 f = if f = true then K 3 else if ¬ momP (fI l i 3) b c then K 1 else goK K Z (c3 d c s4 (ordR l i)) := by
 simp only [Jn28_11]
 cases f with
 | true => rfl
 | false =>
  refine Eq.trans (bF rfl) ?_
  rw [if_neg (by decide)]
  simp only [Fn72]
  refine Eq.trans (fn70 (m + 3) _ _ _ _) ?_
  by_cases h1 : 0 ≤ fI l i 3 ∧ fI l i 3 ≤ 345686399999
  ·rw [decide_eq_true h1]
   refine Eq.trans (bF rfl) ?_
   refine Eq.trans (fn70 (m + 4) _ _ _ _) ?_
   by_cases h2 : 0 ≤ b ∧ b ≤ 86400000
   ·rw [decide_eq_true h2]
    refine Eq.trans (bF rfl) ?_
    refine Eq.trans (fn70 (m + 4) _ _ _ _) ?_
    by_cases h3 : 0 ≤ c ∧ c ≤ 86400000
    ·rw [decide_eq_true h3, if_neg (not_not_intro (show momP (fI l i 3) b c from ⟨h1, h2, h3⟩))]
     exact jn28_13 K Z m hm l hl z i hi hp h1 s2 s3 b c d s4 r2 z1 z2
    ·rw [decide_eq_false h3, if_pos (fun h : momP (fI l i 3) b c => h3 h.2.2)]; rfl
   ·rw [decide_eq_false h2, if_pos (fun h : momP (fI l i 3) b c => h2 h.2.1)]; rfl
  ·rw [decide_eq_false h1, if_pos (fun h : momP (fI l i 3) b c => h1 h.1)]; rfl
end
theorem goK_rc {R : Type} {K : Int → Option R} {Z : Option R} {l : Abs.Rows} {i : Nat} (h1 : keyB (ls (fS l i 0)) = true) :
  (if (!(numB (ls (fS l i 1)) && numB (ls (fS l i 2)))) = true then K 3 else if ¬ momP (fI l i 3) (fI l i 4) (fI l i 5) then K 1 else goK K Z (c3 (fI l i 6) (fI l i 5) (fS l i 7) (ordR l i))) = goK K Z (rcF l i) := by
 unfold rcF
 rw [if_neg (show ¬ keyB (ls (fS l i 0)) = false by rw [h1]; decide)]
 cases (numB (ls (fS l i 1)) && numB (ls (fS l i 2))) with
 | false => rfl
 | true =>
  rw [if_neg (by decide), if_neg (show ¬ (true = false) by decide)]
  by_cases h : momP (fI l i 3) (fI l i 4) (fI l i 5)
  ·rw [if_neg (not_not_intro h), if_neg (not_not_intro h)]
  ·rw [if_pos h, if_pos h]; rfl
theorem momR_next {l : Abs.Rows} {i : Nat} (h : rcF l i = 0) : momR l (i + 1) := fun _ => by
 rw [Nat.add_sub_cancel]
 exact (rc_mom h).1
theorem lp28 (m : Nat) (hm : 200 ≤ m) (l : Abs.Rows) (hl : l.length ≤ 100000) (z : Int) {R : Type} (K : Int → Option R) (kx1 : Int → Option R) : ∀ (d n i : Nat), i + d = l.length → d < n → momR l i →
  Lp28_5 (m + 5) (fun e _ => K e) kx1 l z l l.length n i = if fstE (rcF l) d i = 0 then kx1 l.length else K (fstE (rcF l) d i)
 | _, 0, _, _, h, _ => by omega
 | 0, n + 1, i, h1, h2, h3 => by
  rw [Lp28_5]
  simp only [Lp28_5_step]
  rw [dF (by omega), show i = l.length by omega]
  rfl
 | d + 1, n + 1, i, h1, h2, h3 => by
  rw [Lp28_5]
  simp only [Lp28_5_step, wP1 (show i ≤ 1000000 by omega), tN]
  rw [dT (by omega), dT (by omega), fstE_step]
  refine Eq.trans (fn34b (m + 1) (by omega) _ _) ?_
  cases c1 : keyB (ls (fS l i 0)) with
  | false => rw [show rcF l i = 5 by unfold rcF; rw [if_pos c1]]; rfl
  | true =>
   refine Eq.trans (bF rfl) ?_
   have hj := fun (f : Bool) => jn28_11 K (Lp28_5 (m + 5) (fun e _ => K e) kx1 l z l l.length n ((i + 1 : Nat) : Int)) m hm l hl z i (by omega) h3 (fS l i 1) (fS l i 2) (fI l i 4) (fI l i 5) (fI l i 6) (fS l i 7) l l.length i f
   have hg : ∀ f : Bool, f = (!(numB (ls (fS l i 1)) && numB (ls (fS l i 2)))) → Jn28_11 (m + 5) (fun e _ => K e) (fun e => K e) (Lp28_5 (m + 5) (fun e _ => K e) kx1 l z l l.length n ((i + 1 : Nat) : Int)) l z i (fS l i 0) (fS l i 1) (fS l i 2) (fI l i 3) (fI l i 4) (fI l i 5) (fI l i 6) (fS l i 7) l l.length i f =
     if rcF l i = 0 then (if fstE (rcF l) d (i + 1) = 0 then kx1 l.length else K (fstE (rcF l) d (i + 1))) else K (rcF l i) := by
    intro f hf
    rw [hj, hf, goK_rc c1]
    unfold goK
    by_cases h : rcF l i = 0
    ·rw [if_pos h, if_pos h]
     exact lp28 m hm l hl z K kx1 d n (i + 1) (by omega) (by omega) (momR_next h)
    ·rw [if_neg h, if_neg h]
   refine Eq.trans (fn71b (m + 1) (by omega) _ _) ?_
   cases c2 : numB (ls (fS l i 1)) with
   | false => exact hg true (by rw [c2]; rfl)
   | true =>
    refine Eq.trans (bF rfl) ?_
    refine Eq.trans (fn71b (m + 1) (by omega) _ _) ?_
    exact hg _ (by rw [c2]; rfl)
end Go.Proofs.YtcoplddcbedeoaaGreatDoor.Med
end
section
set_option linter.unusedVariables false
set_option linter.unusedSimpArgs false
set_option linter.unusedSectionVars false
namespace Go.Proofs.YtcoplddcbedeoaaGreatDoor.Med
open Go Go.Abs Go.Proofs
set_option linter.unusedVariables false
set_option linter.unusedSimpArgs false
def insK (ks : List ByteArray) (x : ByteArray) : List ByteArray := if x ∈ ks then ks else ks ++ [x]
theorem seenS_ins (x : ByteArray) : ∀ (ks : List ByteArray), mPut (F.lit (Value.string x)) [F.lit (Value.bool true)] (seenS ks) = seenS (insK ks x)
 | [] => rfl
 | y :: ks => by
  show (bif (x == y) then [F.lit (Value.string x), F.lit (Value.bool true)] :: seenS ks else [F.lit (Value.string y), F.lit (Value.bool true)] :: mPut (F.lit (Value.string x)) [F.lit (Value.bool true)] (seenS ks)) = _
  by_cases h : x = y
  ·subst h; simp [insK]; rfl
  ·rw [beq_false_of_ne h]
   simp only [cond_false]
   rw [seenS_ins x ks]
   unfold insK
   by_cases h2 : x ∈ ks
   ·rw [if_pos h2, if_pos (by simp [h2])]; rfl
   ·rw [if_neg h2, if_neg (by simp [h, h2])]; rfl
def idsK (l : Abs.Rows) : Nat → Nat → List ByteArray → List ByteArray
 | 0, _, ks => ks
 | d + 1, i, ks => idsK l d (i + 1) (insK ks (fS l i 0))
def twB (l : Abs.Rows) : Nat → Nat → List ByteArray → Bool → Bool
 | 0, _, _, b => b
 | d + 1, i, ks, b => twB l d (i + 1) (insK ks (fS l i 0)) (b || decide (fS l i 0 ∈ ks))
theorem insK_len (ks : List ByteArray) (x : ByteArray) : (insK ks x).length ≤ ks.length + 1 := by
 unfold insK; split <;> simp
theorem idsK_len (l : Abs.Rows) : ∀ (d i : Nat) (ks : List ByteArray), (idsK l d i ks).length ≤ ks.length + d
 | 0, i, ks => by simp [idsK]
 | d + 1, i, ks => by
  rw [idsK]
  have := idsK_len l d (i + 1) (insK ks (fS l i 0))
  have := insK_len ks (fS l i 0)
  omega
theorem twB_true (l : Abs.Rows) : ∀ (d i : Nat) (ks : List ByteArray), twB l d i ks true = true
 | 0, i, ks => rfl
 | d + 1, i, ks => by rw [twB, Bool.true_or]; exact twB_true l d (i + 1) _
theorem tw_ids (l : Abs.Rows) : ∀ (d i : Nat) (ks : List ByteArray), twB l d i ks false = decide ((idsK l d i ks).length < ks.length + d)
 | 0, i, ks => by simp [twB, idsK]
 | d + 1, i, ks => by
  rw [twB, idsK, Bool.false_or]
  unfold insK
  by_cases h : fS l i 0 ∈ ks
  ·rw [decide_eq_true h, twB_true, if_pos h]
   have := idsK_len l d (i + 1) ks
   rw [decide_eq_true (by omega)]
  ·rw [decide_eq_false h, if_neg h, tw_ids l d (i + 1)]
   congr 1
   simp only [List.length_append, List.length_cons, List.length_nil, eq_iff_iff]
   omega
/-- - -/
theorem tw_once (l : Abs.Rows) : ∀ (d i : Nat) (ks : List ByteArray), twB l d i ks false = false → (∀ a, i ≤ a → a < i + d → fS l a 0 ∉ ks) ∧ ∀ a b, i ≤ a → a < b → b < i + d → fS l a 0 ≠ fS l b 0
 | 0, i, ks, _ => ⟨fun a h1 h2 => by omega, fun a b h1 h2 h3 => by omega⟩
 | d + 1, i, ks, h => by
  rw [twB, Bool.false_or] at h
  have c : fS l i 0 ∉ ks := fun c => by rw [decide_eq_true c, twB_true] at h; cases h
  rw [decide_eq_false c] at h
  unfold insK at h
  rw [if_neg c] at h
  obtain ⟨h1, h2⟩ := tw_once l d (i + 1) _ h
  refine ⟨fun a ha hb => ?_, fun a b ha hab hb => ?_⟩
  ·by_cases e : a = i
   ·rw [e]; exact c
   ·exact fun hm => h1 a (by omega) (by omega) (by simp [hm])
  ·by_cases e : a = i
   ·rw [e]
    exact fun he => h1 b (by omega) (by omega) (by simp [he])
   ·exact h2 a b (by omega) hab (by omega)
def recF (l : Abs.Rows) : Int := if 3000 < l.length then 2 else if fstE (rcF l) l.length 0 ≠ 0 then fstE (rcF l) l.length 0 else if twB l l.length 0 [] false = true then 6 else 0
theorem lp28m (m : Nat) (l : Abs.Rows) (hl : l.length ≤ 100000) (q : Abs.Rows) {R : Type} (k : Abs.Rows → Option R) : ∀ (d n i : Nat) (ks : List ByteArray), i + d = l.length → d < n → ks.length + d ≤ 1000000 →
  Lp28_27 m (fun M _ => k M) q l l.length n (seenS ks) i = k (seenS (idsK l d i ks))
 | _, 0, _, _, _, h, _ => by omega
 | 0, n + 1, i, ks, h1, h2, h3 => by
  rw [Lp28_27]
  simp only [Lp28_27_step]
  rw [dF (by omega)]
  rfl
 | d + 1, n + 1, i, ks, h1, h2, h3 => by
  rw [Lp28_27]
  simp only [Lp28_27_step, wP1 (show i ≤ 1000000 by omega), tN]
  have := insK_len ks (fS l i 0)
  rw [dT (by omega), dT (by omega), dT (by rw [seenS_len, rM]; omega), seenS_ins]
  exact lp28m m l hl q k d n (i + 1) _ (by omega) (by omega) (by omega)
theorem fn28r (m : Nat) (hm : 4000 ≤ m) (l : Abs.Rows) {R : Type} (k : Int → Option R) : Fn28 (m + 6) l k = k (recF l) := by
 simp only [Fn28]
 unfold recF
 by_cases h1 : 3000 < l.length
 ·rw [dT (by omega), if_pos h1]
 ·rw [dF (by omega), if_neg h1]
  refine Eq.trans (lp28 m (by omega) l (by omega) 0 k _ l.length (m + 5) 0 (by omega) (by omega) (fun h => by omega)) ?_
  by_cases h2 : fstE (rcF l) l.length 0 = 0
  ·rw [if_pos h2, if_neg (not_not_intro h2)]
   refine Eq.trans (lp28m (m + 5) l (by omega) l _ l.length (m + 5) 0 [] (by omega) (by omega) (by simp; omega)) ?_
   rw [tw_ids, seenS_len]
   by_cases h3 : (idsK l l.length 0 []).length < ([] : List ByteArray).length + l.length
   ·rw [dT (by simp at h3; omega), if_pos (decide_eq_true h3)]
   ·rw [dF (by simp at h3; omega), if_neg (by rw [decide_eq_false h3]; decide)]
  ·rw [if_neg h2, if_pos h2]
/-! the program -/
theorem fn87 (m : Nat) (a b : Int) {R : Type} (k : Int → Option R) : Fn87 (m + 2) a b k = k (cm a b) := by
 simp only [Fn87, Fn126]
 rw [nF rfl, nF rfl]
 unfold cm
 by_cases h : a < b
 ·rw [dT h, if_pos h]
 ·rw [dF h, if_neg h]
  by_cases h2 : a > b
  ·rw [dT h2, if_pos h2]
  ·rw [dF h2, if_neg h2]
theorem lp86 (m : Nat) (l : List Int) (hl : l.length ≤ 1000) {R : Type} (k : Int → Option R) (a : Abs.Rows) (z : Int) : ∀ (d n i : Nat), i + d = l.length → d < n →
  Lp86_3 m (fun x _ => k x) (fun _ => k 0) a z 0 (ei l) l.length n i = k (nz (l.drop i))
 | _, 0, _, _, h => by omega
 | 0, n + 1, i, h1, h2 => by
  rw [Lp86_3]
  simp only [Lp86_3_step]
  rw [dF (by omega), show i = l.length by omega, List.drop_length]
  rfl
 | d + 1, n + 1, i, h1, h2 => by
  have hd : l.drop i = l.getD i 0 :: l.drop (i + 1) := by
   rw [List.drop_eq_getElem_cons (by omega), List.getD_eq_getElem?_getD, List.getElem?_eq_getElem (by omega)]
   rfl
  rw [Lp86_3]
  simp only [Lp86_3_step, ei_len, wP1 (show i ≤ 1000000 by omega), tN]
  rw [dT (by omega), dT (by omega), ei_fI l i (by omega), hd, nz]
  by_cases c : l.getD i 0 = 0
  ·rw [nF c, if_neg (by simpa using c)]
   exact lp86 m l hl k a z d n (i + 1) (by omega) (by omega)
  ·rw [nT c, if_pos c]
theorem ei2 (a b : Int) : ([[F.lit (Value.int IntKind.i64 a)], [F.lit (Value.int IntKind.i64 b)]] : Abs.Rows) = ei [a, b] := rfl
theorem ei3 (a b c : Int) : ([[F.lit (Value.int IntKind.i64 a)], [F.lit (Value.int IntKind.i64 b)], [F.lit (Value.int IntKind.i64 c)]] : Abs.Rows) = ei [a, b, c] := rfl
theorem fn102 (m : Nat) (hm : 50 ≤ m) (s1 s2 s3 : ByteArray) (a b c d : Int) (s4 t1 t2 t3 : ByteArray) (a' b' c' d' : Int) (t4 : ByteArray) {R : Type} (k : Int → Option R) :
  Fn102 (m + 3) s1 s2 s3 a b c d s4 t1 t2 t3 a' b' c' d' t4 k = k (coV a a' s1 t1) := by
 simp only [Fn102]
 refine Eq.trans (fn87 m a a' _) ?_
 rw [ei2]
 simp only [Fn86, ei_len]
 refine Eq.trans (lp86 (m + 1) [cm a a', cmpB s1 t1] (by simp) k _ 0 2 (m + 1) 0 rfl (by omega)) ?_
 congr 1
 unfold coV
 show (if cm a a' ≠ 0 then cm a a' else if cmpB s1 t1 ≠ 0 then cmpB s1 t1 else 0) = _
 by_cases h : cm a a' = 0
 ·rw [if_neg (not_not_intro h), if_neg (not_not_intro h)]
  by_cases h2 : cmpB s1 t1 = 0
  ·rw [if_neg (not_not_intro h2), h2]
  ·rw [if_pos h2]
 ·rw [if_pos h, if_pos h]
section
variable {R : Type} (K : Int → Option R) (Z : Option R)
theorem jn48_21 (m : Nat) (hm : 50 ≤ m) (l : Abs.Rows) (hl : l.length ≤ 100000) (z : Int) (M : Abs.Rows) (tw : Bool) (i : Nat) (hi : i < l.length) (s2 s3 : ByteArray) (b c d : Int) (s4 : ByteArray) (r2 : Abs.Rows) (z1 z2 : Int) (f : Bool) :
  Jn48_21 (m + 3) (fun e _ => K e) (fun _ => Z) l z M tw i (fS l i 0) s2 s3 (fI l i 3) b c d s4 r2 z1 z2 f = if f = true then K 5 else if ordR l i = true then K 7 else Z := by
 simp only [Jn48_21]
 cases f with
 | true => rfl
 | false =>
  refine Eq.trans (bF rfl) ?_
  rw [if_neg (by decide)]
  unfold ordR
  by_cases h : 0 < i
  ·rw [dT (by omega), wM1 h (by omega), dT (by omega)]
   simp only [tN]
   rw [fn102 m hm]
   by_cases h2 : 0 ≤ coV (fI l (i - 1) 3) (fI l i 3) (fS l (i - 1) 0) (fS l i 0)
   ·rw [dT h2, if_pos (decide_eq_true ⟨h, h2⟩)]
   ·rw [dF h2, if_neg (by simp; intro _; omega)]
  ·rw [dF (by omega), if_neg (by simp; omega)]
theorem jn48_15 (m : Nat) (hm : 200 ≤ m) (l : Abs.Rows) (hl : l.length ≤ 100000) (z : Int) (M : Abs.Rows) (tw : Bool) (i : Nat) (hi : i < l.length) (s2 s3 : ByteArray) (b c d : Int) (s4 : ByteArray) (r2 : Abs.Rows) (z1 z2 : Int) :
  Jn48_15 (m + 5) (fun e _ => K e) (fun e => K e) Z l z M tw i (fS l i 0) s2 s3 (fI l i 3) b c d s4 r2 z1 z2 false = goK K Z (c3 d c s4 (ordR l i)) := by
 simp only [Jn48_15]
 refine Eq.trans (bF rfl) ?_
 refine Eq.trans (fn75 (m + 4) d 1 4 _) ?_
 unfold goK c3
 by_cases h1 : 1 ≤ d ∧ d ≤ 4
 ·rw [decide_eq_true h1, if_neg (not_not_intro h1)]
  refine Eq.trans (bF rfl) ?_
  cases h2 : ((d == 1) == decide (c > 0)) with
  | false => rfl
  | true =>
   refine Eq.trans (bF rfl) ?_
   rw [if_neg (show ¬ (true = false) by decide)]
   have hj := fun (f : Bool) => jn48_21 K Z (m + 2) (by omega) l hl z M tw i hi s2 s3 b c d s4 r2 z1 z2 f
   have fin : ∀ f : Bool, f = !carB s4 → Jn48_21 (m + 5) (fun e _ => K e) (fun _ => Z) l z M tw i (fS l i 0) s2 s3 (fI l i 3) b c d s4 r2 z1 z2 f = if (if carB s4 = false then (5 : Int) else if ordR l i = true then 7 else 0) = 0 then Z else K (if carB s4 = false then (5 : Int) else if ordR l i = true then 7 else 0) := by
    intro f hf
    rw [hj, hf]
    cases carB s4 with
    | false => rfl
    | true => cases ordR l i <;> rfl
   rw [notnil]
   by_cases h3 : ls s4 = []
   ·rw [decide_eq_true h3]
    exact fin false (by unfold carB; rw [decide_eq_true h3]; rfl)
   ·rw [decide_eq_false h3]
    refine Eq.trans (bT rfl) ?_
    refine Eq.trans (fn74b (m + 4) s4 _) ?_
    exact fin _ (by unfold carB; rw [decide_eq_false h3]; rfl)
 ·rw [decide_eq_false h1, if_pos h1]; rfl
theorem jn48_13 (m : Nat) (hm : 200 ≤ m) (l : Abs.Rows) (hl : l.length ≤ 100000) (z : Int) (M : Abs.Rows) (tw : Bool) (i : Nat) (hi : i < l.length) (s2 s3 : ByteArray) (b c d : Int) (s4 : ByteArray) (r2 : Abs.Rows) (z1 z2 : Int) (f : Bool) :
  Jn48_13 (m + 5) (fun e _ => K e) (fun e => K e) Z l z M tw i (fS l i 0) s2 s3 (fI l i 3) b c d s4 r2 z1 z2 f = if f = true then K 3 else if ¬ momP (fI l i 3) b c then K 1 else goK K Z (c3 d c s4 (ordR l i)) := by
 simp only [Jn48_13]
 cases f with
 | true => rfl
 | false =>
  refine Eq.trans (bF rfl) ?_
  rw [if_neg (by decide)]
  have e77 : ∀ k : Bool → Option R, Fn77 (m + 5) (fI l i 3) k = k (decide (0 ≤ fI l i 3 ∧ fI l i 3 ≤ 345686399999)) := fun k => by
   simp only [Fn77]
   by_cases h : 0 ≤ fI l i 3
   ·rw [dT h]; congr 1; rw [decide_eq_decide]; omega
   ·rw [dF h]; congr 1; rw [decide_eq_false (by omega)]
  refine Eq.trans (e77 _) ?_
  by_cases h1 : 0 ≤ fI l i 3 ∧ fI l i 3 ≤ 345686399999
  ·rw [decide_eq_true h1]
   refine Eq.trans (bF rfl) ?_
   refine Eq.trans (fn75 (m + 4) _ _ _ _) ?_
   by_cases h2 : 0 ≤ b ∧ b ≤ 86400000
   ·rw [decide_eq_true h2]
    refine Eq.trans (bF rfl) ?_
    refine Eq.trans (fn75 (m + 4) _ _ _ _) ?_
    by_cases h3 : 0 ≤ c ∧ c ≤ 86400000
    ·rw [decide_eq_true h3, if_neg (not_not_intro (show momP (fI l i 3) b c from ⟨h1, h2, h3⟩))]
     exact jn48_15 K Z m hm l hl z M tw i hi s2 s3 b c d s4 r2 z1 z2
    ·rw [decide_eq_false h3, if_pos (fun h : momP (fI l i 3) b c => h3 h.2.2)]; rfl
   ·rw [decide_eq_false h2, if_pos (fun h : momP (fI l i 3) b c => h2 h.2.1)]; rfl
  ·rw [decide_eq_false h1, if_pos (fun h : momP (fI l i 3) b c => h1 h.1)]; rfl
end
theorem jn48_25 (m : Nat) {R : Type} (kx0 : Abs.Rows → Bool → Option R) (l : Abs.Rows) (z : Int) (ks : List ByteArray) (hk : ks.length ≤ 1000000) (tw : Bool) (s1 s2 s3 : ByteArray) (a b c d : Int) (s4 : ByteArray) (r2 : Abs.Rows) (z1 z2 : Int) :
  Jn48_25 m kx0 l z (seenS ks) tw s1 s2 s3 a b c d s4 r2 z1 z2 = kx0 (seenS (insK ks s1)) (tw || decide (s1 ∈ ks)) := by
 simp only [Jn48_25]
 cases tw with
 | true => rw [bT rfl, dT (by rw [seenS_len, rM]; omega), seenS_ins]; rfl
 | false => rw [bF rfl, dT (by rw [seenS_len, rM]; omega), seenS_ins, seenS_get]; rfl
theorem lp48 (m : Nat) (hm : 200 ≤ m) (l : Abs.Rows) (hl : l.length ≤ 100000) (z : Int) {R : Type} (K : Int → Option R) (kx1 : Bool → Option R) : ∀ (d n i : Nat) (ks : List ByteArray) (tw : Bool), i + d = l.length → d < n → ks.length ≤ i →
  Lp48_7 (m + 5) (fun e _ _ _ => K e) (fun _ b _ => kx1 b) l z l l.length n (seenS ks) tw i = if fstE (rcF l) d i = 0 then kx1 (twB l d i ks tw) else K (fstE (rcF l) d i)
 | _, 0, _, _, _, _, h, _ => by omega
 | 0, n + 1, i, ks, tw, h1, h2, h3 => by
  rw [Lp48_7]
  simp only [Lp48_7_step]
  rw [dF (by omega)]
  rfl
 | d + 1, n + 1, i, ks, tw, h1, h2, h3 => by
  rw [Lp48_7]
  simp only [Lp48_7_step, wP1 (show i ≤ 1000000 by omega), tN]
  rw [dT (by omega), dT (by omega), fstE_step, twB]
  refine Eq.trans (fn74b (m + 4) _ _) ?_
  cases c1 : keyB (ls (fS l i 0)) with
  | false => rw [show rcF l i = 5 by unfold rcF; rw [if_pos c1]]; rfl
  | true =>
   refine Eq.trans (bF rfl) ?_
   have hlen := insK_len ks (fS l i 0)
   have hz := jn48_25 (m + 5) (fun M b => Lp48_7 (m + 5) (fun e _ _ _ => K e) (fun _ b _ => kx1 b) l z l l.length n M b ((i + 1 : Nat) : Int)) l z ks (by omega) tw (fS l i 0) (fS l i 1) (fS l i 2) (fI l i 3) (fI l i 4) (fI l i 5) (fI l i 6) (fS l i 7) l l.length i
   have hj := fun (Z : Option R) (f : Bool) => jn48_13 K Z m hm l hl z (seenS ks) tw i (by omega) (fS l i 1) (fS l i 2) (fI l i 4) (fI l i 5) (fI l i 6) (fS l i 7) l l.length i f
   have hg : ∀ f : Bool, f = (!(numB (ls (fS l i 1)) && numB (ls (fS l i 2)))) → Jn48_13 (m + 5) (fun e _ => K e) (fun e => K e) (Jn48_25 (m + 5) (fun M b => Lp48_7 (m + 5) (fun e _ _ _ => K e) (fun _ b _ => kx1 b) l z l l.length n M b ((i + 1 : Nat) : Int)) l z (seenS ks) tw (fS l i 0) (fS l i 1) (fS l i 2) (fI l i 3) (fI l i 4) (fI l i 5) (fI l i 6) (fS l i 7) l l.length i) l z (seenS ks) tw i (fS l i 0) (fS l i 1) (fS l i 2) (fI l i 3) (fI l i 4) (fI l i 5) (fI l i 6) (fS l i 7) l l.length i f =
     if rcF l i = 0 then (if fstE (rcF l) d (i + 1) = 0 then kx1 (twB l d (i + 1) (insK ks (fS l i 0)) (tw || decide (fS l i 0 ∈ ks))) else K (fstE (rcF l) d (i + 1))) else K (rcF l i) := by
    intro f hf
    rw [hj, hf, goK_rc c1]
    unfold goK
    by_cases h : rcF l i = 0
    ·rw [if_pos h, if_pos h, hz]
     exact lp48 m hm l hl z K kx1 d n (i + 1) _ _ (by omega) (by omega) (by omega)
    ·rw [if_neg h, if_neg h]
   refine Eq.trans (fn104b (m + 1) _ _) ?_
   cases c2 : numB (ls (fS l i 1)) with
   | false => exact hg true (by rw [c2]; rfl)
   | true =>
    refine Eq.trans (bF rfl) ?_
    refine Eq.trans (fn104b (m + 1) _ _) ?_
    exact hg _ (by rw [c2]; rfl)
theorem fn48 (m : Nat) (hm : 4000 ≤ m) (l : Abs.Rows) {R : Type} (k : Int → Option R) : Fn48 (m + 6) l k = k (recF l) := by
 simp only [Fn48]
 unfold recF
 by_cases h1 : 3000 < l.length
 ·rw [dT (by omega), if_pos h1]
 ·rw [dF (by omega), if_neg h1]
  refine Eq.trans (lp48 m (by omega) l (by omega) 0 k (fun b => bif b then k 6 else k 0) l.length (m + 5) 0 [] false (by omega) (by omega) (by simp)) ?_
  by_cases h2 : fstE (rcF l) l.length 0 = 0
  ·rw [if_pos h2, if_neg (not_not_intro h2)]
   cases twB l l.length 0 [] false <;> rfl
  ·rw [if_neg h2, if_pos h2]
end Go.Proofs.YtcoplddcbedeoaaGreatDoor.Med
end
section
set_option linter.unusedVariables false
set_option linter.unusedSimpArgs false
set_option linter.unusedSectionVars false
namespace Go.Proofs.YtcoplddcbedeoaaGreatDoor.Med
open Go Go.Abs Go.Proofs
set_option linter.unusedVariables false
set_option linter.unusedSimpArgs false
/-! charges -/
abbrev eS : ByteArray := ⟨#[]⟩
theorem fn57b (m : Nat) (r : Abs.Rows) (hl : r.length ≤ 1000) (hm : 1100 ≤ m) (hs : SortP r) (s : ByteArray) (hl2 : (ls s).length ≤ 1000) (f : Int) (q : Abs.Rows) {R : Type} (k : ByteArray → ByteArray → Int → Int → Int → Int → Bool → Option R) :
  Fn57 (m + 3) r f q s k = apC r (clsF r (ls s) (ls s).length) k := (congrArg (fun x => Fn57 (m + 3) r f q x k) (bs_of s)).trans (fn57 m r hl hm hs (ls s) hl2 f q k)
theorem fn114b (m : Nat) (r : Abs.Rows) (hl : r.length ≤ 1000) (hm : 1100 ≤ m) (s : ByteArray) (hl2 : (ls s).length ≤ 1000) (f : Int) (q : Abs.Rows) {R : Type} (k : ByteArray → ByteArray → Int → Int → Int → Int → Bool → Option R) :
  Fn114 (m + 1) r f q s k = apC r (clsF r (ls s) (ls s).length) k := (congrArg (fun x => Fn114 (m + 1) r f q x k) (bs_of s)).trans (fn114 m r hl hm (ls s) hl2 f q k)
theorem cls_lt {r : Abs.Rows} {l : List UInt8} {j : Nat} : ∀ (n : Nat), clsF r l n = some j → j < r.length
 | 0, h => by
  rw [clsF] at h
  have := fx_lt _ _ h
  omega
 | n + 1, h => by
  rw [clsF] at h
  cases hf : fxF r (l.take (n + 1)) r.length 0 with
  | some i =>
   rw [hf] at h
   cases h
   have := fx_lt _ _ hf
   omega
  | none =>
   rw [hf] at h
   exact cls_lt n h
theorem cl_rng {r : Abs.Rows} {j : Nat} (h : clF r j = 0) : rngP (fI r j 2) (fI r j 3) (fI r j 4) (fI r j 5) := by
 unfold clF at h
 split at h
 ·omega
 ·split at h
  ·omega
  ·split at h
   ·omega
   ·rename_i c; exact Decidable.not_not.1 c
abbrev fT (s : ByteArray) : F := F.lit (Value.string s)
abbrev fN (n : Int) : F := F.lit (Value.int IntKind.i64 n)
def cls (l r : Abs.Rows) (i : Nat) : Option Nat := clsF r (ls (fS l i 2)) (ls (fS l i 2)).length
/-- - -/
structure Good (l r : Abs.Rows) (free : Int) (ins : Abs.Rows) : Prop where
 ll : l.length ≤ 100
 rl : r.length ≤ 200
 il : ins.length ≤ 200
 f0 : 0 ≤ free
 f1 : free ≤ 2592000000
 rc : ∀ i, i < l.length → rcF l i = 0
 cl : ∀ j, j < r.length → clF r j = 0
theorem num_len {s : List UInt8} (h : numB s = true) : s.length ≤ 16 := by
 unfold numB at h
 simp only [Bool.and_eq_true, decide_eq_true_eq] at h
 have := h.2.1.2
 rw [List.length_tail] at this
 omega
theorem rc_num {l : Abs.Rows} {i : Nat} (h : rcF l i = 0) : numB (ls (fS l i 1)) = true ∧ numB (ls (fS l i 2)) = true := by
 unfold rcF at h
 split at h
 ·omega
 ·split at h
  ·omega
  ·rename_i c
   have c : (numB (ls (fS l i 1)) && numB (ls (fS l i 2))) = true := by simpa using c
   rwa [Bool.and_eq_true] at c
theorem fn58 (m : Nat) (hm : 1200 ≤ m) {l r : Abs.Rows} {free : Int} {ins : Abs.Rows} (g : Good l r free ins) {p : Abs.Rows} (hp : payF p = 0) {i : Nat} (hi : i < l.length) (s1 : ByteArray) (a b c d : Int) (s4 : ByteArray) {R : Type}
  (k : ByteArray → ByteArray → ByteArray → Int → Int → Int → Int → Bool → Option R) :
  Fn58 (m + 4) r free ins p s1 (fS l i 1) (fS l i 2) a b c d s4 k = apC r (cls l r i) (fun c1 c2 c3 c4 c5 c6 b => k ((lk (fS l i 1) (flt p p.length 0)).getD eS) c1 c2 c3 c4 c5 c6 (bif (lk (fS l i 1) (flt p p.length 0)).isSome then b else false)) := by
 simp only [Fn58]
 refine Eq.trans (fn76 m (by omega) p hp (fS l i 1) _) ?_
 refine Eq.trans (fn114b (m + 2) r (by have := g.rl; omega) (by omega) (fS l i 2) (by have := num_len (rc_num (g.rc i hi)).2; omega) free ins _) ?_
 cases (lk (fS l i 1) (flt p p.length 0)) <;> rfl
/-! the package prices -/
theorem v82a (m : Nat) {R : Type} (kx0 : Int → Int → Option R) (kx1 : Int → Option R) (r : Abs.Rows) (f : Int) (q : Abs.Rows) (z : Int) (r2 : Abs.Rows) (z2 : Int) : ∀ (n : Nat) (i : Int), Lp82_5v1 m kx0 kx1 r f q z r2 z2 n i = Lp82_5 m kx0 kx1 r f q z r2 z2 n i
 | 0, i => rfl
 | n + 1, i => by
  have h : Lp82_5v1 m kx0 kx1 r f q z r2 z2 n = Lp82_5 m kx0 kx1 r f q z r2 z2 n := funext fun i => v82a m kx0 kx1 r f q z r2 z2 n i
  rw [Lp82_5v1, Lp82_5, h]
  rfl
theorem v82b (m : Nat) {R : Type} (kx0 : Int → Int → Option R) (kx1 : Int → Option R) (r : Abs.Rows) (f : Int) (q : Abs.Rows) (z : Int) (r2 : Abs.Rows) (z2 : Int) : ∀ (n : Nat) (i : Int), Lp82_26v1 m kx0 kx1 r f q z r2 z2 n i = Lp82_26 m kx0 kx1 r f q z r2 z2 n i
 | 0, i => rfl
 | n + 1, i => by
  have h : Lp82_26v1 m kx0 kx1 r f q z r2 z2 n = Lp82_26 m kx0 kx1 r f q z r2 z2 n := funext fun i => v82b m kx0 kx1 r f q z r2 z2 n i
  rw [Lp82_26v1, Lp82_26, h]
  rfl
theorem v82 (m : Nat) {R : Type} (r : Abs.Rows) (f : Int) (q : Abs.Rows) (k : Int → Option R) : Fn82v1 (m + 1) r f q k = Fn82 (m + 1) r f q k := by
 simp only [Fn82v1, Fn82, v82a, v82b]
theorem v112a (m : Nat) {R : Type} (kx0 : Int → Int → Option R) (r : Abs.Rows) (s : ByteArray) (z : Int) : ∀ (n : Nat) (i j : Int), Lp112_3v1 m kx0 r s z n i j = Lp112_3 m kx0 r s z n i j
 | 0, i, j => rfl
 | n + 1, i, j => by
  have h : Lp112_3v1 m kx0 r s z n = Lp112_3 m kx0 r s z n := funext fun i => funext fun j => v112a m kx0 r s z n i j
  rw [Lp112_3v1, Lp112_3, h]
  rfl
theorem v112 (m : Nat) {R : Type} (r : Abs.Rows) (s : ByteArray) (k : Int → Bool → Option R) : Fn112v1 (m + 1) r s k = Fn112 (m + 1) r s k := by
 simp only [Fn112v1, Fn112, v112a]
theorem v57a (m : Nat) {R : Type} (kx0 : ByteArray → ByteArray → Int → Int → Int → Int → Bool → Int → Option R) (kx1 : Int → Option R) (s : ByteArray) (r : Abs.Rows) (f : Int) (q : Abs.Rows) (s1 s2 : ByteArray) (a b c d : Int) (z : Bool) : ∀ (n : Nat) (i : Int), Lp57_2v1 (m + 1) kx0 kx1 s r f q s1 s2 a b c d z n i = Lp57_2 (m + 1) kx0 kx1 s r f q s1 s2 a b c d z n i
 | 0, i => rfl
 | n + 1, i => by
  have h : Lp57_2v1 (m + 1) kx0 kx1 s r f q s1 s2 a b c d z n = Lp57_2 (m + 1) kx0 kx1 s r f q s1 s2 a b c d z n := funext fun i => v57a m kx0 kx1 s r f q s1 s2 a b c d z n i
  rw [Lp57_2v1, Lp57_2, h]
  simp only [Lp57_2v1_step, Lp57_2_step, v112]
theorem v57 (m : Nat) {R : Type} (r : Abs.Rows) (f : Int) (q : Abs.Rows) (s : ByteArray) (k : ByteArray → ByteArray → Int → Int → Int → Int → Bool → Option R) : Fn57v1 (m + 2) r f q s k = Fn57 (m + 2) r f q s k := by
 simp only [Fn57v1, Fn57, v57a]
def rowX : Abs.Rows := [[F.lit (Value.string ⟨#[43, 49]⟩), F.lit (Value.string ⟨#[97]⟩), F.lit (Value.int IntKind.i64 0), F.lit (Value.int IntKind.i64 0), F.lit (Value.int IntKind.i64 1000), F.lit (Value.int IntKind.i64 7)]]
theorem tX : tarF rowX 0 rows0 = 0 := by decide
theorem nX : numB (ls ⟨#[43, 49, 50, 48, 48]⟩) = true := by decide
theorem cX : clsF rowX (ls ⟨#[43, 49, 50, 48, 48]⟩) (ls ⟨#[43, 49, 50, 48, 48]⟩).length = some 0 := by decide
theorem tar_cl {r : Abs.Rows} {f : Int} {q : Abs.Rows} (h : tarF r f q = 0) : ∀ j, j < r.length → clF r j = 0 := by
 unfold tarF at h
 split at h
 ·omega
 ·split at h
  ·rename_i c; exact (c h).elim
  ·rename_i c
   have c : fstE (clF r) r.length 0 = 0 := Decidable.not_not.1 c
   exact fun j hj => fstE_z c j (by omega) (by omega)
theorem fn21 (m : Nat) (hm : 1200 ≤ m) {R : Type} (k : Bool → Option R) : Fn21 (m + 10) k = k true := by
 simp only [Fn21, Fn63]
 refine Eq.trans (v82 (m + 7) rowX 0 rows0 _) ?_
 refine Eq.trans (fn82 (m + 3) (by omega) rowX 0 rows0 _) ?_
 rw [tX, nF rfl]
 refine Eq.trans (fn104b (m + 4) ⟨#[43, 49, 50, 48, 48]⟩ _) ?_
 rw [nX]
 refine Eq.trans (bF rfl) ?_
 refine Eq.trans (fn75 (m + 7) 1500 _ _ _) ?_
 rw [decide_eq_true (by decide)]
 refine Eq.trans (bF rfl) ?_
 refine Eq.trans (v57 (m + 6) rowX 0 rows0 ⟨#[43, 49, 50, 48, 48]⟩ _) ?_
 refine Eq.trans (fn57b (m + 5) rowX (by decide) (by omega) (sort_of (tar_cl tX)) ⟨#[43, 49, 50, 48, 48]⟩ (by decide) 0 rows0 _) ?_
 rw [cX]
 simp only [apC]
 refine Eq.trans (bF rfl) ?_
 refine Eq.trans (fn110 (m + 7) _ _ (cl_rng (tar_cl tX 0 (by decide))) (t := 1500) (by decide) (by decide) _) ?_
 rfl
theorem rec_ok {l : Abs.Rows} (h : recF l = 0) : (∀ i, i < l.length → rcF l i = 0) ∧ ∀ a b, a < b → b < l.length → fS l a 0 ≠ fS l b 0 := by
 unfold recF at h
 split at h
 ·omega
 ·split at h
  ·rename_i c; exact (c h).elim
  ·rename_i c
   have c : fstE (rcF l) l.length 0 = 0 := Decidable.not_not.1 c
   split at h
   ·omega
   ·rename_i c2
    have c2 : twB l l.length 0 [] false = false := by simpa using c2
    exact ⟨fun i hi => fstE_z c i (by omega) (by omega), fun a b hab hb => (tw_once l l.length 0 [] c2).2 a b (by omega) hab (by omega)⟩
theorem fn20 (m : Nat) (x : Abs.Rows) (hx : x.length ≤ 1000) (hm : 1000 < m) {R : Type} (k : Bool → Option R) : Fn20 (m + 1) x x k = k true := by
 have lp : ∀ (d n i : Nat), i + d = x.length → d < n → Lp20_5 m (fun b _ => k b) (fun _ => k true) x x false x.length n i = k true := by
  intro d
  induction d with
  | zero =>
   intro n i h1 h2
   cases n with
   | zero => omega
   | succ n =>
    rw [Lp20_5]
    simp only [Lp20_5_step]
    rw [dF (by omega)]
  | succ d ih =>
   intro n i h1 h2
   cases n with
   | zero => omega
   | succ n =>
    rw [Lp20_5]
    simp only [Lp20_5_step, wP1 (show i ≤ 1000000 by omega), tN]
    rw [dT (by omega), dT (by omega), dT (by omega), nF rfl]
    exact ih n (i + 1) (by omega) (by omega)
 simp only [Fn20]
 rw [nF rfl]
 exact lp x.length m 0 (by omega) (by omega)
end Go.Proofs.YtcoplddcbedeoaaGreatDoor.Med
end
section
set_option linter.unusedVariables false
set_option linter.unusedSimpArgs false
set_option linter.unusedSectionVars false
namespace Go.Proofs.YtcoplddcbedeoaaGreatDoor.Med
open Go Go.Abs Go.Proofs
set_option linter.unusedVariables false
set_option linter.unusedSimpArgs false
/-! watches -/
theorem lp64 (m : Nat) (q P : Abs.Rows) (hP : P.length ≤ 100) : ∀ (d n i : Nat) (r : Abs.Rows) (t : Int), i + d = P.length → d < n → 0 ≤ t → t + 6 * d ≤ 100000 → r.length + d ≤ 1000 →
  ∃ (r' : Abs.Rows) (t' : Int), r'.length ≤ r.length + d ∧ t ≤ t' ∧ t' ≤ t + 6 * d ∧ ∀ (R : Type) (k : Abs.Rows → Int → Int → Option R), Lp64_3 (m + 3) k P P.length q n r i t = k r' P.length t'
 | _, 0, _, _, _, _, h, _, _, _ => by omega
 | 0, n + 1, i, r, t, h1, h2, h3, h4, h5 => by
  refine ⟨r, t, by omega, by omega, by omega, fun R k => ?_⟩
  rw [Lp64_3]
  simp only [Lp64_3_step]
  rw [dF (by omega), show i = P.length by omega]
 | d + 1, n + 1, i, r, t, h1, h2, h3, h4, h5 => by
  have hi : i ≤ 1000000 := by omega
  by_cases c0 : nx q t % 2 = 0
  ·have key : ∃ x : List F, ∀ (R : Type) (k : Abs.Rows → Int → Int → Option R), Lp64_3 (m + 3) k P P.length q (n + 1) r i t = Lp64_3 (m + 3) k P P.length q n (r ++ [x]) ((i + 1 : Nat) : Int) (t + 1 + 1 + 1 + 1 + 1) := ⟨_, fun R k => by
    rw [Lp64_3]
    simp only [Lp64_3_step, wP1 hi, tN]
    rw [dT (by omega), dT (by omega), gn44 m q h3 (by omega) (by omega) (by omega), eT c0]
    rw [gn9 m q _ (by omega) (by omega) (by simp) (by simp), gn9 m q _ (by omega) (by omega) (by simp) (by simp), gn9 m q _ (by omega) (by omega) (by simp) (by simp), gn9 m q _ (by omega) (by omega) (by simp) (by simp), dT (by simp [rM]; omega)]
    rfl⟩
   obtain ⟨x, hx⟩ := key
   obtain ⟨r', t', k1, k2, k3, k4⟩ := lp64 m q P hP d n (i + 1) (r ++ [x]) (t + 1 + 1 + 1 + 1 + 1) (by omega) (by omega) (by omega) (by omega) (by simp; omega)
   refine ⟨r', t', by simp at k1; omega, by omega, by omega, fun R k => ?_⟩
   rw [hx]
   exact k4 R k
  ·obtain ⟨r', t', k1, k2, k3, k4⟩ := lp64 m q P hP d n (i + 1) r (t + 1) (by omega) (by omega) (by omega) (by omega) (by omega)
   refine ⟨r', t', by omega, by omega, by omega, fun R k => ?_⟩
   rw [Lp64_3]
   simp only [Lp64_3_step, wP1 hi, tN]
   rw [dT (by omega), dT (by omega), gn44 m q h3 (by omega) (by omega) (by omega), eF c0]
   exact k4 R k
theorem fn22 (m : Nat) (hm : 20 ≤ m) (q : Abs.Rows) {t : Int} (h0 : 0 ≤ t) (h1 : t ≤ 10000) :
  ∃ (r : Abs.Rows) (t' : Int), r.length ≤ 6 ∧ t ≤ t' ∧ t' ≤ t + 60 ∧ ∀ (R : Type) (k : Abs.Rows → Int → Option R), Fn22 (m + 5) q t k = k r t' := by
 obtain ⟨r, t1, e1, e2, e3, e4⟩ := lp64 m q [[F.lit (Value.string ⟨#[]⟩)], [F.lit (Value.string ⟨#[102, 97, 114]⟩)], [F.lit (Value.string ⟨#[104, 111, 109, 101]⟩)], [F.lit (Value.string ⟨#[110, 101, 97, 114]⟩)]] (by simp) 4 (m + 3) 0 rows0 t (by simp) (by omega) h0 (by omega) (by simp [rows0])
 simp only [rows0, List.length_nil] at e1
 have e64 : ∀ (R : Type) (k : Abs.Rows → Int → Option R), Fn64 (m + 4) q t k = k r t1 := fun R k => by
  simp only [Fn64]
  exact e4 R _
 by_cases c : nx q t1 % 12 = 0
 ·obtain ⟨v1, i1, g1, g2, g3⟩ := gn65 m q (i := t1 + 1 + 1) (lo := 1) (hi := 100) (by omega) (by omega) (by omega) (by omega) (by omega)
  obtain ⟨v2, i2, g4, g5, g6⟩ := gn65 m q (i := i1) (lo := 0) (hi := 10) (by omega) (by omega) (by omega) (by omega) (by omega)
  obtain ⟨v3, i3, g7, g8, g9⟩ := gn65 m q (i := i2) (lo := 0) (hi := 10) (by omega) (by omega) (by omega) (by omega) (by omega)
  obtain ⟨v4, i4, g10, g11, g12⟩ := gn65 m q (i := i3) (lo := 1) (hi := 10) (by omega) (by omega) (by omega) (by omega) (by omega)
  have key : ∃ x : List F, ∀ (R : Type) (k : Abs.Rows → Int → Option R), Fn22 (m + 5) q t k = k (r ++ [x]) i4 := ⟨_, fun R k => by
   simp only [Fn22]
   rw [e64, gn44 (m + 1) q (by omega) (by omega) (by omega) (by omega), eT c, gn32 (m + 1) q _ (by omega) (by omega) (by simp) (by simp), g3, g6, g9, g12, dT (by simp [rM]; omega)]
   rfl⟩
  obtain ⟨x, hx⟩ := key
  exact ⟨r ++ [x], i4, by simp; omega, by omega, by omega, hx⟩
 ·refine ⟨r, t1 + 1, by omega, by omega, by omega, fun R k => ?_⟩
  simp only [Fn22]
  rw [e64, gn44 (m + 1) q (by omega) (by omega) (by omega) (by omega), eF c]
def wrP (a b c d : Int) : Prop := (1 ≤ a ∧ a ≤ 2592000000) ∧ (1 ≤ d ∧ d ≤ 2592000000) ∧ (0 ≤ b ∧ b ≤ 3000) ∧ (0 ≤ c ∧ c ≤ 1000000000000)
instance (a b c d : Int) : Decidable (wrP a b c d) := by unfold wrP; infer_instance
def wF (w : Abs.Rows) (i : Nat) : Int := if carB (fS w i 0) = false then 5 else if ¬ wrP (fI w i 1) (fI w i 2) (fI w i 3) (fI w i 4) then 1 else if 0 < i ∧ Op.bytesLess (fS w i 0).toList (fS w (i - 1) 0).toList = true then 7 else 0
def wfT (w : Abs.Rows) : Int := if 50 < w.length then 2 else fstE (wF w) w.length 0
section
variable {R : Type} (K : Int → Option R) (Z : Option R)
theorem jn29 (m : Nat) (w : Abs.Rows) (z : Int) (i : Nat) (hi : i < w.length) (hl : w.length ≤ 1000) (a1 a2 a3 a4 : Int) (r2 : Abs.Rows) (z1 z2 : Int) (b : Bool) :
  Jn29_11 m (fun e _ => K e) (fun _ => Z) w z i (fS w i 0) a1 a2 a3 a4 r2 z1 z2 b = if b = true then K 1 else if 0 < i ∧ Op.bytesLess (fS w i 0).toList (fS w (i - 1) 0).toList = true then K 7 else Z := by
 simp only [Jn29_11]
 cases b with
 | true => rfl
 | false =>
  refine Eq.trans (bF rfl) ?_
  rw [if_neg (by decide)]
  by_cases h : 0 < i
  ·rw [dT (by omega), wM1 h (by omega), dT (by omega), tN]
   cases ho : Op.bytesLess (fS w i 0).toList (fS w (i - 1) 0).toList with
   | true => rw [if_pos ⟨h, rfl⟩]; rfl
   | false => rw [if_neg (by simp)]; rfl
  ·rw [dF (by omega), if_neg (by omega)]
theorem jn27 (m : Nat) (w : Abs.Rows) (z : Int) (i : Nat) (hi : i < w.length) (hl : w.length ≤ 1000) (a1 a2 a3 a4 : Int) (r2 : Abs.Rows) (z1 z2 : Int) (b : Bool) :
  Jn27_11 m (fun e _ => K e) (fun _ => Z) w z i (fS w i 0) a1 a2 a3 a4 r2 z1 z2 b = if b = true then K 1 else if 0 < i ∧ Op.bytesLess (fS w i 0).toList (fS w (i - 1) 0).toList = true then K 7 else Z := by
 simp only [Jn27_11]
 cases b with
 | true => rfl
 | false =>
  refine Eq.trans (bF rfl) ?_
  rw [if_neg (by decide)]
  by_cases h : 0 < i
  ·rw [dT (by omega), wM1 h (by omega), dT (by omega), tN]
   cases ho : Op.bytesLess (fS w i 0).toList (fS w (i - 1) 0).toList with
   | true => rw [if_pos ⟨h, rfl⟩]; rfl
   | false => rw [if_neg (by simp)]; rfl
  ·rw [dF (by omega), if_neg (by omega)]
theorem w_fin {w : Abs.Rows} {i : Nat} (h : carB (fS w i 0) = true) : (if ¬ wrP (fI w i 1) (fI w i 2) (fI w i 3) (fI w i 4) then K 1 else if 0 < i ∧ Op.bytesLess (fS w i 0).toList (fS w (i - 1) 0).toList = true then K 7 else Z) = goK K Z (wF w i) := by
 unfold wF goK
 rw [if_neg (show ¬ carB (fS w i 0) = false by rw [h]; decide)]
 by_cases h1 : wrP (fI w i 1) (fI w i 2) (fI w i 3) (fI w i 4)
 ·rw [if_neg (not_not_intro h1), if_neg (not_not_intro h1)]
  by_cases h2 : 0 < i ∧ Op.bytesLess (fS w i 0).toList (fS w (i - 1) 0).toList = true
  ·rw [if_pos h2, if_pos h2]; rfl
  ·rw [if_neg h2, if_neg h2]; rfl
 ·rw [if_pos h1, if_pos h1]; rfl
theorem jn29b (m : Nat) (w : Abs.Rows) (z : Int) (i : Nat) (hi : i < w.length) (hl : w.length ≤ 1000) (r2 : Abs.Rows) (z1 z2 : Int) (b : Bool) (hb : b = !carB (fS w i 0)) :
  Jn29_9 (m + 2) (fun e _ => K e) (fun e => K e) Z w z i (fS w i 0) (fI w i 1) (fI w i 2) (fI w i 3) (fI w i 4) r2 z1 z2 b = goK K Z (wF w i) := by
 simp only [Jn29_9]
 cases hc : carB (fS w i 0) with
 | false =>
  rw [hb, hc]
  show K 5 = _
  unfold goK wF
  rw [if_pos hc]; rfl
 | true =>
  rw [hb, hc, ← w_fin K Z hc]
  refine Eq.trans (bF rfl) ?_
  have hj := fun (b : Bool) => jn29 K Z (m + 2) w z i hi hl (fI w i 1) (fI w i 2) (fI w i 3) (fI w i 4) r2 z1 z2 b
  refine Eq.trans (fn75 (m + 1) _ _ _ _) ?_
  by_cases p1 : 1 ≤ fI w i 1 ∧ fI w i 1 ≤ 2592000000
  ·rw [decide_eq_true p1]
   refine Eq.trans (bF rfl) ?_
   refine Eq.trans (fn75 (m + 1) _ _ _ _) ?_
   by_cases p2 : 1 ≤ fI w i 4 ∧ fI w i 4 ≤ 2592000000
   ·rw [decide_eq_true p2]
    refine Eq.trans (bF rfl) ?_
    refine Eq.trans (fn75 (m + 1) _ _ _ _) ?_
    by_cases p3 : 0 ≤ fI w i 2 ∧ fI w i 2 ≤ 3000
    ·rw [decide_eq_true p3]
     refine Eq.trans (bF rfl) ?_
     refine Eq.trans (fn75 (m + 1) _ _ _ _) ?_
     refine Eq.trans (hj _) ?_
     by_cases p4 : 0 ≤ fI w i 3 ∧ fI w i 3 ≤ 1000000000000
     ·rw [decide_eq_true p4, if_neg (by decide), if_neg (not_not_intro (show wrP (fI w i 1) (fI w i 2) (fI w i 3) (fI w i 4) from ⟨p1, p2, p3, p4⟩))]
     ·rw [decide_eq_false p4, if_pos (show (!false) = true from rfl), if_pos (fun h : wrP (fI w i 1) (fI w i 2) (fI w i 3) (fI w i 4) => p4 h.2.2.2)]
    ·rw [decide_eq_false p3, if_pos (fun h : wrP (fI w i 1) (fI w i 2) (fI w i 3) (fI w i 4) => p3 h.2.2.1)]
     exact (bT rfl).trans ((hj true).trans (if_pos rfl))
   ·rw [decide_eq_false p2, if_pos (fun h : wrP (fI w i 1) (fI w i 2) (fI w i 3) (fI w i 4) => p2 h.2.1)]
    exact (bT rfl).trans ((hj true).trans (if_pos rfl))
  ·rw [decide_eq_false p1, if_pos (fun h : wrP (fI w i 1) (fI w i 2) (fI w i 3) (fI w i 4) => p1 h.1)]
   exact (bT rfl).trans ((hj true).trans (if_pos rfl))
theorem jn27b (m : Nat) (w : Abs.Rows) (z : Int) (i : Nat) (hi : i < w.length) (hl : w.length ≤ 1000) (r2 : Abs.Rows) (z1 z2 : Int) (b : Bool) (hb : b = !carB (fS w i 0)) :
  Jn27_9 (m + 2) (fun e _ => K e) (fun e => K e) Z w z i (fS w i 0) (fI w i 1) (fI w i 2) (fI w i 3) (fI w i 4) r2 z1 z2 b = goK K Z (wF w i) := by
 simp only [Jn27_9]
 cases hc : carB (fS w i 0) with
 | false =>
  rw [hb, hc]
  show K 5 = _
  unfold goK wF
  rw [if_pos hc]; rfl
 | true =>
  rw [hb, hc, ← w_fin K Z hc]
  refine Eq.trans (bF rfl) ?_
  have hj := fun (b : Bool) => jn27 K Z (m + 2) w z i hi hl (fI w i 1) (fI w i 2) (fI w i 3) (fI w i 4) r2 z1 z2 b
  refine Eq.trans (fn70 (m + 1) _ _ _ _) ?_
  by_cases p1 : 1 ≤ fI w i 1 ∧ fI w i 1 ≤ 2592000000
  ·rw [decide_eq_true p1]
   refine Eq.trans (bF rfl) ?_
   refine Eq.trans (fn70 (m + 1) _ _ _ _) ?_
   by_cases p2 : 1 ≤ fI w i 4 ∧ fI w i 4 ≤ 2592000000
   ·rw [decide_eq_true p2]
    refine Eq.trans (bF rfl) ?_
    refine Eq.trans (fn70 (m + 1) _ _ _ _) ?_
    by_cases p3 : 0 ≤ fI w i 2 ∧ fI w i 2 ≤ 3000
    ·rw [decide_eq_true p3]
     refine Eq.trans (bF rfl) ?_
     refine Eq.trans (fn70 (m + 1) _ _ _ _) ?_
     refine Eq.trans (hj _) ?_
     by_cases p4 : 0 ≤ fI w i 3 ∧ fI w i 3 ≤ 1000000000000
     ·rw [decide_eq_true p4, if_neg (by decide), if_neg (not_not_intro (show wrP (fI w i 1) (fI w i 2) (fI w i 3) (fI w i 4) from ⟨p1, p2, p3, p4⟩))]
     ·rw [decide_eq_false p4, if_pos (show (!false) = true from rfl), if_pos (fun h : wrP (fI w i 1) (fI w i 2) (fI w i 3) (fI w i 4) => p4 h.2.2.2)]
    ·rw [decide_eq_false p3, if_pos (fun h : wrP (fI w i 1) (fI w i 2) (fI w i 3) (fI w i 4) => p3 h.2.2.1)]
     exact (bT rfl).trans ((hj true).trans (if_pos rfl))
   ·rw [decide_eq_false p2, if_pos (fun h : wrP (fI w i 1) (fI w i 2) (fI w i 3) (fI w i 4) => p2 h.2.1)]
    exact (bT rfl).trans ((hj true).trans (if_pos rfl))
  ·rw [decide_eq_false p1, if_pos (fun h : wrP (fI w i 1) (fI w i 2) (fI w i 3) (fI w i 4) => p1 h.1)]
   exact (bT rfl).trans ((hj true).trans (if_pos rfl))
end
theorem lp29 (m : Nat) (w : Abs.Rows) (hl : w.length ≤ 1000) (z : Int) {R : Type} (K : Int → Option R) (kx1 : Int → Option R) : ∀ (d n i : Nat), i + d = w.length → d < n →
  Lp29_5 (m + 4) (fun e _ => K e) kx1 w z w w.length n i = if fstE (wF w) d i = 0 then kx1 w.length else K (fstE (wF w) d i)
 | _, 0, _, _, h => by omega
 | 0, n + 1, i, h1, h2 => by
  rw [Lp29_5]
  simp only [Lp29_5_step]
  rw [dF (by omega), show i = w.length by omega]
  rfl
 | d + 1, n + 1, i, h1, h2 => by
  rw [Lp29_5]
  simp only [Lp29_5_step, wP1 (show i ≤ 1000000 by omega), tN]
  rw [dT (by omega), dT (by omega), fstE_step, ← lp29 m w hl z K kx1 d n (i + 1) (by omega) (by omega), notnil]
  have hj := fun b hb => jn29b K (Lp29_5 (m + 4) (fun e _ => K e) kx1 w z w w.length n ((i + 1 : Nat) : Int)) (m + 2) w z i (by omega) hl w w.length i b hb
  by_cases h3 : ls (fS w i 0) = []
  ·rw [decide_eq_true h3]
   exact hj false (by unfold carB; rw [decide_eq_true h3]; rfl)
  ·rw [decide_eq_false h3]
   refine Eq.trans (bT rfl) ?_
   refine Eq.trans (fn74b (m + 3) _ _) ?_
   exact hj _ (by unfold carB; rw [decide_eq_false h3]; rfl)
theorem lp27 (m : Nat) (hm : 200 ≤ m) (w : Abs.Rows) (hl : w.length ≤ 1000) (z : Int) {R : Type} (K : Int → Option R) (kx1 : Int → Option R) : ∀ (d n i : Nat), i + d = w.length → d < n →
  Lp27_5 (m + 4) (fun e _ => K e) kx1 w z w w.length n i = if fstE (wF w) d i = 0 then kx1 w.length else K (fstE (wF w) d i)
 | _, 0, _, _, h => by omega
 | 0, n + 1, i, h1, h2 => by
  rw [Lp27_5]
  simp only [Lp27_5_step]
  rw [dF (by omega), show i = w.length by omega]
  rfl
 | d + 1, n + 1, i, h1, h2 => by
  rw [Lp27_5]
  simp only [Lp27_5_step, wP1 (show i ≤ 1000000 by omega), tN]
  rw [dT (by omega), dT (by omega), fstE_step, ← lp27 m hm w hl z K kx1 d n (i + 1) (by omega) (by omega), notnil]
  have hj := fun b hb => jn27b K (Lp27_5 (m + 4) (fun e _ => K e) kx1 w z w w.length n ((i + 1 : Nat) : Int)) (m + 2) w z i (by omega) hl w w.length i b hb
  by_cases h3 : ls (fS w i 0) = []
  ·rw [decide_eq_true h3]
   exact hj false (by unfold carB; rw [decide_eq_true h3]; rfl)
  ·rw [decide_eq_false h3]
   refine Eq.trans (bT rfl) ?_
   refine Eq.trans (fn34b m (by omega) _ _) ?_
   exact hj _ (by unfold carB; rw [decide_eq_false h3]; rfl)
theorem fn29w (m : Nat) (hm : 300 ≤ m) (w : Abs.Rows) {R : Type} (k : Int → Option R) : Fn29 (m + 5) w k = k (wfT w) := by
 simp only [Fn29]
 unfold wfT
 by_cases h1 : 50 < w.length
 ·rw [dT (by omega), if_pos h1]
 ·rw [dF (by omega), if_neg h1]
  refine Eq.trans (lp29 m w (by omega) 0 k _ w.length (m + 4) 0 (by omega) (by omega)) ?_
  by_cases h5 : fstE (wF w) w.length 0 = 0
  ·rw [if_pos h5, h5]
  ·rw [if_neg h5]
theorem fn27w (m : Nat) (hm : 300 ≤ m) (w : Abs.Rows) {R : Type} (k : Int → Option R) : Fn27 (m + 5) w k = k (wfT w) := by
 simp only [Fn27]
 unfold wfT
 by_cases h1 : 50 < w.length
 ·rw [dT (by omega), if_pos h1]
 ·rw [dF (by omega), if_neg h1]
  refine Eq.trans (lp27 m (by omega) w (by omega) 0 k _ w.length (m + 4) 0 (by omega) (by omega)) ?_
  by_cases h5 : fstE (wF w) w.length 0 = 0
  ·rw [if_pos h5, h5]
  ·rw [if_neg h5]
end Go.Proofs.YtcoplddcbedeoaaGreatDoor.Med
end
section
set_option linter.unusedVariables false
set_option linter.unusedSimpArgs false
set_option linter.unusedSectionVars false
namespace Go.Proofs.YtcoplddcbedeoaaGreatDoor.Med
open Go Go.Abs Go.Proofs
set_option linter.unusedVariables false
set_option linter.unusedSimpArgs false
/-! who is blocked -/
def hitB (B : Abs.Rows) (o : ByteArray) (t : Int) (i : Nat) : Bool := decide (fS B i 0 = o ∧ fI B i 2 ≤ t ∧ t < fI B i 3)
def blF (B : Abs.Rows) (o : ByteArray) (t : Int) : Nat → Nat → Bool
 | 0, _ => false
 | d + 1, i => hitB B o t i || blF B o t d (i + 1)
theorem fn120 (m : Nat) (s : ByteArray) (a b c : Int) (t : ByteArray) (x : Int) {R : Type} (k : Bool → Option R) : Fn120 (m + 1) s a b c t x k = k (decide (s = t ∧ b ≤ x ∧ x < c)) := by
 simp only [Fn120, Lib.toList_data]
 by_cases h1 : s = t
 ·rw [lT (by rw [h1])]
  by_cases h2 : b ≤ x
  ·rw [dT h2]; congr 1; rw [decide_eq_decide]; simp [h1, h2]
  ·rw [dF h2, decide_eq_false (fun h => h2 h.2.1)]
 ·rw [lF (fun e => h1 (ByteArray.ext (by simpa using e))), decide_eq_false (fun h => h1 h.1)]
theorem lp121 (m : Nat) (B : Abs.Rows) (hB : B.length ≤ 100000) (o : ByteArray) (t z : Int) {R : Type} (k : Bool → Option R) : ∀ (d n i : Nat), i + d = B.length → d < n →
  Lp121_2 (m + 1) (fun i _ => k (decide (i ≥ 0))) (fun _ => k (decide ((-1 : Int) ≥ 0))) B o t z B.length n i = k (blF B o t d i)
 | _, 0, _, _, h => by omega
 | 0, n + 1, i, h1, h2 => by
  rw [Lp121_2]
  simp only [Lp121_2_step]
  rw [dF (by omega)]
  rfl
 | d + 1, n + 1, i, h1, h2 => by
  rw [Lp121_2]
  simp only [Lp121_2_step, wP1 (show i ≤ 1000000 by omega), tN]
  rw [dT (by omega), dT (by omega)]
  refine Eq.trans (fn120 m _ _ _ _ _ _ _) ?_
  show (bif hitB B o t i then _ else _) = _
  rw [blF]
  cases hitB B o t i with
  | true =>
   refine Eq.trans (bT rfl) ?_
   rw [decide_eq_true (show (i : Int) ≥ 0 by omega)]; rfl
  | false =>
   refine Eq.trans (bF rfl) ?_
   rw [lp121 m B hB o t z k d n (i + 1) (by omega) (by omega)]; rfl
theorem fn78 (m : Nat) (hm : 4000 ≤ m) (B : Abs.Rows) (hB : B.length ≤ 3500) (o : ByteArray) (t : Int) {R : Type} (k : Bool → Option R) : Fn78 (m + 4) B o t k = k (blF B o t B.length 0) := by
 simp only [Fn78, Fn79, Fn121]
 exact lp121 m B (by omega) o t 0 k B.length (m + 1) 0 (by omega) (by omega)
theorem v121 (m : Nat) {R : Type} (kx0 : Int → Int → Option R) (kx1 : Int → Option R) (B : Abs.Rows) (o : ByteArray) (t z z2 : Int) : ∀ (n : Nat) (i : Int), Lp121_2v1 m kx0 kx1 B o t z z2 n i = Lp121_2 m kx0 kx1 B o t z z2 n i
 | 0, i => rfl
 | n + 1, i => by
  have h : Lp121_2v1 m kx0 kx1 B o t z z2 n = Lp121_2 m kx0 kx1 B o t z z2 n := funext fun i => v121 m kx0 kx1 B o t z z2 n i
  rw [Lp121_2v1, Lp121_2, h]
  rfl
theorem fn36B (m : Nat) (hm : 4000 ≤ m) (B : Abs.Rows) (hB : B.length ≤ 3500) (o : ByteArray) (t : Int) {R : Type} (k : Bool → Option R) : Fn36 (m + 4) B o t k = k (blF B o t B.length 0) := by
 simp only [Fn36, Fn79v1, Fn121v1, v121]
 exact lp121 m B (by omega) o t 0 k B.length (m + 1) 0 (by omega) (by omega)
/-! what counts -/
structure CE where
 i : Nat
 o : ByteArray
 j : Nat
def pri (l r : Abs.Rows) (i j : Nat) : Int := prc (fI r j 2) (fI r j 3) (fI r j 4) (fI r j 5) (fI l i 5)
def rowC (l r : Abs.Rows) (e : CE) : List F := [fT e.o, fT (fS r e.j 1), fN (fI l e.i 3), fN (pri l r e.i e.j)]
def rowD (e : CE) : List F := [fN e.i]
theorem rowAt_map {α : Type} (f : α → List F) (E : List α) (i : Nat) (h : i < E.length) : Abs.rowAt (E.map f) i = f (E[i]) := by
 simp [Abs.rowAt, List.getD_eq_getElem?_getD, h]
section
variable {l r : Abs.Rows} {E : List CE} {i : Nat}
theorem cS0 (h : i < E.length) : fS (E.map (rowC l r)) i 0 = (E[i]).o := by unfold fS; rw [rowAt_map _ _ _ h]; rfl
theorem cS1 (h : i < E.length) : fS (E.map (rowC l r)) i 1 = fS r (E[i]).j 1 := by unfold fS; rw [rowAt_map _ _ _ h]; rfl
theorem cI2 (h : i < E.length) : fI (E.map (rowC l r)) i 2 = fI l (E[i]).i 3 := by unfold fI; rw [rowAt_map _ _ _ h]; rfl
theorem cI3 (h : i < E.length) : fI (E.map (rowC l r)) i 3 = pri l r (E[i]).i (E[i]).j := by unfold fI; rw [rowAt_map _ _ _ h]; rfl
theorem dI0 (h : i < E.length) : fI (E.map rowD) i 0 = ((E[i]).i : Int) := by unfold fI; rw [rowAt_map _ _ _ h]; rfl
end
def cnd (l r : Abs.Rows) (wc : ByteArray) (win t : Int) (o : ByteArray) (e : CE) : Prop := e.o = o ∧ (ls wc = [] ∨ fS r e.j 1 = wc) ∧ fI l e.i 3 > IntKind.wrap .i64 (t - win)
instance (l r : Abs.Rows) (wc : ByteArray) (win t : Int) (o : ByteArray) (e : CE) : Decidable (cnd l r wc win t o e) := by unfold cnd; infer_instance
def smW (l r : Abs.Rows) (wc : ByteArray) (win t : Int) (o : ByteArray) : List CE → Int → Int → Int × Int
 | [], c, s => (c, s)
 | e :: E, c, s => if cnd l r wc win t o e then smW l r wc win t o E (IntKind.wrap .i64 (c + 1)) (IntKind.wrap .i64 (s + pri l r e.i e.j)) else smW l r wc win t o E c s
theorem drop_c (E : List CE) {i : Nat} (h : i < E.length) : E.drop i = E[i] :: E.drop (i + 1) := List.drop_eq_getElem_cons h
theorem eqnil (s : ByteArray) : (s.toList == ({ data := #[] } : ByteArray).toList) = decide (ls s = []) := by
 rw [show ({ data := #[] } : ByteArray).toList = [] from bs_toList [], Lib.toList_data, Bool.eq_iff_iff]; simp
theorem eqba (s t : ByteArray) : (s.toList == t.toList) = decide (s = t) := by
 rw [Lib.toList_data, Lib.toList_data, Bool.eq_iff_iff]
 simp only [beq_iff_eq, decide_eq_true_eq]
 exact ⟨fun e => ByteArray.ext (by simpa using e), fun e => by rw [e]⟩
theorem lp116i (m : Nat) (l r : Abs.Rows) (C : List CE) (hC : C.length ≤ 1000) (o cn : ByteArray) (t co k : Int) (wc : ByteArray) (win a b c : Int) (w : Abs.Rows) (z1 z2 : Int) (w2 B : Abs.Rows) {R : Type} (K : Int → Int → Option R) : ∀ (d n i : Nat) (x s : Int), i + d = C.length → d < n →
  Lp116_11 m (fun x s _ => K x s) o cn t co k wc win a b c w z1 z2 C.length C.length w2 (C.map (rowC l r)) B n x s i = K (smW l r wc win t o (C.drop i) x s).1 (smW l r wc win t o (C.drop i) x s).2
 | _, 0, _, _, _, _, h => by omega
 | 0, n + 1, i, x, s, h1, h2 => by
  rw [Lp116_11]
  simp only [Lp116_11_step]
  rw [dF (by omega), List.drop_of_length_le (by omega)]
  rfl
 | d + 1, n + 1, i, x, s, h1, h2 => by
  have hi : i < C.length := by omega
  have ih := fun x s => lp116i m l r C hC o cn t co k wc win a b c w z1 z2 w2 B K d n (i + 1) x s (by omega) (by omega)
  rw [Lp116_11]
  simp only [Lp116_11_step, wP1 (show i ≤ 1000000 by omega), tN, Jn116_15, eqba]
  rw [dT (by omega), dT (by omega), cS0 hi, cS1 hi, cI2 hi, cI3 hi, drop_c C hi, smW]
  have e0 : decide (wc = { data := #[] }) = decide (ls wc = []) := by rw [← eqba, eqnil]
  rw [e0]
  by_cases c1 : (C[i]).o = o
  ·rw [dT c1]
   by_cases c2 : ls wc = []
   ·rw [dT c2]
    by_cases c3 : fI l (C[i]).i 3 > IntKind.wrap .i64 (t - win)
    ·rw [dT c3, if_pos ⟨c1, .inl c2, c3⟩]; exact ih _ _
    ·rw [dF c3, if_neg (fun h => c3 h.2.2)]; exact ih _ _
   ·rw [dF c2]
    by_cases c4 : fS r (C[i]).j 1 = wc
    ·rw [dT c4]
     by_cases c3 : fI l (C[i]).i 3 > IntKind.wrap .i64 (t - win)
     ·rw [dT c3, if_pos ⟨c1, .inr c4, c3⟩]; exact ih _ _
     ·rw [dF c3, if_neg (fun h => c3 h.2.2)]; exact ih _ _
    ·rw [dF c4, if_neg (fun h => h.2.1.elim c2 c4)]; exact ih _ _
  ·rw [dF c1, if_neg (fun h => c1 h.1)]; exact ih _ _
def over (l r w : Abs.Rows) (C : List CE) (o : ByteArray) (t : Int) (k : Nat) : Prop := (smW l r (fS w k 0) (fI w k 1) t o C 0 0).1 > fI w k 2 ∨ (smW l r (fS w k 0) (fI w k 1) t o C 0 0).2 > IntKind.wrap .i64 (1000 * fI w k 3)
instance (l r w : Abs.Rows) (C : List CE) (o : ByteArray) (t : Int) (k : Nat) : Decidable (over l r w C o t k) := by unfold over; infer_instance
def rowB (w : Abs.Rows) (o : ByteArray) (t : Int) (k : Nat) : List F := [fT o, fN k, fN (IntKind.wrap .i64 (t + 1)), fN (IntKind.wrap .i64 (IntKind.wrap .i64 (t + 1) + fI w k 4))]
def wtF (l r w : Abs.Rows) (C : List CE) (o cn : ByteArray) (t : Int) (B : Abs.Rows) : Nat → Nat → Abs.Rows
 | 0, _ => B
 | d + 1, k => if ls (fS w k 0) ≠ [] ∧ fS w k 0 ≠ cn then wtF l r w C o cn t B d (k + 1) else if over l r w C o t k then B ++ [rowB w o t k] else wtF l r w C o cn t B d (k + 1)
theorem jn116_8 (m : Nat) (hm : 1100 ≤ m) (l r : Abs.Rows) (C : List CE) (hC : C.length ≤ 1000) (o cn : ByteArray) (t co : Int) (w : Abs.Rows) (k : Nat) (z1 z2 : Int) (w0 w2 B : Abs.Rows) (hB : B.length ≤ 1000) {R : Type} (K : Abs.Rows → Option R) (Z : Option R) :
  Jn116_8 m K Z o cn t co k (fS w k 0) (fI w k 1) (fI w k 2) (fI w k 3) (fI w k 4) w0 z1 z2 w2 (C.map (rowC l r)) B = if over l r w C o t k then K (B ++ [rowB w o t k]) else Z := by
 simp only [Jn116_8, List.length_map]
 refine Eq.trans (lp116i m l r C hC o cn t co k (fS w k 0) (fI w k 1) _ _ _ w0 z1 z2 w2 B _ C.length m 0 0 0 (by omega) (by omega)) ?_
 rw [List.drop_zero]
 simp only [Jn116_18]
 have hr : B.length + List.length [[F.lit (Value.string o), F.lit (Value.int IntKind.i64 (k : Int)), F.lit (Value.int IntKind.i64 (IntKind.wrap IntKind.i64 (t + 1))), F.lit (Value.int IntKind.i64 (IntKind.wrap IntKind.i64 (IntKind.wrap IntKind.i64 (t + 1) + fI w k 4)))]] ≤ rowMax := by simp [rM]; omega
 by_cases h1 : (smW l r (fS w k 0) (fI w k 1) t o C 0 0).1 > fI w k 2
 ·rw [dT h1, if_pos (show over l r w C o t k from Or.inl h1)]
  refine Eq.trans (bT rfl) ?_
  rw [dT hr]; rfl
 ·rw [dF h1]
  by_cases h2 : (smW l r (fS w k 0) (fI w k 1) t o C 0 0).2 > IntKind.wrap .i64 (1000 * fI w k 3)
  ·rw [dT h2, if_pos (show over l r w C o t k from Or.inr h2)]
   rw [dT hr]; rfl
  ·rw [dF h2, if_neg (show ¬ over l r w C o t k from fun h => Or.elim h h1 h2)]
theorem lp116 (m : Nat) (hm : 1100 ≤ m) (l r : Abs.Rows) (C : List CE) (hC : C.length ≤ 1000) (o cn : ByteArray) (t co : Int) (w : Abs.Rows) (hw : w.length ≤ 1000) (w2 B : Abs.Rows) (hB : B.length ≤ 1000) {R : Type} (K : Abs.Rows → Option R) : ∀ (d n k : Nat), k + d = w.length → d < n →
  Lp116_3 m (fun _ x => K x) (fun _ => K B) o cn t co w w.length w2 (C.map (rowC l r)) B n k = K (wtF l r w C o cn t B d k)
 | _, 0, _, _, h => by omega
 | 0, n + 1, k, h1, h2 => by
  rw [Lp116_3]
  simp only [Lp116_3_step]
  rw [dF (by omega)]
  rfl
 | d + 1, n + 1, k, h1, h2 => by
  have ih := lp116 m hm l r C hC o cn t co w hw w2 B hB K d n (k + 1) (by omega) (by omega)
  have hj := jn116_8 m hm l r C hC o cn t co w k w.length k w w2 B hB K (Lp116_3 m (fun _ x => K x) (fun _ => K B) o cn t co w w.length w2 (C.map (rowC l r)) B n ((k + 1 : Nat) : Int))
  rw [Lp116_3]
  simp only [Lp116_3_step, wP1 (show k ≤ 1000000 by omega), tN, eqba]
  have e0 : decide (fS w k 0 = { data := #[] }) = decide (ls (fS w k 0) = []) := by rw [← eqba, eqnil]
  rw [dT (by omega), dT (by omega), wtF, e0]
  by_cases c1 : ls (fS w k 0) = []
  ·rw [decide_eq_true c1, if_neg (fun h => h.1 c1)]
   refine Eq.trans (bF rfl) ?_
   refine Eq.trans hj ?_
   split
   ·rfl
   ·exact ih
  ·rw [decide_eq_false c1]
   refine Eq.trans (bT rfl) ?_
   by_cases c2 : fS w k 0 = cn
   ·rw [decide_eq_true c2, if_neg (fun h => h.2 c2)]
    refine Eq.trans (bF rfl) ?_
    refine Eq.trans hj ?_
    split
    ·rfl
    ·exact ih
   ·rw [decide_eq_false c2, if_pos ⟨c1, c2⟩]
    exact ih
end Go.Proofs.YtcoplddcbedeoaaGreatDoor.Med
end
section
set_option linter.unusedVariables false
set_option linter.unusedSimpArgs false
set_option linter.unusedSectionVars false
namespace Go.Proofs.YtcoplddcbedeoaaGreatDoor.Med
open Go Go.Abs Go.Proofs
set_option linter.unusedVariables false
set_option linter.unusedSimpArgs false
theorem wt_len (l r w : Abs.Rows) (C : List CE) (o cn : ByteArray) (t : Int) (B : Abs.Rows) : ∀ (d k : Nat), (wtF l r w C o cn t B d k).length ≤ B.length + 1
 | 0, k => by simp [wtF]
 | d + 1, k => by
  rw [wtF]
  split
  ·exact wt_len l r w C o cn t B d (k + 1)
  ·split
   ·simp
   ·exact wt_len l r w C o cn t B d (k + 1)
theorem fn116 (m : Nat) (hm : 1200 ≤ m) (l r : Abs.Rows) (C : List CE) (hC : C.length ≤ 900) (w : Abs.Rows) (hw : w.length ≤ 1000) (B : Abs.Rows) (hB : B.length ≤ 1000) (e : CE) {R : Type} (k : Abs.Rows → Abs.Rows → Option R) :
  Fn116 (m + 1) w (C.map (rowC l r)) B e.o (fS r e.j 1) (fI l e.i 3) (pri l r e.i e.j) k = k ((C ++ [e]).map (rowC l r)) (wtF l r w (C ++ [e]) e.o (fS r e.j 1) (fI l e.i 3) B w.length 0) := by
 simp only [Fn116]
 rw [dT (by simp [rM]; omega)]
 simp only [letV]
 have e1 : (C.map (rowC l r)) ++ [[F.lit (Value.string e.o), F.lit (Value.string (fS r e.j 1)), F.lit (Value.int IntKind.i64 (fI l e.i 3)), F.lit (Value.int IntKind.i64 (pri l r e.i e.j))]] = (C ++ [e]).map (rowC l r) := by
  rw [List.map_append]; rfl
 rw [e1]
 exact lp116 m (by omega) l r (C ++ [e]) (by simp; omega) e.o (fS r e.j 1) (fI l e.i 3) (pri l r e.i e.j) w hw w B hB (fun x => k ((C ++ [e]).map (rowC l r)) x) w.length m 0 (by omega) (by omega)
/-- - -/
def wsF (l r w : Abs.Rows) (ps : List (ByteArray × ByteArray)) : Nat → Nat → List CE → Abs.Rows → Abs.Rows → Abs.Rows × Abs.Rows
 | 0, _, _, B, S => (B, S)
 | d + 1, i, C, B, S => match lk (fS l i 1) ps with
  | none => wsF l r w ps d (i + 1) C B S
  | some o => if blF B o (fI l i 3) B.length 0 = true then wsF l r w ps d (i + 1) C B (S ++ [[fN i]]) else match cls l r i with
   | none => wsF l r w ps d (i + 1) C B S
   | some j => wsF l r w ps d (i + 1) (C ++ [⟨i, o, j⟩]) (wtF l r w (C ++ [⟨i, o, j⟩]) o (fS r j 1) (fI l i 3) B w.length 0) S
theorem lp67 (m : Nat) (hm : 4200 ≤ m) {l r : Abs.Rows} {free : Int} {ins : Abs.Rows} (g : Good l r free ins) (w : Abs.Rows) (hw : w.length ≤ 1000) (ps : List (ByteArray × ByteArray)) {R : Type} (k : Abs.Rows → Abs.Rows → Option R) : ∀ (d n i : Nat) (C : List CE) (B S : Abs.Rows), i + d = l.length → d < n → C.length ≤ i → B.length ≤ i → S.length ≤ i →
  Lp67_5 (m + 4) (fun _ b s _ => k b s) l r free ins w (owM ps) l l.length n (C.map (rowC l r)) B S i = k (wsF l r w ps d i C B S).1 (wsF l r w ps d i C B S).2
 | _, 0, _, _, _, _, _, h, _, _, _ => by omega
 | 0, n + 1, i, C, B, S, h1, h2, h3, h4, h5 => by
  rw [Lp67_5]
  simp only [Lp67_5_step]
  rw [dF (by omega)]
  rfl
 | d + 1, n + 1, i, C, B, S, h1, h2, h3, h4, h5 => by
  have hll := g.ll
  have hi : i < l.length := by omega
  have hrc := g.rc i hi
  have hmom := rc_mom hrc
  have skip := lp67 m hm g w hw ps k d n (i + 1) C B S (by omega) (by omega) (by omega) (by omega) (by omega)
  have stop := lp67 m hm g w hw ps k d n (i + 1) C B (S ++ [[fN i]]) (by omega) (by omega) (by omega) (by omega) (by simp; omega)
  rw [Lp67_5]
  simp only [Lp67_5_step, wP1 (show i ≤ 1000000 by omega), tN, owM_has, owM_get]
  rw [dT (by omega), dT (by omega), wsF]
  cases hk : lk (fS l i 1) ps with
  | none => exact skip
  | some o =>
   refine Eq.trans (bF rfl) ?_
   simp only [Option.getD_some]
   refine Eq.trans (fn78 m (by omega) B (by omega) o (fI l i 3) _) ?_
   cases hb : blF B o (fI l i 3) B.length 0 with
   | true =>
    rw [if_pos rfl]
    refine Eq.trans (bT rfl) ?_
    rw [dT (by simp [rM]; omega)]
    exact stop
   | false =>
    rw [if_neg (show ¬ (false = true) by decide)]
    refine Eq.trans (bF rfl) ?_
    refine Eq.trans (fn57b (m + 1) r (by have := g.rl; omega) (by omega) (sort_of g.cl) _ (by have := num_len (rc_num hrc).2; omega) free ins _) ?_
    have hcls : clsF r (ls (fS l i 2)) (ls (fS l i 2)).length = cls l r i := rfl
    rw [hcls]
    cases hc : cls l r i with
    | none => exact skip
    | some j =>
     have hj := cls_lt _ hc
     simp only [apC]
     refine Eq.trans (bT rfl) ?_
     refine Eq.trans (fn110 (m + 3) _ _ (cl_rng (g.cl j hj)) hmom.2.2.1 hmom.2.2.2 _) ?_
     refine Eq.trans (fn116 (m + 3) (by omega) l r C (by omega) w hw B (by omega) ⟨i, o, j⟩ _) ?_
     have hwl := wt_len l r w (C ++ [⟨i, o, j⟩]) o (fS r j 1) (fI l i 3) B w.length 0
     exact lp67 m hm g w hw ps k d n (i + 1) (C ++ [⟨i, o, j⟩]) (wtF l r w (C ++ [⟨i, o, j⟩]) o (fS r j 1) (fI l i 3) B w.length 0) S (by omega) (by omega) (by simp; omega) (by omega) (by omega)
/-! the reference -/
def CI (l r : Abs.Rows) (ps : List (ByteArray × ByteArray)) (C : List CE) : Prop := ∀ e ∈ C, e.i < l.length ∧ lk (fS l e.i 1) ps = some e.o ∧ cls l r e.i = some e.j
theorem lp30i (m : Nat) (hm : 1200 ≤ m) {l r : Abs.Rows} {free : Int} {ins : Abs.Rows} (g : Good l r free ins) {p : Abs.Rows} (hp : payF p = 0) (C : List CE) (hC : C.length ≤ 1000) (hI : CI l r (flt p p.length 0) C) (w B S : Abs.Rows) (s1 s2 s3 : ByteArray) (t a2 a3 a4 : Int) (s4 o n1 n2 : ByteArray) (b1 b2 b3 b4 kk : Int) (wc : ByteArray) (win u1 u2 u3 : Int) (x1 : Abs.Rows) (y1 y2 : Int) (x2 : Abs.Rows) (y3 y4 : Int) {R : Type} (K : Int → Int → Option R) : ∀ (d n i : Nat) (x s : Int), i + d = C.length → d < n →
  Lp30_25 (m + 4) (fun x s _ => K x s) p w l r free ins B S (C.map rowD) s1 s2 s3 t a2 a3 a4 s4 o n1 n2 b1 b2 b3 b4 kk wc win u1 u2 u3 x1 y1 y2 x2 y3 y4 C.length C.length n x s i = K (smW l r wc win t o (C.drop i) x s).1 (smW l r wc win t o (C.drop i) x s).2
 | _, 0, _, _, _, _, h => by omega
 | 0, n + 1, i, x, s, h1, h2 => by
  rw [Lp30_25]
  simp only [Lp30_25_step]
  rw [dF (by omega), List.drop_of_length_le (by omega)]
  rfl
 | d + 1, n + 1, i, x, s, h1, h2 => by
  have hi : i < C.length := by omega
  have hll := g.ll
  obtain ⟨q1, q2, q3⟩ := hI (C[i]) (List.getElem_mem hi)
  have hj := cls_lt _ q3
  have hmom := rc_mom (g.rc _ q1)
  have ih := fun x s => lp30i m hm g hp C hC hI w B S s1 s2 s3 t a2 a3 a4 s4 o n1 n2 b1 b2 b3 b4 kk wc win u1 u2 u3 x1 y1 y2 x2 y3 y4 K d n (i + 1) x s (by omega) (by omega)
  have e0 : decide (wc = { data := #[] }) = decide (ls wc = []) := by rw [← eqba, eqnil]
  rw [Lp30_25]
  simp only [Lp30_25_step, wP1 (show i ≤ 1000000 by omega), tN, Jn30_31, eqba, e0]
  rw [dT (by omega), dT (by omega), dI0 hi, dT (by omega)]
  simp only [tN]
  refine Eq.trans (fn58 m hm g hp q1 _ _ _ _ _ _ _) ?_
  rw [q3, q2, drop_c C hi, smW]
  simp only [apC, Option.getD_some, Option.isSome_some, cond_true]
  have hpr : ∀ k : Int → Option R, Fn60 (m + 4) (fS r (C[i]).j 0) (fS r (C[i]).j 1) (fI r (C[i]).j 2) (fI r (C[i]).j 3) (fI r (C[i]).j 4) (fI r (C[i]).j 5) (fI l (C[i]).i 5) k = k (pri l r (C[i]).i (C[i]).j) := fun k => fn60 (m + 3) _ _ (cl_rng (g.cl _ hj)) hmom.2.2.1 hmom.2.2.2 k
  by_cases c1 : (C[i]).o = o
  ·rw [dT c1]
   by_cases c2 : ls wc = []
   ·rw [dT c2]
    by_cases c3 : fI l (C[i]).i 3 > IntKind.wrap .i64 (t - win)
    ·rw [dT c3, if_pos (show cnd l r wc win t o (C[i]) from ⟨c1, .inl c2, c3⟩), hpr]; exact ih _ _
    ·rw [dF c3, if_neg (show ¬ cnd l r wc win t o (C[i]) from fun h => c3 h.2.2)]; exact ih _ _
   ·rw [dF c2]
    by_cases c4 : fS r (C[i]).j 1 = wc
    ·rw [dT c4]
     by_cases c3 : fI l (C[i]).i 3 > IntKind.wrap .i64 (t - win)
     ·rw [dT c3, if_pos (show cnd l r wc win t o (C[i]) from ⟨c1, .inr c4, c3⟩), hpr]; exact ih _ _
     ·rw [dF c3, if_neg (show ¬ cnd l r wc win t o (C[i]) from fun h => c3 h.2.2)]; exact ih _ _
    ·rw [dF c4, if_neg (show ¬ cnd l r wc win t o (C[i]) from fun h => h.2.1.elim c2 c4)]; exact ih _ _
  ·rw [dF c1, if_neg (show ¬ cnd l r wc win t o (C[i]) from fun h => c1 h.1)]; exact ih _ _
theorem jn30_22 (m : Nat) (hm : 1200 ≤ m) {l r : Abs.Rows} {free : Int} {ins : Abs.Rows} (g : Good l r free ins) {p : Abs.Rows} (hp : payF p = 0) (C : List CE) (hC : C.length ≤ 1000) (hI : CI l r (flt p p.length 0) C) (w B S : Abs.Rows) (hB : B.length ≤ 1000) (s1 s2 s3 : ByteArray) (t a2 a3 a4 : Int) (s4 o n1 n2 : ByteArray) (b1 b2 b3 b4 : Int) (k : Nat) (x1 : Abs.Rows) (y1 y2 : Int) (x2 : Abs.Rows) (y3 y4 : Int) {R : Type} (K : Abs.Rows → Option R) (Z : Option R) :
  Jn30_22 (m + 4) K Z p w l r free ins B S (C.map rowD) s1 s2 s3 t a2 a3 a4 s4 o n1 n2 b1 b2 b3 b4 k (fS w k 0) (fI w k 1) (fI w k 2) (fI w k 3) (fI w k 4) x1 y1 y2 x2 y3 y4 = if over l r w C o t k then K (B ++ [rowB w o t k]) else Z := by
 simp only [Jn30_22, List.length_map]
 refine Eq.trans (lp30i m hm g hp C hC hI w B S s1 s2 s3 t a2 a3 a4 s4 o n1 n2 b1 b2 b3 b4 k (fS w k 0) (fI w k 1) _ _ _ x1 y1 y2 x2 y3 y4 _ C.length (m + 4) 0 0 0 (by omega) (by omega)) ?_
 rw [List.drop_zero]
 simp only [Jn30_35]
 have hr : B.length + List.length [[F.lit (Value.string o), F.lit (Value.int IntKind.i64 (k : Int)), F.lit (Value.int IntKind.i64 (IntKind.wrap IntKind.i64 (t + 1))), F.lit (Value.int IntKind.i64 (IntKind.wrap IntKind.i64 (IntKind.wrap IntKind.i64 (t + 1) + fI w k 4)))]] ≤ rowMax := by simp [rM]; omega
 by_cases h1 : (smW l r (fS w k 0) (fI w k 1) t o C 0 0).1 > fI w k 2
 ·rw [dT h1, if_pos (show over l r w C o t k from Or.inl h1)]
  refine Eq.trans (bT rfl) ?_
  rw [dT hr]; rfl
 ·rw [dF h1]
  by_cases h2 : (smW l r (fS w k 0) (fI w k 1) t o C 0 0).2 > IntKind.wrap .i64 (1000 * fI w k 3)
  ·rw [dT h2, if_pos (show over l r w C o t k from Or.inr h2)]
   rw [dT hr]; rfl
  ·rw [dF h2, if_neg (show ¬ over l r w C o t k from fun h => Or.elim h h1 h2)]
theorem lp30w (m : Nat) (hm : 1200 ≤ m) {l r : Abs.Rows} {free : Int} {ins : Abs.Rows} (g : Good l r free ins) {p : Abs.Rows} (hp : payF p = 0) (C : List CE) (hC : C.length ≤ 1000) (hI : CI l r (flt p p.length 0) C) (w : Abs.Rows) (hw : w.length ≤ 1000) (B S : Abs.Rows) (hB : B.length ≤ 1000) (s1 s2 s3 : ByteArray) (t a2 a3 a4 : Int) (s4 o n1 cn : ByteArray) (b1 b2 b3 b4 : Int) (x1 : Abs.Rows) (y1 y2 : Int) {R : Type} (K : Abs.Rows → Option R) : ∀ (d n k : Nat), k + d = w.length → d < n →
  Lp30_17 (m + 4) (fun x _ => K x) p w l r free ins B S (C.map rowD) s1 s2 s3 t a2 a3 a4 s4 o n1 cn b1 b2 b3 b4 x1 y1 y2 w w.length n k = K (wtF l r w C o cn t B d k)
 | _, 0, _, _, h => by omega
 | 0, n + 1, k, h1, h2 => by
  rw [Lp30_17]
  simp only [Lp30_17_step]
  rw [dF (by omega)]
  rfl
 | d + 1, n + 1, k, h1, h2 => by
  have ih := lp30w m hm g hp C hC hI w hw B S hB s1 s2 s3 t a2 a3 a4 s4 o n1 cn b1 b2 b3 b4 x1 y1 y2 K d n (k + 1) (by omega) (by omega)
  have hj := jn30_22 m hm g hp C hC hI w B S hB s1 s2 s3 t a2 a3 a4 s4 o n1 cn b1 b2 b3 b4 k x1 y1 y2 w w.length k K (Lp30_17 (m + 4) (fun x _ => K x) p w l r free ins B S (C.map rowD) s1 s2 s3 t a2 a3 a4 s4 o n1 cn b1 b2 b3 b4 x1 y1 y2 w w.length n ((k + 1 : Nat) : Int))
  have e0 : decide (fS w k 0 = { data := #[] }) = decide (ls (fS w k 0) = []) := by rw [← eqba, eqnil]
  rw [Lp30_17]
  simp only [Lp30_17_step, wP1 (show k ≤ 1000000 by omega), tN, eqba]
  rw [dT (by omega), dT (by omega), wtF, e0]
  by_cases c1 : ls (fS w k 0) = []
  ·rw [decide_eq_true c1, if_neg (fun h => h.1 c1)]
   refine Eq.trans (bF rfl) ?_
   refine Eq.trans hj ?_
   split
   ·rfl
   ·exact ih
  ·rw [decide_eq_false c1]
   refine Eq.trans (bT rfl) ?_
   by_cases c2 : fS w k 0 = cn
   ·rw [decide_eq_true c2, if_neg (fun h => h.2 c2)]
    refine Eq.trans (bF rfl) ?_
    refine Eq.trans hj ?_
    split
    ·rfl
    ·exact ih
   ·rw [decide_eq_false c2, if_pos ⟨c1, c2⟩]
    exact ih
end Go.Proofs.YtcoplddcbedeoaaGreatDoor.Med
end
section
set_option linter.unusedVariables false
set_option linter.unusedSimpArgs false
set_option linter.unusedSectionVars false
namespace Go.Proofs.YtcoplddcbedeoaaGreatDoor.Med
open Go Go.Abs Go.Proofs
set_option linter.unusedVariables false
set_option linter.unusedSimpArgs false
theorem jn30_12 (m : Nat) (hm : 1200 ≤ m) {l r : Abs.Rows} {free : Int} {ins : Abs.Rows} (g : Good l r free ins) {p : Abs.Rows} (hp : payF p = 0) (C : List CE) (hC : C.length ≤ 900) (w : Abs.Rows) (hw : w.length ≤ 1000) (B S : Abs.Rows) (hB : B.length ≤ 1000) {i : Nat} {o : ByteArray} {j : Nat} (hI : CI l r (flt p p.length 0) (C ++ [(⟨i, o, j⟩ : CE)])) (s1 s2 s3 : ByteArray) (t a2 a3 a4 : Int) (s4 n1 cn : ByteArray) (b1 b2 b3 b4 : Int) (x1 : Abs.Rows) (y1 y2 : Int) {R : Type} (Z : Option R) (K : Abs.Rows → Abs.Rows → Option R) :
  Jn30_12 (m + 4) Z K p w l r free ins B S (C.map rowD) i s1 s2 s3 t a2 a3 a4 s4 o n1 cn b1 b2 b3 b4 true x1 y1 y2 = K (wtF l r w (C ++ [(⟨i, o, j⟩ : CE)]) o cn t B w.length 0) ((C ++ [(⟨i, o, j⟩ : CE)]).map rowD) := by
 simp only [Jn30_12]
 refine Eq.trans (bF rfl) ?_
 rw [dT (by simp [rM]; omega)]
 simp only [letV]
 have e1 : (C.map rowD) ++ [[F.lit (Value.int IntKind.i64 (i : Int))]] = (C ++ [(⟨i, o, j⟩ : CE)]).map rowD := by
  rw [List.map_append]; rfl
 rw [e1]
 exact lp30w m hm g hp (C ++ [(⟨i, o, j⟩ : CE)]) (by simp; omega) hI w hw B S hB s1 s2 s3 t a2 a3 a4 s4 o n1 cn b1 b2 b3 b4 x1 y1 y2 (fun x => K x ((C ++ [(⟨i, o, j⟩ : CE)]).map rowD)) w.length (m + 4) 0 (by omega) (by omega)
theorem jn30_12f (m : Nat) (p w l r : Abs.Rows) (free : Int) (ins B S C : Abs.Rows) (i : Int) (s1 s2 s3 : ByteArray) (t a2 a3 a4 : Int) (s4 o n1 cn : ByteArray) (b1 b2 b3 b4 : Int) (x1 : Abs.Rows) (y1 y2 : Int) {R : Type} (Z : Option R) (K : Abs.Rows → Abs.Rows → Option R) :
  Jn30_12 m Z K p w l r free ins B S C i s1 s2 s3 t a2 a3 a4 s4 o n1 cn b1 b2 b3 b4 false x1 y1 y2 = Z := by
 simp only [Jn30_12]
 exact bT rfl
theorem lp30 (m : Nat) (hm : 4200 ≤ m) {l r : Abs.Rows} {free : Int} {ins : Abs.Rows} (g : Good l r free ins) {p : Abs.Rows} (hp : payF p = 0) (w : Abs.Rows) (hw : w.length ≤ 1000) {R : Type} (k : Abs.Rows → Abs.Rows → Option R) : ∀ (d n i : Nat) (C : List CE) (B S : Abs.Rows), i + d = l.length → d < n → C.length ≤ i → B.length ≤ i → S.length ≤ i → CI l r (flt p p.length 0) C →
  Lp30_4 (m + 4) (fun b s _ _ => k b s) p w l r free ins l l.length n B S (C.map rowD) i = k (wsF l r w (flt p p.length 0) d i C B S).1 (wsF l r w (flt p p.length 0) d i C B S).2
 | _, 0, _, _, _, _, _, h, _, _, _, _ => by omega
 | 0, n + 1, i, C, B, S, h1, h2, h3, h4, h5, h6 => by
  rw [Lp30_4]
  simp only [Lp30_4_step]
  rw [dF (by omega)]
  rfl
 | d + 1, n + 1, i, C, B, S, h1, h2, h3, h4, h5, h6 => by
  have hll := g.ll
  have hi : i < l.length := by omega
  have hrc := g.rc i hi
  have skip := lp30 m hm g hp w hw k d n (i + 1) C B S (by omega) (by omega) (by omega) (by omega) (by omega) h6
  have stop := lp30 m hm g hp w hw k d n (i + 1) C B (S ++ [[fN i]]) (by omega) (by omega) (by omega) (by omega) (by simp; omega) h6
  have h76 := fun (k : ByteArray → Bool → Option R) => fn76 (m + 1) (by omega) p hp (fS l i 1) k
  rw [Lp30_4]
  simp only [Lp30_4_step, wP1 (show i ≤ 1000000 by omega), tN]
  rw [dT (by omega), dT (by omega), wsF]
  refine Eq.trans (fn58 m (by omega) g hp hi _ _ _ _ _ _ _) ?_
  cases hk : lk (fS l i 1) (flt p p.length 0) with
  | none =>
   rw [hk] at h76
   cases hc : cls l r i with
   | none =>
    simp only [apC]
    refine Eq.trans (h76 _) ?_
    refine Eq.trans (bF rfl) ?_
    exact (jn30_12f _ _ _ _ _ _ _ _ _ _ _ _ _ _ _ _ _ _ _ _ _ _ _ _ _ _ _ _ _ _ _).trans skip
   | some j =>
    simp only [apC]
    refine Eq.trans (h76 _) ?_
    refine Eq.trans (bF rfl) ?_
    exact (jn30_12f _ _ _ _ _ _ _ _ _ _ _ _ _ _ _ _ _ _ _ _ _ _ _ _ _ _ _ _ _ _ _).trans skip
  | some o =>
   rw [hk] at h76
   simp only [Option.getD_some, Option.isSome_some, cond_true] at h76 ⊢
   have h36 := fun (k : Bool → Option R) => fn36B m (by omega) B (by omega) o (fI l i 3) k
   cases hb : blF B o (fI l i 3) B.length 0 with
   | true =>
    rw [hb] at h36
    rw [if_pos rfl]
    have hS : S.length + List.length [[F.lit (Value.int IntKind.i64 (i : Int))]] ≤ rowMax := by simp [rM]; omega
    cases hc : cls l r i with
    | none =>
     simp only [apC]
     refine Eq.trans (h76 _) ?_
     refine Eq.trans (bT rfl) ?_
     refine Eq.trans (h36 _) ?_
     refine Eq.trans (bT rfl) ?_
     rw [dT hS]
     exact stop
    | some j =>
     simp only [apC]
     refine Eq.trans (h76 _) ?_
     refine Eq.trans (bT rfl) ?_
     refine Eq.trans (h36 _) ?_
     refine Eq.trans (bT rfl) ?_
     rw [dT hS]
     exact stop
   | false =>
    rw [hb] at h36
    rw [if_neg (show ¬ (false = true) by decide)]
    cases hc : cls l r i with
    | none =>
     simp only [apC]
     refine Eq.trans (h76 _) ?_
     refine Eq.trans (bT rfl) ?_
     refine Eq.trans (h36 _) ?_
     refine Eq.trans (bF rfl) ?_
     exact (jn30_12f _ _ _ _ _ _ _ _ _ _ _ _ _ _ _ _ _ _ _ _ _ _ _ _ _ _ _ _ _ _ _).trans skip
    | some j =>
     have hI : CI l r (flt p p.length 0) (C ++ [⟨i, o, j⟩]) := by
      intro e he
      rcases List.mem_append.1 he with he | he
      ·exact h6 e he
      ·simp at he; subst he; exact ⟨hi, hk, hc⟩
     have hwl := wt_len l r w (C ++ [⟨i, o, j⟩]) o (fS r j 1) (fI l i 3) B w.length 0
     simp only [apC]
     refine Eq.trans (h76 _) ?_
     refine Eq.trans (bT rfl) ?_
     refine Eq.trans (h36 _) ?_
     refine Eq.trans (bF rfl) ?_
     refine Eq.trans (jn30_12 m (by omega) g hp C (by omega) w hw B S (by omega) hI _ _ _ _ _ _ _ _ _ _ _ _ _ _ _ _ _ _ _) ?_
     exact lp30 m hm g hp w hw k d n (i + 1) (C ++ [⟨i, o, j⟩]) (wtF l r w (C ++ [⟨i, o, j⟩]) o (fS r j 1) (fI l i 3) B w.length 0) S (by omega) (by omega) (by simp; omega) (by omega) (by omega) hI
def wsR (l r w p : Abs.Rows) : Abs.Rows × Abs.Rows := wsF l r w (flt p p.length 0) l.length 0 [] rows0 rows0
theorem fn67 (m : Nat) (hm : 4300 ≤ m) {l r : Abs.Rows} {free : Int} {ins : Abs.Rows} (g : Good l r free ins) {p : Abs.Rows} (hp : payF p = 0) (w : Abs.Rows) (hw : w.length ≤ 1000) {R : Type} (k : Abs.Rows → Abs.Rows → Option R) :
  Fn67 (m + 5) r free ins p w l k = k (wsR l r w p).1 (wsR l r w p).2 := by
 simp only [Fn67]
 refine Eq.trans (fn56 (m + 3) (by omega) p hp _) ?_
 exact lp67 m (by omega) g w hw (flt p p.length 0) k l.length (m + 4) 0 [] rows0 rows0 (by omega) (by have := g.ll; omega) (by simp) (by simp [rows0]) (by simp [rows0])
theorem fn30r (m : Nat) (hm : 4300 ≤ m) {l r : Abs.Rows} {free : Int} {ins : Abs.Rows} (g : Good l r free ins) {p : Abs.Rows} (hp : payF p = 0) (w : Abs.Rows) (hw : w.length ≤ 1000) {R : Type} (k : Abs.Rows → Abs.Rows → Option R) :
  Fn30 (m + 5) r free ins p w l k = k (wsR l r w p).1 (wsR l r w p).2 := by
 simp only [Fn30]
 exact lp30 m (by omega) g hp w hw k l.length (m + 4) 0 [] rows0 rows0 (by omega) (by have := g.ll; omega) (by simp) (by simp [rows0]) (by simp [rows0]) (fun e he => by cases he)
theorem ws_len (l r w : Abs.Rows) (ps : List (ByteArray × ByteArray)) : ∀ (d i : Nat) (C : List CE) (B S : Abs.Rows), (wsF l r w ps d i C B S).1.length ≤ B.length + d ∧ (wsF l r w ps d i C B S).2.length ≤ S.length + d
 | 0, i, C, B, S => by simp [wsF]
 | d + 1, i, C, B, S => by
  have h := fun C B S => ws_len l r w ps d (i + 1) C B S
  rw [wsF]
  cases hk : lk (fS l i 1) ps with
  | none =>
   have := h C B S
   refine ⟨?_, ?_⟩
   ·show (wsF l r w ps d (i + 1) C B S).1.length ≤ _; omega
   ·show (wsF l r w ps d (i + 1) C B S).2.length ≤ _; omega
  | some o =>
   dsimp only
   by_cases hb : blF B o (fI l i 3) B.length 0 = true
   ·have := h C B (S ++ [[fN i]])
    rw [if_pos hb]
    simp only [List.length_append, List.length_cons, List.length_nil] at this
    omega
   ·rw [if_neg hb]
    cases hc : cls l r i with
    | none =>
     have := h C B S
     refine ⟨?_, ?_⟩
     ·show (wsF l r w ps d (i + 1) C B S).1.length ≤ _; omega
     ·show (wsF l r w ps d (i + 1) C B S).2.length ≤ _; omega
    | some j =>
     have h1 := h (C ++ [(⟨i, o, j⟩ : CE)]) (wtF l r w (C ++ [(⟨i, o, j⟩ : CE)]) o (fS r j 1) (fI l i 3) B w.length 0) S
     have h2 := wt_len l r w (C ++ [(⟨i, o, j⟩ : CE)]) o (fS r j 1) (fI l i 3) B w.length 0
     refine ⟨?_, ?_⟩
     ·show (wsF l r w ps d (i + 1) (C ++ [(⟨i, o, j⟩ : CE)]) (wtF l r w (C ++ [(⟨i, o, j⟩ : CE)]) o (fS r j 1) (fI l i 3) B w.length 0) S).1.length ≤ _; omega
     ·show (wsF l r w ps d (i + 1) (C ++ [(⟨i, o, j⟩ : CE)]) (wtF l r w (C ++ [(⟨i, o, j⟩ : CE)]) o (fS r j 1) (fI l i 3) B w.length 0) S).2.length ≤ _; omega
end Go.Proofs.YtcoplddcbedeoaaGreatDoor.Med
end
section
set_option linter.unusedVariables false
set_option linter.unusedSimpArgs false
set_option linter.unusedSectionVars false
namespace Go.Proofs.YtcoplddcbedeoaaGreatDoor.Med
open Go Go.Abs Go.Proofs
set_option linter.unusedVariables false
set_option linter.unusedSimpArgs false
/-! the law PayersBlocked -/
theorem ei4 (a b c d : Int) : ([[F.lit (Value.int IntKind.i64 a)], [F.lit (Value.int IntKind.i64 b)], [F.lit (Value.int IntKind.i64 c)], [F.lit (Value.int IntKind.i64 d)]] : Abs.Rows) = ei [a, b, c, d] := rfl
def faF (r : Abs.Rows) (f : Int) (q p w l : Abs.Rows) : Int := nz [tarF r f q, payF p, wfT w, recF l]
theorem fn66 (m : Nat) (hm : 4100 ≤ m) (r : Abs.Rows) (f : Int) (q p w l : Abs.Rows) {R : Type} (k : Int → Option R) : Fn66 (m + 7) r f q p w l k = k (faF r f q p w l) := by
 simp only [Fn66]
 refine Eq.trans (fn82 (m + 1) (by omega) r f q _) ?_
 unfold faF nz
 by_cases h1 : tarF r f q = 0
 ·rw [nF h1, if_neg (not_not_intro h1)]
  refine Eq.trans (fn111 (m + 1) (by omega) p _) ?_
  unfold nz
  by_cases h2 : payF p = 0
  ·rw [nF h2, if_neg (not_not_intro h2)]
   refine Eq.trans (fn29w (m + 1) (by omega) w _) ?_
   unfold nz
   by_cases h4 : wfT w = 0
   ·rw [nF h4, if_neg (not_not_intro h4)]
    refine Eq.trans (fn48 m (by omega) l _) ?_
    unfold nz nz
    by_cases h3 : recF l = 0
    ·rw [if_neg (not_not_intro h3), h3]
    ·rw [if_pos h3]
   ·rw [nT h4, if_pos h4]
  ·rw [nT h2, if_pos h2]
 ·rw [nT h1, if_pos h1]
theorem fa_ok {r : Abs.Rows} {f : Int} {q p w l : Abs.Rows} (h : faF r f q p w l = 0) : tarF r f q = 0 ∧ payF p = 0 ∧ wfT w = 0 ∧ recF l = 0 := by
 have h : (if tarF r f q ≠ 0 then tarF r f q else if payF p ≠ 0 then payF p else if wfT w ≠ 0 then wfT w else if recF l ≠ 0 then recF l else 0) = 0 := h
 by_cases h1 : tarF r f q = 0
 ·rw [if_neg (not_not_intro h1)] at h
  by_cases h2 : payF p = 0
  ·rw [if_neg (not_not_intro h2)] at h
   by_cases h4 : wfT w = 0
   ·rw [if_neg (not_not_intro h4)] at h
    by_cases h3 : recF l = 0
    ·exact ⟨h1, h2, h4, h3⟩
    ·rw [if_pos h3] at h; exact (h3 h).elim
   ·rw [if_pos h4] at h; exact (h4 h).elim
  ·rw [if_pos h2] at h; exact (h2 h).elim
 ·rw [if_pos h1] at h; exact (h1 h).elim
theorem good_of {r : Abs.Rows} {f : Int} {q p w l : Abs.Rows} (hl : l.length ≤ 100) (h : faF r f q p w l = 0) : Good l r f q := by
 obtain ⟨h1, h2, _, h3⟩ := fa_ok h
 have hc := tar_cl h1
 have hr := (rec_ok h3).1
 unfold tarF at h1
 split at h1
 ·omega
 ·split at h1
  ·rename_i c; exact (c h1).elim
  ·split at h1
   ·omega
   ·rename_i c1 _ c2
    have c2 : 0 ≤ f ∧ f ≤ 2592000000 := Decidable.not_not.1 c2
    split at h1
    ·omega
    ·exact ⟨hl, by omega, by omega, c2.1, c2.2, hr, hc⟩
theorem w_len {w : Abs.Rows} (h : wfT w = 0) : w.length ≤ 1000 := by
 unfold wfT at h
 split at h
 ·omega
 ·omega
def bR (r : Abs.Rows) (f : Int) (q p w l : Abs.Rows) : Abs.Rows := if faF r f q p w l = 0 then (wsR l r w p).1 else rows0
def sR (r : Abs.Rows) (f : Int) (q p w l : Abs.Rows) : Abs.Rows := if faF r f q p w l = 0 then (wsR l r w p).2 else rows0
theorem bs_len (r : Abs.Rows) (f : Int) (q p w l : Abs.Rows) (hl : l.length ≤ 100) : (bR r f q p w l).length ≤ 100 ∧ (sR r f q p w l).length ≤ 100 := by
 have h := ws_len l r w (flt p p.length 0) l.length 0 [] rows0 rows0
 simp only [rows0, List.length_nil] at h
 unfold bR sR wsR
 simp only [rows0]
 split
 ·omega
 ·simp
theorem fn23 (m : Nat) (hm : 4400 ≤ m) (r : Abs.Rows) (f : Int) (q p w l : Abs.Rows) (hl : l.length ≤ 100) {R : Type} (k : Abs.Rows → Int → Option R) : Fn23 (m + 8) r f q p w l k = k (bR r f q p w l) (faF r f q p w l) := by
 simp only [Fn23]
 refine Eq.trans (fn66 m (by omega) r f q p w l _) ?_
 unfold bR
 by_cases h : faF r f q p w l = 0
 ·rw [nF h, if_pos h, h]
  exact fn67 (m + 2) (by omega) (good_of hl h) (fa_ok h).2.1 w (w_len (fa_ok h).2.2.1) (fun b s => k b 0)
 ·rw [nT h, if_neg h]
theorem fn24 (m : Nat) (hm : 4400 ≤ m) (r : Abs.Rows) (f : Int) (q p w l : Abs.Rows) (hl : l.length ≤ 100) {R : Type} (k : Abs.Rows → Int → Option R) : Fn24 (m + 8) r f q p w l k = k (sR r f q p w l) (faF r f q p w l) := by
 simp only [Fn24]
 refine Eq.trans (fn66 m (by omega) r f q p w l _) ?_
 unfold sR
 by_cases h : faF r f q p w l = 0
 ·rw [nF h, if_pos h, h]
  exact fn67 (m + 2) (by omega) (good_of hl h) (fa_ok h).2.1 w (w_len (fa_ok h).2.2.1) (fun b s => k s 0)
 ·rw [nT h, if_neg h]
theorem fn31 (m : Nat) (x : Abs.Rows) (hx : x.length ≤ 1000) (hm : 1000 < m) {R : Type} (k : Bool → Option R) : Fn31 (m + 1) x x k = k true := by
 have lp : ∀ (d n i : Nat), i + d = x.length → d < n → Lp31_5 m (fun b _ => k b) (fun _ => k true) x x false x.length n i = k true := by
  intro d
  induction d with
  | zero =>
   intro n i h1 h2
   cases n with
   | zero => omega
   | succ n =>
    rw [Lp31_5]
    simp only [Lp31_5_step]
    rw [dF (by omega)]
  | succ d ih =>
   intro n i h1 h2
   cases n with
   | zero => omega
   | succ n =>
    rw [Lp31_5]
    simp only [Lp31_5_step, wP1 (show i ≤ 1000000 by omega), tN]
    rw [dT (by omega), dT (by omega), dT (by omega), bF (by simp)]
    exact ih n (i + 1) (by omega) (by omega)
 simp only [Fn31]
 rw [nF rfl]
 exact lp x.length m 0 (by omega) (by omega)
/-! is a payer blocked -/
def moB (t : Int) : Bool := decide (0 ≤ t ∧ t ≤ 345686399999)
theorem fn72 (m : Nat) (t : Int) {R : Type} (k : Bool → Option R) : Fn72 (m + 2) t k = k (moB t) := by
 simp only [Fn72]
 exact fn70 m t 0 345686399999 k
theorem fn77 (m : Nat) (t : Int) {R : Type} (k : Bool → Option R) : Fn77 (m + 1) t k = k (moB t) := by
 simp only [Fn77]
 unfold moB
 by_cases h : 0 ≤ t
 ·rw [dT h]; congr 1; rw [decide_eq_decide]; omega
 ·rw [dF h]; congr 1; rw [decide_eq_false (by omega)]
theorem jn16b (m : Nat) (hm : 4400 ≤ m) (z : Bool) (q : Abs.Rows) {t : Int} (h0 : 0 ≤ t) (h1 : t ≤ 1000000) (B : Abs.Rows) (hB : B.length ≤ 100) (y : Int) {R : Type} (k : Bool → Option R) : Jn4_16 (m + 10) (fun b _ => k b) z q t B y = k true := by
 simp only [Jn4_16]
 rw [gn32 (m + 7) q _ h0 (by omega) (by simp) (by simp), gn9 (m + 7) q _ (by omega) (by omega) (by simp) (by simp)]
 generalize pkS [[F.lit (Value.string ⟨#[97, 110, 110]⟩)], [F.lit (Value.string ⟨#[98, 111, 98]⟩)], [F.lit (Value.string ⟨#[]⟩)]] q t = s
 generalize pk [[F.lit (Value.int IntKind.i64 (0 : Int))], [F.lit (Value.int IntKind.i64 (101 : Int))], [F.lit (Value.int IntKind.i64 (200 : Int))], [F.lit (Value.int IntKind.i64 (1001 : Int))], [F.lit (Value.int IntKind.i64 (61001 : Int))], [F.lit (Value.int IntKind.i64 (-1 : Int))]] q (t + 1) = a
 have e33 : ∀ k : Bool → Int → Option R, Fn33 (m + 10) B s a k = if keyB (ls s) = false then k false 5 else if moB a = false then k false 1 else k (blF B s a B.length 0) 0 := by
  intro k
  simp only [Fn33]
  rw [dF (by omega)]
  refine Eq.trans (fn74b (m + 8) s _) ?_
  cases keyB (ls s) with
  | false => rfl
  | true =>
   refine Eq.trans (bF rfl) ?_
   rw [if_neg (by decide)]
   refine Eq.trans (fn77 (m + 8) a _) ?_
   cases moB a with
   | false => rfl
   | true =>
    refine Eq.trans (bF rfl) ?_
    rw [if_neg (by decide)]
    exact fn78 (m + 5) (by omega) B (by omega) s a _
 have tail : ∀ (b : Bool) (e : Int), ((keyB (ls s) = false ∧ b = false ∧ e = 5) ∨ (keyB (ls s) = true ∧ moB a = false ∧ b = false ∧ e = 1) ∨ (keyB (ls s) = true ∧ moB a = true ∧ b = blF B s a B.length 0 ∧ e = 0)) →
   Fn34 (m + 10) s (fun b2245 => Fn14 (m + 10) (!b2245) 5 (fun i2249 => Fn35 (m + 10) a (fun i2254 => Fn13 (m + 10) [[F.lit (Value.int IntKind.i64 i2249)], [F.lit (Value.int IntKind.i64 i2254)]] (fun i2255 => bif e == i2255 then (bif i2255 == (0 : Int) then (Fn36 (m + 10) B s a (fun b2256 => bif b == b2256 then (Fn21 (m + 10) (fun b2404 => k b2404)) else (k false))) else (bif b == false then (Fn21 (m + 10) (fun b2405 => k b2405)) else (k false))) else (k false))))) = k true := by
  intro b e h
  refine Eq.trans (fn34b (m + 6) (by omega) s _) ?_
  refine Eq.trans (fn14 (m + 9) _ _ _) ?_
  simp only [Fn35]
  refine Eq.trans (fn72 (m + 7) a _) ?_
  refine Eq.trans (fn14 (m + 8) _ _ _) ?_
  rw [ei2]
  refine Eq.trans (fn13 (m + 9) _ (by simp) (by omega) _) ?_
  rcases h with ⟨h1, h2, h3⟩ | ⟨h1, h2, h3, h4⟩ | ⟨h1, h2, h3, h4⟩
  ·subst h2 h3
   rw [h1]
   have e1 : nz [if (!false) = true then 5 else 0, if (!moB a) = true then 1 else 0] = 5 := rfl
   rw [e1, eT rfl, eF (by decide), bT (show (false == false) = true from rfl)]
   exact fn21 m (by omega) k
  ·subst h3 h4
   rw [h1, h2]
   have e1 : nz [if (!true) = true then 5 else 0, if (!false) = true then 1 else 0] = 1 := rfl
   rw [e1, eT rfl, eF (by decide), bT (show (false == false) = true from rfl)]
   exact fn21 m (by omega) k
  ·subst h3 h4
   rw [h1, h2]
   have e1 : nz [if (!true) = true then 5 else 0, if (!true) = true then 1 else 0] = 0 := rfl
   rw [e1, eT rfl, eT rfl]
   refine Eq.trans (fn36B (m + 6) (by omega) B (by omega) s a _) ?_
   rw [bT (by simp)]
   exact fn21 m (by omega) k
 rw [e33]
 cases h1 : keyB (ls s) with
 | false => exact tail false 5 (.inl ⟨h1, rfl, rfl⟩)
 | true =>
  rw [if_neg (by decide)]
  cases h2 : moB a with
  | false => exact tail false 1 (.inr (.inl ⟨h1, h2, rfl, rfl⟩))
  | true =>
   rw [if_neg (by decide)]
   exact tail _ 0 (.inr (.inr ⟨h1, h2, rfl, rfl⟩))
theorem fn7 (m : Nat) (hm : 4300 ≤ m) (x : Abs.Rows) {t : Int} (h0 : 0 ≤ t) (h1 : t ≤ 100) (N : Nat) (hN : N ≤ 14) :
  ∃ (r : Abs.Rows) (f : Int) (q p l : Abs.Rows) (z t' : Int), l.length ≤ 100 ∧ t ≤ t' ∧ t' ≤ t + 1000 ∧ ∀ (R : Type) (k : Abs.Rows → Int → Abs.Rows → Abs.Rows → Abs.Rows → Int → Int → Option R), Fn7 (m + 20) x t N k = k r f q p l z t' := by
 obtain ⟨r, f, q, t1, a1, a2, a3, e1⟩ := fn37 (m + 14) (by omega) x h0 (by omega)
 obtain ⟨p, t2, a4, a5, e2⟩ := fn52 (m + 14) x (t := t1) (by omega) (by omega)
 obtain ⟨l, t3, a6, a7, a8, e3⟩ := fn43r (m + 13) (by omega) x (t := t2) (by omega) (by omega) N hN
 refine ⟨r, f, q, p, l, nz [tarF r f q, payF p, recF l], t3, by omega, by omega, by omega, fun R k => ?_⟩
 simp only [Fn7]
 rw [e1, e2, e3]
 refine Eq.trans (fn25 (m + 14) (by omega) r f q _) ?_
 refine Eq.trans (fn26 (m + 14) (by omega) p _) ?_
 refine Eq.trans (fn28r (m + 13) (by omega) l _) ?_
 exact fn13 (m + 18) [tarF r f q, payF p, recF l] (by simp) (by omega) _
theorem jn13 (m : Nat) (hm : 4500 ≤ m) (z : Bool) (q : Abs.Rows) {t : Int} (h0 : 0 ≤ t) (h1 : t ≤ 1000000) (B S : Abs.Rows) (hB : B.length ≤ 100) (hS : S.length ≤ 100) (e y y2 : Int) {R : Type} (k : Bool → Option R) :
  Jn4_13 (m + 20) (fun b => k b) (fun b _ => k b) z q t B e S e e B S y y2 = k true := by
 simp only [Jn4_13]
 rw [nF rfl]
 refine Eq.trans (fn31 (m + 19) B (by omega) (by omega) _) ?_
 refine Eq.trans (bF rfl) ?_
 rw [nF rfl]
 refine Eq.trans (fn20 (m + 19) S (by omega) (by omega) _) ?_
 refine Eq.trans (bF rfl) ?_
 exact jn16b (m + 10) (by omega) z q h0 h1 B hB y k
theorem jn13v (m : Nat) (hm : 4500 ≤ m) (z : Bool) (q : Abs.Rows) {t : Int} (h0 : 0 ≤ t) (h1 : t ≤ 1000000) (B S : Abs.Rows) (hB : B.length ≤ 100) (hS : S.length ≤ 100) (e y y2 : Int) {R : Type} (k : Bool → Option R) :
  Jn4_13v1 (m + 20) (fun b => k b) (fun b _ => k b) z q t B e S e e B S y y2 = k true := by
 simp only [Jn4_13v1]
 rw [nF rfl]
 refine Eq.trans (fn31 (m + 19) B (by omega) (by omega) _) ?_
 refine Eq.trans (bF rfl) ?_
 rw [nF rfl]
 refine Eq.trans (fn20 (m + 19) S (by omega) (by omega) _) ?_
 refine Eq.trans (bF rfl) ?_
 exact jn16b (m + 10) (by omega) z q h0 h1 B hB y k
theorem fn4a (M : Nat) (hM : 4600 ≤ M) (x : Abs.Rows) {R : Type} (k : Bool → Option R) : Fn4 (M + 21) x k = k true := by
 have b1 := Int.emod_nonneg (nx x 0) (show (14 - 0 + 1 : Int) ≠ 0 by omega)
 have b2 := Int.emod_lt_of_pos (nx x 0) (show (0 : Int) < 14 - 0 + 1 by omega)
 obtain ⟨N, hN⟩ := Int.eq_ofNat_of_zero_le b1
 have e8 : ∀ (R : Type) (k : Int → Int → Option R), Fn8 (M + 20) x 0 0 14 k = k (N : Int) (0 + 1) := fun R k => by
  rw [gn8 (M + 17) x (by omega) (by omega) (by omega) (by omega) (by omega), hN, Int.zero_add]
 obtain ⟨r, f, q, p, l, z, t, hl, a1, a2, e7⟩ := fn7 M (by omega) x (t := 0 + 1) (by omega) (by omega) N (by omega)
 obtain ⟨w, t2, hw, a3, a4, e22⟩ := fn22 (M + 15) (by omega) x (t := t) (by omega) (by omega)
 have hbs := bs_len r f q p w l hl
 simp only [Fn4]
 rw [e8, e7, e22]
 refine Eq.trans (fn23 (M + 12) (by omega) r f q p w l hl _) ?_
 refine Eq.trans (fn24 (M + 12) (by omega) r f q p w l hl _) ?_
 refine Eq.trans (fn25 (M + 15) (by omega) r f q _) ?_
 refine Eq.trans (fn26 (M + 15) (by omega) p _) ?_
 refine Eq.trans (fn27w (M + 15) (by omega) w _) ?_
 refine Eq.trans (fn28r (M + 14) (by omega) l _) ?_
 rw [ei4]
 refine Eq.trans (fn13 (M + 19) [tarF r f q, payF p, wfT w, recF l] (by simp) (by omega) _) ?_
 refine Eq.trans (fn29w (M + 15) (by omega) w _) ?_
 refine Eq.trans (fn27w (M + 15) (by omega) w _) ?_
 rw [nF rfl]
 show (bif faF r f q p w l == 0 then _ else _) = _
 by_cases h : faF r f q p w l = 0
 ·rw [eT h]
  refine Eq.trans (fn30r (M + 15) (by omega) (good_of hl h) (fa_ok h).2.1 w (w_len (fa_ok h).2.2.1) _) ?_
  have e1 : bR r f q p w l = (wsR l r w p).1 := by unfold bR; rw [if_pos h]
  have e2 : sR r f q p w l = (wsR l r w p).2 := by unfold sR; rw [if_pos h]
  rw [← e1, ← e2]
  exact jn13 M (by omega) false x (t := t2) (by omega) (by omega) _ _ hbs.1 hbs.2 _ _ _ k
 ·rw [eF h]
  have e1 : bR r f q p w l = rows0 := by unfold bR; rw [if_neg h]
  have e2 : sR r f q p w l = rows0 := by unfold sR; rw [if_neg h]
  rw [e1, e2]
  exact jn13v M (by omega) false x (t := t2) (by omega) (by omega) rows0 rows0 (by simp [rows0]) (by simp [rows0]) _ _ _ k
theorem fn4 (m : Nat) (q : Abs.Rows) {R : Type} (k : Bool → Option R) : Fn4 (m + 4600 + 21) q k = k true := fn4a (m + 4600) (by omega) q k
end Go.Proofs.YtcoplddcbedeoaaGreatDoor.Med
end
section
set_option linter.unusedVariables false
set_option linter.unusedSimpArgs false
set_option linter.unusedSectionVars false
namespace Go.Proofs.YtcoplddcbedeoaaGreatDoor.Med
open Go Go.Abs Go.Proofs Go.RowKit
theorem fn4_ok (rows : Abs.Rows) (m : Nat) (h : ∀ (R : Type) (k : Bool → Option R), Fn4 m rows k = k true) : FnOk Tryz.prog 4 [.f (.lst [.int .i64] rows)] (vBool true) [.undef] := by
 refine law_of (okT90 m) fun R k => ?_
 exact h R _
theorem globN (w : World) : GlobOk fun b => w.heap[b]? := fun g ts rows e => by cases e
theorem walk4 (w : World) (a : Option Addr) (len cap : Nat) (zs : List Int) (h : IsInts .i64 w a len cap zs) :
  Calls Tryz.prog 4 #[.slice a len cap] w fun e w' => e = .returned (.bool true) ∧ Below w.heap.size w w' := by
 obtain ⟨body, hb⟩ : ∃ b, Tryz.f4.body = some b := ⟨_, rfl⟩
 exact law_calls Tryz.func4 (by kernel_rfl) hb h (globN w) (fn4_ok _ (0 + 4600 + 21) fun R k => fn4 0 _ k)
end Go.Proofs.YtcoplddcbedeoaaGreatDoor.Med
end
