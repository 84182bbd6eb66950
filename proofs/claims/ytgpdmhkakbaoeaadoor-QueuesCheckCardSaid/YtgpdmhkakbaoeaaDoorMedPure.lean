/- A part of the proofs of the seat YtgpdmhkakbaoeaaDoor: no statement of the seat stands here. -/
import Derived.Lib.Strings
import Derived.Lib.Bytealg
import Derived.Test.YtgpdmhkakbaoeaaDoorMedTyped
import Derived.Test.YtgpdmhkakbaoeaaDoorAbsD
section
set_option linter.unusedVariables false
set_option linter.unusedSimpArgs false
set_option linter.unusedSectionVars false
namespace Go.Proofs.YtgpdmhkakbaoeaaDoor.Med
open Go Go.Abs Go.Proofs
set_option linter.unusedVariables false
set_option linter.unusedSimpArgs false
section
variable {α : Type} {a b : α}
theorem dT {p : Prop} [Decidable p] (h : p) : (bif decide p then a else b) = a := by rw [decide_eq_true h]; rfl
theorem dF {p : Prop} [Decidable p] (h : ¬p) : (bif decide p then a else b) = b := by rw [decide_eq_false h]; rfl
theorem eT {x y : Int} (h : x = y) : (bif x == y then a else b) = a := by simp [h]
theorem nT {x y : Int} (h : ¬ x = y) : (bif x != y then a else b) = a := by rw [bne_iff_ne.2 h]; rfl
theorem nF {x y : Int} (h : x = y) : (bif x != y then a else b) = b := by subst h; rw [bne_self_eq_false]; rfl
theorem eF {x y : Int} (h : ¬ x = y) : (bif x == y then a else b) = b := by rw [beq_false_of_ne h]; rfl
theorem andC {p q : Bool} : (bif p && q then a else b) = bif p then (bif q then a else b) else b := by cases p <;> rfl
theorem orC {p q : Bool} : (bif p || q then a else b) = bif p then a else (bif q then a else b) := by cases p <;> rfl
theorem notC {p : Bool} : (bif !p then a else b) = bif p then b else a := by cases p <;> rfl
theorem bT {c : Bool} (h : c = true) : (bif c then a else b) = a := by subst h; rfl
theorem bF {c : Bool} (h : c = false) : (bif c then a else b) = b := by subst h; rfl
end
theorem w64 {x : Int} (h0 : -9223372036854775808 ≤ x) (h1 : x < 9223372036854775808) : IntKind.wrap .i64 x = x := by
 rw [IntKind.wrap_i64]; omega
theorem w64b (x : Int) : -9223372036854775808 ≤ IntKind.wrap .i64 x ∧ IntKind.wrap .i64 x < 9223372036854775808 := by
 rw [IntKind.wrap_i64]; omega
theorem w8 {x : Int} (h0 : 0 ≤ x) (h1 : x < 256) : IntKind.wrap .u8 x = x := by
 rw [IntKind.wrap_u8]; omega
theorem w8b (x : Int) : 0 ≤ IntKind.wrap .u8 x ∧ IntKind.wrap .u8 x < 256 := by
 rw [IntKind.wrap_u8]; omega
theorem rM : rowMax = 1073741824 := rfl
theorem tm_pos {x y : Int} (h : 0 ≤ x) : Int.tmod x y = x % y := Int.tmod_eq_emod_of_nonneg h
theorem td_pos {x y : Int} (h : 0 ≤ x) : Int.tdiv x y = x / y := Int.tdiv_eq_ediv_of_nonneg h
/-- - -/
theorem stR1 (t : LT) (r : Abs.Rows) (i : Nat) (x : F) : stR [t] r i 0 [x] = r.set i [x] := rfl
theorem fI_set {r : Abs.Rows} {i : Nat} {k : IntKind} {n : Int} (h : i < r.length) : fI (r.set i [F.lit (.int k n)]) i 0 = n := by
 simp [fI, dropF, Abs.rowAt, List.getD_eq_getElem?_getD, h, F.toInt]
theorem fI_set_ne {r : Abs.Rows} {i j : Nat} {x : List F} (h : i ≠ j) : fI (r.set i x) j 0 = fI r j 0 := by
 simp [fI, dropF, Abs.rowAt, List.getD_eq_getElem?_getD, List.getElem?_set_ne h]
theorem fI_app {r : Abs.Rows} {k : IntKind} {n : Int} : fI (r ++ [[F.lit (.int k n)]]) r.length 0 = n := by
 simp [fI, dropF, Abs.rowAt, List.getD_eq_getElem?_getD, F.toInt]
theorem fI_app_lt {r s : Abs.Rows} {i : Nat} (h : i < r.length) : fI (r ++ s) i 0 = fI r i 0 := by
 simp [fI, dropF, Abs.rowAt, List.getD_eq_getElem?_getD, List.getElem?_append_left h]
/-! lists that are made place by place -/
def mk (t : IntKind) (g : Nat → Int) (n : Nat) : Abs.Rows := (List.range n).map fun j => [F.lit (.int t (g j))]
theorem mk_len (t : IntKind) (g : Nat → Int) (n : Nat) : (mk t g n).length = n := by simp [mk]
theorem mk_succ (t : IntKind) (g : Nat → Int) (n : Nat) : mk t g (n + 1) = mk t g n ++ [[F.lit (.int t (g n))]] := by simp [mk, List.range_succ]
theorem mk_set (t : IntKind) (g : Nat → Int) (n d : Nat) (z : List F) : (mk t g n ++ List.replicate (d + 1) z).set n [F.lit (.int t (g n))] = mk t g (n + 1) ++ List.replicate d z := by
 rw [mk_succ, List.set_append_right _ _ (by simp [mk_len]), mk_len, Nat.sub_self, List.replicate_succ, List.set_cons_zero]
 simp
theorem mk_fI (t : IntKind) (g : Nat → Int) {n i : Nat} (h : i < n) : fI (mk t g n) i 0 = g i := by
 simp [fI, dropF, Abs.rowAt, List.getD_eq_getElem?_getD, mk, h, F.toInt]
def Byt (x : Int) : Prop := 0 ≤ x ∧ x < 256
end Go.Proofs.YtgpdmhkakbaoeaaDoor.Med
end
section
set_option linter.unusedVariables false
set_option linter.unusedSimpArgs false
set_option linter.unusedSectionVars false
namespace Go.Proofs.YtgpdmhkakbaoeaaDoor.Med
open Go Go.Abs Go.Proofs
set_option linter.unusedVariables false
set_option linter.unusedSimpArgs false
/-! strings as lists of bytes -/
abbrev bs (l : List UInt8) : ByteArray := ⟨l.toArray⟩
theorem bs_of (s : ByteArray) : s = bs s.data.toList := (Lib.mk_data s).symm
theorem bs_size (l : List UInt8) : (bs l).size = l.length := by simp [bs, ByteArray.size]
theorem bs_toList (l : List UInt8) : (bs l).toList = l := by rw [Lib.toList_data]
theorem bs_at (l : List UInt8) (i : Nat) : Array.getD (bs l).data i (0 : UInt8) = l.getD i 0 := by
 simp [bs, Array.getD_eq_getD_getElem?, List.getD_eq_getElem?_getD]
theorem arr_at (l : List UInt8) (i : Nat) : Array.getD l.toArray i (0 : UInt8) = l.getD i 0 := bs_at l i
theorem bs_ext (l : List UInt8) (a b : Nat) : (bs l).extract a b = bs ((l.drop a).take (b - a)) := Lib.extract_eq _ _ _
theorem bs_drop (l : List UInt8) (a : Nat) : (bs l).extract a (bs l).size = bs (l.drop a) := by
 rw [bs_ext, bs_size, List.take_of_length_le (by simp)]
theorem bs_take (l : List UInt8) (b : Nat) : (bs l).extract 0 b = bs (l.take b) := by rw [bs_ext]; simp
theorem bs_app (a b : List UInt8) : bs a ++ bs b = bs (a ++ b) := by
 apply ByteArray.ext
 simp [bs]
/-- - -/
def ixB (b : UInt8) : List UInt8 → Option Nat
 | [] => none
 | x :: l => if x = b then some 0 else (ixB b l).map (· + 1)
theorem find_ix (b : UInt8) : ∀ (l : List UInt8), (List.range l.length).find? (fun i => l.getD i 0 == b) = ixB b l
 | [] => rfl
 | x :: l => by
  rw [List.length_cons, List.range_succ_eq_map, List.find?_cons]
  simp only [List.getD_cons_zero, ixB]
  by_cases h : x = b
  ·simp [h]
  ·have h' : (x == b) = false := by simpa using h
   rw [h', if_neg h, List.find?_map]
   have := find_ix b l
   have e : ((fun i => (x :: l).getD i 0 == b) ∘ Nat.succ) = fun i => l.getD i 0 == b := by funext i; simp
   rw [e, this]
theorem bs_get (l : List UInt8) (i : Nat) : (bs l)[i]! = l.getD i 0 := by
 by_cases h : i < l.length
 ·have h' : i < (bs l).size := by rw [bs_size]; exact h
  rw [getElem!_pos (bs l) i h', List.getD_eq_getElem?_getD, List.getElem?_eq_getElem h]
  show (bs l).data[i] = _
  simp [bs]
 ·have h' : ¬ i < (bs l).size := by rw [bs_size]; exact h
  rw [getElem!_neg (bs l) i h', List.getD_eq_getElem?_getD, List.getElem?_eq_none (by omega)]
  rfl
def ixI (b : UInt8) (l : List UInt8) : Int := match ixB b l with
 | some i => i
 | none => -1
theorem idx_bs (l : List UInt8) (c : Int) : idxByte (bs l) c = ixI c.toNat.toUInt8 l := by
 unfold idxByte ixI
 have : (fun i => (bs l)[i]! == c.toNat.toUInt8) = fun i => l.getD i 0 == c.toNat.toUInt8 := by funext i; rw [bs_get]
 rw [this, bs_size, find_ix]
 cases ixB c.toNat.toUInt8 l <;> rfl
theorem ixB_lt {b : UInt8} : ∀ {l : List UInt8} {i : Nat}, ixB b l = some i → i < l.length ∧ l.getD i 0 = b ∧ b ∉ l.take i
 | [], _, h => by cases h
 | x :: l, i, h => by
  simp only [ixB] at h
  split at h
  ·cases h; rename_i hx; exact ⟨by simp, by simpa using hx, by simp⟩
  ·rename_i hx
   simp only [Option.map_eq_some_iff] at h
   obtain ⟨j, hj, rfl⟩ := h
   obtain ⟨h1, h2, h3⟩ := ixB_lt hj
   refine ⟨by simp; omega, by simpa using h2, ?_⟩
   simp only [List.take_succ_cons, List.mem_cons, not_or]
   exact ⟨fun e => hx e.symm, h3⟩
theorem ixB_none {b : UInt8} : ∀ {l : List UInt8}, ixB b l = none ↔ b ∉ l
 | [] => by simp [ixB]
 | x :: l => by
  simp only [ixB]
  split
  ·rename_i h; simp [h]
  ·rename_i h
   simp only [Option.map_eq_none_iff, List.mem_cons, not_or]
   rw [ixB_none]
   exact ⟨fun e => ⟨fun e2 => h e2.symm, e⟩, fun e => e.2⟩
theorem ixI_nn {b : UInt8} {l : List UInt8} : 0 ≤ ixI b l ↔ b ∈ l := by
 unfold ixI
 cases h : ixB b l with
 | none => simp; exact ixB_none.1 h
 | some i =>
  obtain ⟨h1, h2, _⟩ := ixB_lt h
  simp only [Int.natCast_nonneg, true_iff]
  rw [← h2, List.getD_eq_getElem?_getD, List.getElem?_eq_getElem h1]
  exact List.getElem_mem h1
theorem lT {x y : List UInt8} (h : x = y) {α : Type} {a b : α} : (bif x == y then a else b) = a := by simp [h]
theorem lF {x y : List UInt8} (h : ¬ x = y) {α : Type} {a b : α} : (bif x == y then a else b) = b := by
 rw [beq_false_of_ne h]; rfl
theorem lnT {x y : List UInt8} (h : ¬ x = y) {α : Type} {a b : α} : (bif !(x == y) then a else b) = a := by
 rw [beq_false_of_ne h]; rfl
theorem lnF {x y : List UInt8} (h : x = y) {α : Type} {a b : α} : (bif !(x == y) then a else b) = b := by simp [h]
end Go.Proofs.YtgpdmhkakbaoeaaDoor.Med
end
section
set_option linter.unusedVariables false
set_option linter.unusedSimpArgs false
set_option linter.unusedSectionVars false
namespace Go.Proofs.YtgpdmhkakbaoeaaDoor.Med
open Go Go.Abs Go.Proofs
set_option linter.unusedVariables false
set_option linter.unusedSimpArgs false
/-! the order of strings -/
theorem bytesLess_dec : ∀ (x y : List UInt8), Op.bytesLess x y = decide (x < y)
 | [], [] => by simp [Op.bytesLess]
 | _ :: _, [] => by simp [Op.bytesLess]
 | [], _ :: _ => by simp [Op.bytesLess]
 | a :: x, b :: y => by
  rw [Op.bytesLess, bytesLess_dec x y]
  simp only [List.cons_lt_cons_iff]
  by_cases h1 : a < b <;> by_cases h2 : a = b <;> by_cases h3 : x < y <;> simp [h1, h2, h3]
def cmS (a b : List UInt8) : Int := Lib.compareBytes a b
theorem cmpB_bs (a b : List UInt8) : cmpB (bs a) (bs b) = cmS a b := rfl
theorem u8_irr (a : UInt8) : ¬ a < a := UInt8.lt_irrefl a
theorem cmS_lt : ∀ (a b : List UInt8), cmS a b < 0 ↔ a < b
 | [], [] => by simp [cmS, Lib.compareBytes]
 | _ :: _, [] => by simp [cmS, Lib.compareBytes]
 | [], _ :: _ => by simp [cmS, Lib.compareBytes]
 | a :: x, b :: y => by
  have ih := cmS_lt x y
  unfold cmS at ih ⊢
  rw [Lib.compareBytes, List.cons_lt_cons_iff]
  by_cases h1 : a < b
  ·simp [h1]
  ·by_cases h2 : b < a
   ·have h3 : a ≠ b := fun e => u8_irr b (e ▸ h2)
    simp [h1, h2, h3]
   ·have h3 : a = b := UInt8.le_antisymm (UInt8.not_lt.1 h2) (UInt8.not_lt.1 h1)
    simp [h1, h2, h3, ih]
theorem cmS_eq : ∀ (a b : List UInt8), cmS a b = 0 ↔ a = b
 | [], [] => by simp [cmS, Lib.compareBytes]
 | _ :: _, [] => by simp [cmS, Lib.compareBytes]
 | [], _ :: _ => by simp [cmS, Lib.compareBytes]
 | a :: x, b :: y => by
  have ih := cmS_eq x y
  unfold cmS at ih ⊢
  rw [Lib.compareBytes, List.cons.injEq]
  by_cases h1 : a < b
  ·have h3 : a ≠ b := fun e => u8_irr b (e ▸ h1)
   simp [h1, h3]
  ·by_cases h2 : b < a
   ·have h3 : a ≠ b := fun e => u8_irr b (e ▸ h2)
    simp [h1, h2, h3]
   ·have h3 : a = b := UInt8.le_antisymm (UInt8.not_lt.1 h2) (UInt8.not_lt.1 h1)
    simp [h1, h2, h3, ih]
theorem lt_irr (a : List UInt8) : ¬ a < a := List.lt_irrefl a
theorem lt_tr {a b c : List UInt8} (h : a < b) (h2 : b < c) : a < c := List.lt_trans h h2
theorem lt_tri (a b : List UInt8) : a < b ∨ a = b ∨ b < a := by
 rcases Int.lt_trichotomy (cmS a b) 0 with h | h | h
 ·exact .inl ((cmS_lt a b).1 h)
 ·exact .inr (.inl ((cmS_eq a b).1 h))
 ·by_cases c : b < a
  ·exact .inr (.inr c)
  ·exact .inl (by
    have := List.not_lt.1 c
    rcases List.le_iff_lt_or_eq.1 this with h1 | h1
    ·exact h1
    ·subst h1; rw [(cmS_eq a a).2 rfl] at h; omega)
/-! the first fault of a loop -/
def fstE (f : Nat → Int) : Nat → Nat → Int
 | 0, _ => 0
 | d + 1, i => if f i = 0 then fstE f d (i + 1) else f i
theorem fstE_z {f : Nat → Int} : ∀ {d i : Nat}, fstE f d i = 0 → ∀ j, i ≤ j → j < i + d → f j = 0
 | 0, i, _, j, h1, h2 => by omega
 | d + 1, i, h, j, h1, h2 => by
  rw [fstE] at h
  split at h
  ·rename_i c
   by_cases e : j = i
   ·subst e; exact c
   ·exact fstE_z h j (by omega) (by omega)
  ·rename_i c; exact (c h).elim
end Go.Proofs.YtgpdmhkakbaoeaaDoor.Med
end
section
set_option linter.unusedVariables false
set_option linter.unusedSimpArgs false
set_option linter.unusedSectionVars false
namespace Go.Proofs.YtgpdmhkakbaoeaaDoor.Med
open Go Go.Abs Go.Proofs
set_option linter.unusedVariables false
set_option linter.unusedSimpArgs false
theorem gn45 (m : Nat) {x y : Int} (hy : 1 ≤ y) (hy2 : y ≤ 1099511627776) {R : Type} {k : Int → Option R} : Fn45 (m + 1) x y k = k (x % y) := by
 have h2 : Int.tmod x y = x % y ∨ (Int.tmod x y + y = x % y ∧ Int.tmod x y < 0 ∧ -y < Int.tmod x y) := by
  by_cases h : 0 ≤ x
  ·exact .inl (Int.tmod_eq_emod_of_nonneg h)
  ·have h3 := Int.tmod_eq_emod (a := x) (b := y)
   have h4 := Int.emod_nonneg x (show y ≠ 0 by omega)
   have h5 := Int.emod_lt_of_pos x (show 0 < y by omega)
   by_cases hd : y ∣ x
   ·left; rw [h3]; simp [hd]
   ·right
    have h6 : Int.tmod x y = x % y - y := by
     rw [h3, if_neg (by simp; exact ⟨by omega, hd⟩)]
     omega
    have h7 : x % y ≠ 0 := fun h => hd (Int.dvd_of_emod_eq_zero h)
    omega
 have h4 := Int.emod_nonneg x (show y ≠ 0 by omega)
 simp only [Fn45]
 rw [dF (by omega), dT (by omega)]
 rcases h2 with h2 | ⟨h2, h3, h5⟩
 ·rw [dF (by omega), h2]
 ·rw [dT h3, w64 (by omega) (by omega), h2]
def nx (r : Abs.Rows) (i : Int) : Int := if (r.length : Int) = 0 then IntKind.wrap .i64 ((i + 1) * 7919) else
 IntKind.wrap IntKind.i64 (fI r (Int.toNat (Int.tmod i (r.length : Int))) 0 % 1073741824 + IntKind.wrap IntKind.i64 (IntKind.wrap IntKind.i64 (Int.tdiv i (r.length : Int)) * IntKind.wrap IntKind.i64 (7919 + Int.tmod i (r.length : Int))))
theorem gn23 (m : Nat) (r : Abs.Rows) {i n : Int} (h0 : 0 ≤ i) (h1 : i ≤ 1099511627776) (hn : 1 ≤ n) (hn2 : n ≤ 1099511627776) {R : Type} {k : Int → Int → Option R} :
  Fn23 (m + 2) r i n k = k (nx r i % n) (i + 1) := by
 have e1 : IntKind.wrap .i64 (i + 1) = i + 1 := w64 (by omega) (by omega)
 have e2 : IntKind.wrap .i64 (i + 1 - 1) = i := by rw [show i + 1 - 1 = i by omega]; exact w64 (by omega) (by omega)
 by_cases hr : (r.length : Int) = 0
 ·simp only [Fn23, e1, nx, hr, if_true]
  rw [eT rfl, gn45 m hn hn2]
 ·have hm1 : 0 ≤ Int.tmod i (r.length : Int) := Int.tmod_nonneg _ h0
  have hm2 : Int.tmod i (r.length : Int) < (r.length : Int) := Int.tmod_lt_of_pos _ (by omega)
  simp only [Fn23, e1, e2, nx, if_neg hr]
  rw [eF hr, dT hr, dT hr, dT ⟨hm1, hm2⟩, gn45 m (by omega) (by omega), gn45 m hn hn2]
  try rfl
theorem gn22 (m : Nat) (r : Abs.Rows) {i n : Int} (h0 : 0 ≤ i) (h1 : i ≤ 1099511627776) (hn : 1 ≤ n) (hn2 : n ≤ 1099511627776) {R : Type} {k : Bool → Int → Option R} :
  Fn22 (m + 3) r i n k = k (nx r i % n == 0) (i + 1) := by
 simp only [Fn22]
 rw [gn23 m r h0 h1 hn hn2]
/-- - -/
def pk (rows q : Abs.Rows) (i : Int) : Int := fI rows (nx q i % (rows.length : Int)).toNat 0
theorem gn7 (m : Nat) (r : Abs.Rows) {i : Int} (rows : Abs.Rows) (h0 : 0 ≤ i) (h1 : i ≤ 1099511627776) (hn : 1 ≤ (rows.length : Int)) (hn2 : (rows.length : Int) ≤ 1099511627776) {R : Type} {k : Int → Int → Option R} :
  Fn7 (m + 3) r i rows k = k (pk rows r i) (i + 1) := by
 have h4 := Int.emod_nonneg (nx r i) (show (rows.length : Int) ≠ 0 by omega)
 have h5 := Int.emod_lt_of_pos (nx r i) (show 0 < (rows.length : Int) by omega)
 simp only [Fn7]
 rw [gn23 m r h0 h1 hn hn2, dT ⟨h4, h5⟩]
 rfl
/-- - -/
theorem pk_all {P : Int → Prop} (rows q : Abs.Rows) (i : Int) (h0 : 0 < rows.length) (h : ∀ j, j < rows.length → P (fI rows j 0)) : P (pk rows q i) := by
 have h4 := Int.emod_nonneg (nx q i) (show (rows.length : Int) ≠ 0 by omega)
 have h5 := Int.emod_lt_of_pos (nx q i) (show 0 < (rows.length : Int) by omega)
 exact h _ (by omega)
theorem gn46 (m : Nat) (r : Abs.Rows) {i lo hi : Int} (h0 : 0 ≤ i) (h1 : i ≤ 1099511627776) (hl : -500000000000 ≤ lo) (hh : hi ≤ 500000000000) (hlh : lo ≤ hi) {R : Type} {k : Int → Int → Option R} :
  Fn46 (m + 3) r i lo hi k = k (lo + nx r i % (hi - lo + 1)) (i + 1) := by
 have h4 := Int.emod_nonneg (nx r i) (show hi - lo + 1 ≠ 0 by omega)
 have h5 := Int.emod_lt_of_pos (nx r i) (show 0 < hi - lo + 1 by omega)
 simp only [Fn46]
 rw [dF (by omega), w64 (x := hi - lo) (by omega) (by omega), w64 (x := hi - lo + 1) (by omega) (by omega), gn23 m r h0 h1 (by omega) (by omega), w64 (by omega) (by omega)]
/-- - -/
def pkS (rows q : Abs.Rows) (i : Int) : ByteArray := fS rows (nx q i % (rows.length : Int)).toNat 0
theorem gn24 (m : Nat) (r : Abs.Rows) {i : Int} (rows : Abs.Rows) (h0 : 0 ≤ i) (h1 : i ≤ 1099511627776) (hn : 1 ≤ (rows.length : Int)) (hn2 : (rows.length : Int) ≤ 1099511627776) {R : Type} {k : ByteArray → Int → Option R} :
  Fn24 (m + 3) r i rows k = k (pkS rows r i) (i + 1) := by
 have h4 := Int.emod_nonneg (nx r i) (show (rows.length : Int) ≠ 0 by omega)
 have h5 := Int.emod_lt_of_pos (nx r i) (show 0 < (rows.length : Int) by omega)
 simp only [Fn24]
 rw [gn23 m r h0 h1 hn hn2, dT ⟨h4, h5⟩]
 rfl
theorem pkS_all {P : ByteArray → Prop} (rows q : Abs.Rows) (i : Int) (h0 : 0 < rows.length) (h : ∀ j, j < rows.length → P (fS rows j 0)) : P (pkS rows q i) := by
 have h4 := Int.emod_nonneg (nx q i) (show (rows.length : Int) ≠ 0 by omega)
 have h5 := Int.emod_lt_of_pos (nx q i) (show 0 < (rows.length : Int) by omega)
 exact h _ (by omega)
/-- - -/
theorem gn25 (m : Nat) (r : Abs.Rows) {i lo hi : Int} (h0 : 0 ≤ i) (h1 : i ≤ 1000000) (hl : -500000000 ≤ lo) (hh : hi ≤ 500000000) (hlh : lo ≤ hi) :
  ∃ (v i' : Int), i ≤ i' ∧ i' ≤ i + 2 ∧ ∀ (R : Type) (k : Int → Int → Option R), Fn25 (m + 4) r i lo hi k = k v i' := by
 by_cases c : nx r i % 12 = 0
 ·apply Exists.intro
  refine ⟨i + 1 + 1, by omega, by omega, fun R k => ?_⟩
  simp only [Fn25]
  rw [gn22 m r h0 (by omega) (by omega) (by omega), eT c, gn7 m r _ (by omega) (by omega) (by simp) (by simp)]
 ·apply Exists.intro
  refine ⟨i + 1 + 1, by omega, by omega, fun R k => ?_⟩
  simp only [Fn25]
  rw [gn22 m r h0 (by omega) (by omega) (by omega), eF c, gn46 m r (by omega) (by omega) (by omega) (by omega) hlh]
end Go.Proofs.YtgpdmhkakbaoeaaDoor.Med
end
section
set_option linter.unusedVariables false
set_option linter.unusedSimpArgs false
set_option linter.unusedSectionVars false
namespace Go.Proofs.YtgpdmhkakbaoeaaDoor.Med
open Go Go.Abs Go.Proofs
set_option linter.unusedVariables false
set_option linter.unusedSimpArgs false
/-! what strings are: prefixes, keys, numbers -/
def D10 : List UInt8 := [48, 49, 50, 51, 52, 53, 54, 55, 56, 57]
def S26 : List UInt8 := [97, 98, 99, 100, 101, 102, 103, 104, 105, 106, 107, 108, 109, 110, 111, 112, 113, 114, 115, 116, 117, 118, 119, 120, 121, 122]
def K38 : List UInt8 := [97, 98, 99, 100, 101, 102, 103, 104, 105, 106, 107, 108, 109, 110, 111, 112, 113, 114, 115, 116, 117, 118, 119, 120, 121, 122, 48, 49, 50, 51, 52, 53, 54, 55, 56, 57, 45, 95]
abbrev ls (s : ByteArray) : List UInt8 := s.data.toList
theorem ls_bs (l : List UInt8) : ls (bs l) = l := by simp [ls, bs]
theorem mem_dropW {b : UInt8} {p : UInt8 → Bool} (hb : p b = false) : ∀ (l : List UInt8), b ∈ l → b ∈ l.dropWhile p
 | [], h => by cases h
 | a :: l, h => by
  rw [List.dropWhile_cons]
  by_cases c : p a = true
  ·rw [if_pos c]
   rcases List.mem_cons.1 h with rfl | h
   ·rw [hb] at c; cases c
   ·exact mem_dropW hb l h
  ·rw [if_neg c]; exact h
theorem dropW_all {p : UInt8 → Bool} : ∀ (l : List UInt8), (∀ b ∈ l, p b = true) → l.dropWhile p = []
 | [], _ => rfl
 | a :: l, h => by
  rw [List.dropWhile_cons, if_pos (h a (by simp))]
  exact dropW_all l fun b hb => h b (by simp [hb])
theorem trim_nil (s cs : List UInt8) : Lib.trimS s cs = [] ↔ ∀ b ∈ s, b ∈ cs := by
 unfold Lib.trimS Lib.trimLeftS Lib.trimRightS
 constructor
 ·intro h b hb
  by_cases c : b ∈ cs
  ·exact c
  ·exfalso
   have hp : (fun x => cs.contains x) b = false := by simpa using c
   have h1 : b ∈ (s.reverse.dropWhile fun x => cs.contains x).reverse := List.mem_reverse.2 (mem_dropW hp _ (List.mem_reverse.2 hb))
   have h2 := mem_dropW hp _ h1
   rw [h] at h2
   cases h2
 ·intro h
  rw [dropW_all s.reverse fun b hb => by simpa using h b (List.mem_reverse.1 hb)]
  rfl
theorem trim_eq (s cs : List UInt8) : ((trimB (bs s) (bs cs)).toList == (bs []).toList) = s.all fun b => decide (b ∈ cs) := by
 show ((bs (Lib.trimS s cs)).toList == (bs []).toList) = _
 rw [bs_toList, bs_toList, Bool.eq_iff_iff]
 simp only [beq_iff_eq, trim_nil, List.all_eq_true, decide_eq_true_eq]
theorem trim_ok (s cs : List UInt8) (hs : s.length ≤ 1000) (hc : cs.length ≤ 1000) (hb : (cs.all fun b => decide (b.toNat < 128)) = true) : trimOk (bs s) (bs cs) = true := by
 unfold trimOk
 rw [bs_size, bs_size, decide_eq_true (by omega), decide_eq_true (by omega)]
 exact hb
def keyB (l : List UInt8) : Bool := decide (1 ≤ l.length) && (decide (l.length ≤ 40) && (decide (97 ≤ (l.getD 0 0).toNat) && (decide ((l.getD 0 0).toNat ≤ 122) && l.all fun b => decide (b ∈ K38))))
theorem fn28 (m : Nat) (l : List UInt8) {R : Type} (k : Bool → Option R) : Fn28 (m + 1) (bs l) k = k (keyB l) := by
 simp only [Fn28, bs_size, bs_at, arr_at]
 unfold keyB
 by_cases h1 : 1 ≤ l.length
 ·rw [dT (by omega), decide_eq_true h1, Bool.true_and]
  by_cases h2 : l.length ≤ 40
  ·rw [dT (by omega), decide_eq_true h2, Bool.true_and, dT (by omega)]
   have e0 : Int.toNat 0 = 0 := rfl
   simp only [e0]
   by_cases h3 : 97 ≤ (l.getD 0 0).toNat
   ·rw [dT (by omega), decide_eq_true h3, Bool.true_and, dT (by omega)]
    by_cases h4 : (l.getD 0 0).toNat ≤ 122
    ·rw [dT (by omega), decide_eq_true h4, Bool.true_and]
     refine Eq.trans (bT (trim_ok l K38 (by omega) (by decide) (by decide))) ?_
     congr 1
     exact trim_eq l K38
    ·rw [dF (by omega), decide_eq_false h4, Bool.false_and]
   ·rw [dF (by omega), decide_eq_false h3, Bool.false_and]
  ·rw [dF (by omega), decide_eq_false h2, Bool.false_and]
 ·rw [dF (by omega), decide_eq_false h1, Bool.false_and]
theorem fn34 (m : Nat) (x lo hi : Int) {R : Type} (k : Bool → Option R) : Fn34 (m + 1) x lo hi k = k (decide (lo ≤ x ∧ x ≤ hi)) := by
 simp only [Fn34]
 by_cases h1 : lo ≤ x
 ·rw [dT h1]; congr 1; simp [h1]
 ·rw [dF h1]; congr 1; simp [h1]
theorem fn31 (m : Nat) (x lo hi : Int) {R : Type} (k : Bool → Option R) : Fn31 (m + 1) x lo hi k = k (decide (lo ≤ x ∧ x ≤ hi)) := by
 simp only [Fn31]
 by_cases h1 : lo ≤ x
 ·rw [dT h1]; congr 1; simp [h1]
 ·rw [dF h1]; congr 1; simp [h1]
theorem fn59 (m : Nat) (l : List UInt8) (c : Int) {R : Type} (k : Int → Option R) : Fn59 (m + 2) (bs l) c k = k (ixI c.toNat.toUInt8 l) := by
 simp only [Fn59, Fn64, idx_bs]
theorem lp48 (m : Nat) (s cs : List UInt8) {R : Type} (k : Bool → Option R) (z : Bool) : ∀ (d n i : Nat), i + d = s.length → d < n → s.length ≤ 100000 →
  Lp48_2 (m + 2) (fun b _ => k b) (fun _ => k true) (bs s) (bs cs) z s.length n i = k ((s.drop i).all fun b => decide (b ∈ cs))
 | _, 0, _, _, h, _ => by omega
 | 0, n + 1, i, h1, h2, h3 => by
  have hi : i = s.length := by omega
  rw [Lp48_2]
  simp only [Lp48_2_step]
  rw [dF (by omega), hi, List.drop_length]
  rfl
 | d + 1, n + 1, i, h1, h2, h3 => by
  have e1 : IntKind.wrap .i64 ((i : Int) + 1) = ((i + 1 : Nat) : Int) := by rw [w64 (by omega) (by omega)]; omega
  have hd : s.drop i = s.getD i 0 :: s.drop (i + 1) := by
   rw [List.drop_eq_getElem_cons (by omega), List.getD_eq_getElem?_getD, List.getElem?_eq_getElem (by omega)]
   rfl
  rw [Lp48_2]
  simp only [Lp48_2_step, bs_size, bs_at, arr_at, e1, show Int.toNat (i : Int) = i by omega]
  rw [dT (by omega), dT (by omega)]
  refine Eq.trans (fn59 m cs ((s.getD i 0).toNat : Int) _) ?_
  have hcc : ((s.getD i 0).toNat : Int).toNat.toUInt8 = s.getD i 0 := by simp
  rw [hcc, hd, List.all_cons]
  by_cases c : s.getD i 0 ∈ cs
  ·have := ixI_nn.2 c
   rw [dF (by omega), decide_eq_true c, Bool.true_and]
   exact lp48 m s cs k z d n (i + 1) (by omega) (by omega) h3
  ·have : ¬ 0 ≤ ixI (s.getD i 0) cs := fun h => c (ixI_nn.1 h)
   rw [dT (by omega), decide_eq_false c]
   rfl
theorem fn48 (m : Nat) (s cs : List UInt8) (hs : s.length ≤ 100) (hm : 100 ≤ m) {R : Type} (k : Bool → Option R) : Fn48 (m + 3) (bs s) (bs cs) k = k (s.all fun b => decide (b ∈ cs)) := by
 simp only [Fn48, bs_size]
 exact lp48 m s cs k false s.length (m + 2) 0 (by omega) (by omega) (by omega)
theorem s26 : ((List.range 256).all fun n => decide (n.toUInt8 ∈ S26) == (decide (97 ≤ n) && decide (n ≤ 122))) = true := by kernel_rfl
theorem s26' (b : UInt8) : b ∈ S26 ↔ 97 ≤ b.toNat ∧ b.toNat ≤ 122 := by
 have h := List.all_eq_true.1 s26 b.toNat (List.mem_range.2 b.toNat_lt)
 have e : b.toNat.toUInt8 = b := by simp
 rw [e] at h
 have h := eq_of_beq h
 rw [← Bool.decide_and] at h
 exact decide_eq_decide.1 h
theorem fn30 (m : Nat) (hm : 100 ≤ m) (l : List UInt8) {R : Type} (k : Bool → Option R) : Fn30 (m + 4) (bs l) k = k (keyB l) := by
 simp only [Fn30, bs_size]
 refine Eq.trans (fn31 (m + 2) _ _ _ _) ?_
 unfold keyB
 by_cases h : 1 ≤ l.length ∧ l.length ≤ 40
 ·rw [decide_eq_true (show (1 : Int) ≤ (l.length : Int) ∧ (l.length : Int) ≤ 40 by omega), decide_eq_true h.1, decide_eq_true h.2, Bool.true_and, Bool.true_and]
  refine Eq.trans (bT rfl) ?_
  rw [dT (by omega)]
  have ht : (bs l).extract 0 (Int.toNat 1) = bs [l.getD 0 0] := by
   rw [bs_ext]
   cases l with
   | nil => simp at h
   | cons a t => rfl
  rw [ht]
  refine Eq.trans (fn48 m [l.getD 0 0] S26 (by simp) hm _) ?_
  have e1 : ([l.getD 0 0].all fun b => decide (b ∈ S26)) = (decide (97 ≤ (l.getD 0 0).toNat) && decide ((l.getD 0 0).toNat ≤ 122)) := by
   rw [List.all_cons, List.all_nil, Bool.and_true, ← Bool.decide_and]
   exact decide_eq_decide.2 (s26' _)
  rw [e1]
  cases h3 : decide (97 ≤ (l.getD 0 0).toNat) with
  | false => rfl
  | true =>
   cases h4 : decide ((l.getD 0 0).toNat ≤ 122) with
   | false => rfl
   | true =>
    refine Eq.trans (bT rfl) ?_
    exact fn48 m l K38 (by omega) hm k
 ·rw [decide_eq_false (show ¬ ((1 : Int) ≤ (l.length : Int) ∧ (l.length : Int) ≤ 40) by omega)]
  refine Eq.trans (bF rfl) ?_
  by_cases h1 : 1 ≤ l.length
  ·rw [decide_eq_true h1, decide_eq_false (show ¬ l.length ≤ 40 by omega)]; rfl
  ·rw [decide_eq_false h1]; rfl
/-! the first fault -/
def ei (l : List Int) : Abs.Rows := l.map fun x => [F.lit (.int .i64 x)]
def nz : List Int → Int
 | [] => 0
 | x :: l => if x ≠ 0 then x else nz l
theorem ei_len (l : List Int) : (ei l).length = l.length := by simp [ei]
theorem ei_fI (l : List Int) (i : Nat) (h : i < l.length) : fI (ei l) i 0 = l.getD i 0 := by
 simp [fI, dropF, Abs.rowAt, List.getD_eq_getElem?_getD, ei, h, F.toInt]
theorem lp15 (m : Nat) (l : List Int) (hl : l.length ≤ 1000) {R : Type} (k : Int → Option R) (a : Abs.Rows) (z : Int) : ∀ (d n i : Nat), i + d = l.length → d < n →
  Lp15_2 m (fun x _ => k x) (fun _ => k 0) a z (ei l) l.length n i = k (nz (l.drop i))
 | _, 0, _, _, h => by omega
 | 0, n + 1, i, h1, h2 => by
  rw [Lp15_2]
  simp only [Lp15_2_step]
  rw [dF (by omega), show i = l.length by omega, List.drop_length]
  rfl
 | d + 1, n + 1, i, h1, h2 => by
  have e1 : IntKind.wrap .i64 ((i : Int) + 1) = ((i + 1 : Nat) : Int) := by rw [w64 (by omega) (by omega)]; omega
  have hd : l.drop i = l.getD i 0 :: l.drop (i + 1) := by
   rw [List.drop_eq_getElem_cons (by omega), List.getD_eq_getElem?_getD, List.getElem?_eq_getElem (by omega)]
   rfl
  rw [Lp15_2]
  simp only [Lp15_2_step, ei_len, e1, show Int.toNat (i : Int) = i by omega]
  rw [dT (by omega), dT (by omega), ei_fI l i (by omega), hd, nz]
  by_cases c : l.getD i 0 = 0
  ·rw [nF c, if_neg (by simpa using c)]
   exact lp15 m l hl k a z d n (i + 1) (by omega) (by omega)
  ·rw [nT c, if_pos c]
theorem fn15 (m : Nat) (l : List Int) (hl : l.length ≤ 50) (hm : 51 ≤ m) {R : Type} (k : Int → Option R) : Fn15 (m + 1) (ei l) k = k (nz l) := by
 simp only [Fn15, ei_len]
 exact lp15 m l (by omega) k (ei l) 0 l.length m 0 (by omega) (by omega)
theorem fn39 (m : Nat) (b : Bool) (e : Int) {R : Type} (k : Int → Option R) : Fn39 (m + 1) b e k = k (if b = true then e else 0) := by
 simp only [Fn39]
 cases b <;> rfl
end Go.Proofs.YtgpdmhkakbaoeaaDoor.Med
end
section
set_option linter.unusedVariables false
set_option linter.unusedSimpArgs false
set_option linter.unusedSectionVars false
namespace Go.Proofs.YtgpdmhkakbaoeaaDoor.Med
open Go Go.Abs Go.Proofs
set_option linter.unusedVariables false
set_option linter.unusedSimpArgs false
/-! agents: are they right -/
theorem fn28b (m : Nat) (s : ByteArray) {R : Type} (k : Bool → Option R) : Fn28 (m + 1) s k = k (keyB (ls s)) := (congrArg (fun x => Fn28 (m + 1) x k) (bs_of s)).trans (fn28 m (ls s) k)
theorem fn30b (m : Nat) (hm : 100 ≤ m) (s : ByteArray) {R : Type} (k : Bool → Option R) : Fn30 (m + 4) s k = k (keyB (ls s)) := (congrArg (fun x => Fn30 (m + 4) x k) (bs_of s)).trans (fn30 m hm (ls s) k)
def ordB (a b : ByteArray) : Bool := Op.bytesLess a.toList b.toList || a.toList == b.toList
theorem wM1 {i : Nat} (h : 0 < i) (h2 : i ≤ 1000000) : IntKind.wrap .i64 ((i : Int) - 1) = ((i - 1 : Nat) : Int) := by rw [w64 (by omega) (by omega)]; omega
theorem wP1 {i : Nat} (h2 : i ≤ 1000000) : IntKind.wrap .i64 ((i : Int) + 1) = ((i + 1 : Nat) : Int) := by rw [w64 (by omega) (by omega)]; omega
theorem tN (i : Nat) : Int.toNat (i : Int) = i := by omega
def skF (s : Abs.Rows) (i : Nat) : Int := if keyB (ls (fS s i 0)) = false then 5 else if ¬ (1 ≤ fI s i 1 ∧ fI s i 1 ≤ 9) then 1 else if 0 < i ∧ ordB (fS s i 0) (fS s (i - 1) 0) = true then 7 else 0
def paF (p : Abs.Rows) (i : Nat) : Int := if fI p i 0 < 0 ∨ fI p i 0 ≥ fI p i 1 ∨ fI p i 1 > 345686400000 then 1 else if 0 < i ∧ fI p i 0 < fI p (i - 1) 1 then 7 else 0
def tiF (f t : Int) (pa : Abs.Rows) (w : Int) : Int := if f < 0 ∨ f > t ∨ t > 345686400000 then 1 else if 50 < pa.length then 2 else if fstE (paF pa) pa.length 0 ≠ 0 then fstE (paF pa) pa.length 0 else if ¬ (0 ≤ w ∧ w ≤ 86400000) then 1 else 0
def agF (sk : Abs.Rows) (f t : Int) (pa : Abs.Rows) (w : Int) : Int := if 10 < sk.length then 2 else if fstE (skF sk) sk.length 0 ≠ 0 then fstE (skF sk) sk.length 0 else tiF f t pa w
section
variable {R : Type} (K : Int → Option R) (kx1 : Int → Option R)
theorem lp29a (m : Nat) (s0 : ByteArray) (r : Abs.Rows) (hl : r.length ≤ 100000) (a b : Int) (r4 : Abs.Rows) (c e : Int) : ∀ (d n i : Nat), i + d = r.length → d < n →
  Lp29_5 (m + 1) (fun e _ => K e) kx1 s0 r a b r4 c e r r.length n i = if fstE (skF r) d i = 0 then kx1 r.length else K (fstE (skF r) d i)
 | _, 0, _, _, h => by omega
 | 0, n + 1, i, h1, h2 => by
  rw [Lp29_5]
  simp only [Lp29_5_step]
  rw [dF (by omega), show i = r.length by omega]
  rfl
 | d + 1, n + 1, i, h1, h2 => by
  have ih := lp29a m s0 r hl a b r4 c e d n (i + 1) (by omega) (by omega)
  rw [Lp29_5]
  simp only [Lp29_5_step, wP1 (show i ≤ 1000000 by omega), tN, fn28b, fn34, fstE, skF, ih, ordB, Bool.cond_eq_ite]
  by_cases h : 0 < i
  ·simp only [wM1 h (show i ≤ 1000000 by omega), tN]
   grind (splits := 40)
  ·grind (splits := 40)
theorem lp29b (m : Nat) (s0 : ByteArray) (r1 r : Abs.Rows) (hl : r.length ≤ 100000) (a b c e : Int) : ∀ (d n i : Nat), i + d = r.length → d < n →
  Lp29_24 m (fun e _ => K e) kx1 s0 r1 a b r c e r r.length n i = if fstE (paF r) d i = 0 then kx1 r.length else K (fstE (paF r) d i)
 | _, 0, _, _, h => by omega
 | 0, n + 1, i, h1, h2 => by
  rw [Lp29_24]
  simp only [Lp29_24_step]
  rw [dF (by omega), show i = r.length by omega]
  rfl
 | d + 1, n + 1, i, h1, h2 => by
  have ih := lp29b m s0 r1 r hl a b c e d n (i + 1) (by omega) (by omega)
  rw [Lp29_24]
  simp only [Lp29_24_step, Jn29_30, wP1 (show i ≤ 1000000 by omega), tN, fstE, paF, ih, Bool.cond_eq_ite]
  by_cases h : 0 < i
  ·simp only [wM1 h (show i ≤ 1000000 by omega), tN]
   grind (splits := 40)
  ·grind (splits := 40)
theorem lp32 (m : Nat) (s0 : ByteArray) (r1 r : Abs.Rows) (hl : r.length ≤ 100000) (a b c e : Int) : ∀ (d n i : Nat), i + d = r.length → d < n →
  Lp32_7 m (fun e _ => K e) kx1 s0 r1 a b r c e r r.length n i = if fstE (paF r) d i = 0 then kx1 r.length else K (fstE (paF r) d i)
 | _, 0, _, _, h => by omega
 | 0, n + 1, i, h1, h2 => by
  rw [Lp32_7]
  simp only [Lp32_7_step]
  rw [dF (by omega), show i = r.length by omega]
  rfl
 | d + 1, n + 1, i, h1, h2 => by
  have ih := lp32 m s0 r1 r hl a b c e d n (i + 1) (by omega) (by omega)
  rw [Lp32_7]
  simp only [Lp32_7_step, Jn32_13, wP1 (show i ≤ 1000000 by omega), tN, fstE, paF, ih, Bool.cond_eq_ite]
  by_cases h : 0 < i
  ·simp only [wM1 h (show i ≤ 1000000 by omega), tN]
   grind (splits := 40)
  ·grind (splits := 40)
theorem lp9s (m : Nat) (hm : 100 ≤ m) (r0 : Abs.Rows) (a : Int) (s2 s3 : ByteArray) (r : Abs.Rows) (hl : r.length ≤ 100000) (b c : Int) (r7 : Abs.Rows) (e : Int) (r9 : Abs.Rows) (f g : Int) : ∀ (d n i : Nat), i + d = r.length → d < n →
  Lp9_19 (m + 4) (fun e _ => K e) kx1 r0 a s2 s3 r b c r7 e r9 f g r r.length n i = if fstE (skF r) d i = 0 then kx1 r.length else K (fstE (skF r) d i)
 | _, 0, _, _, h => by omega
 | 0, n + 1, i, h1, h2 => by
  rw [Lp9_19]
  simp only [Lp9_19_step]
  rw [dF (by omega), show i = r.length by omega]
  rfl
 | d + 1, n + 1, i, h1, h2 => by
  have ih := lp9s m hm r0 a s2 s3 r hl b c r7 e r9 f g d n (i + 1) (by omega) (by omega)
  rw [Lp9_19]
  simp only [Lp9_19_step, wP1 (show i ≤ 1000000 by omega), tN, fn30b m hm, fn31, fstE, skF, ih, ordB, Bool.cond_eq_ite]
  by_cases h : 0 < i
  ·simp only [wM1 h (show i ≤ 1000000 by omega), tN]
   grind (splits := 40)
  ·grind (splits := 40)
theorem lp29a0 (m : Nat) (s0 : ByteArray) (r : Abs.Rows) (hl : r.length ≤ 100000) (a b : Int) (r4 : Abs.Rows) (c e : Int) (n : Nat) (hn : r.length < n) :
  Lp29_5 (m + 1) (fun e _ => K e) kx1 s0 r a b r4 c e r r.length n 0 = if fstE (skF r) r.length 0 = 0 then kx1 r.length else K (fstE (skF r) r.length 0) := lp29a K kx1 m s0 r hl a b r4 c e r.length n 0 (by omega) hn
theorem lp29b0 (m : Nat) (s0 : ByteArray) (r1 r : Abs.Rows) (hl : r.length ≤ 100000) (a b c e : Int) (n : Nat) (hn : r.length < n) :
  Lp29_24 m (fun e _ => K e) kx1 s0 r1 a b r c e r r.length n 0 = if fstE (paF r) r.length 0 = 0 then kx1 r.length else K (fstE (paF r) r.length 0) := lp29b K kx1 m s0 r1 r hl a b c e r.length n 0 (by omega) hn
theorem lp320 (m : Nat) (s0 : ByteArray) (r1 r : Abs.Rows) (hl : r.length ≤ 100000) (a b c e : Int) (n : Nat) (hn : r.length < n) :
  Lp32_7 m (fun e _ => K e) kx1 s0 r1 a b r c e r r.length n 0 = if fstE (paF r) r.length 0 = 0 then kx1 r.length else K (fstE (paF r) r.length 0) := lp32 K kx1 m s0 r1 r hl a b c e r.length n 0 (by omega) hn
theorem lp9s0 (m : Nat) (hm : 100 ≤ m) (r0 : Abs.Rows) (a : Int) (s2 s3 : ByteArray) (r : Abs.Rows) (hl : r.length ≤ 100000) (b c : Int) (r7 : Abs.Rows) (e : Int) (r9 : Abs.Rows) (f g : Int) (n : Nat) (hn : r.length < n) :
  Lp9_19 (m + 4) (fun e _ => K e) kx1 r0 a s2 s3 r b c r7 e r9 f g r r.length n 0 = if fstE (skF r) r.length 0 = 0 then kx1 r.length else K (fstE (skF r) r.length 0) := lp9s K kx1 m hm r0 a s2 s3 r hl b c r7 e r9 f g r.length n 0 (by omega) hn
end
theorem fn29 (m : Nat) (hm : 200 ≤ m) (s0 : ByteArray) (sk : Abs.Rows) (f t : Int) (pa : Abs.Rows) (w : Int) {R : Type} (k : Int → Option R) : Fn29 (m + 2) s0 sk f t pa w k = k (agF sk f t pa w) := by
 simp only [Fn29, Jn29_19]
 unfold agF tiF
 by_cases h1 : 10 < sk.length
 ·rw [dT (by omega), if_pos h1]
 ·rw [dF (by omega), if_neg h1, lp29a0 k _ m s0 sk (by omega) f t pa w 0 (m + 1) (by omega)]
  by_cases h2 : 50 < pa.length
  ·grind (splits := 40)
  ·rw [lp29b0 k _ (m + 1) s0 sk pa (by omega) f t w 0 (m + 1) (by omega)]
   simp only [fn34]
   grind (splits := 40)
theorem fn32 (m : Nat) (hm : 200 ≤ m) (s0 : ByteArray) (sk : Abs.Rows) (f t : Int) (pa : Abs.Rows) (w : Int) {R : Type} (k : Int → Option R) : Fn32 (m + 2) s0 sk f t pa w k = k (tiF f t pa w) := by
 simp only [Fn32, Jn32_1, Jn32_5, fn31]
 unfold tiF
 by_cases h2 : 50 < pa.length
 ·grind (splits := 40)
 ·rw [lp320 k _ (m + 1) s0 sk pa (by omega) f t w 0 (m + 1) (by omega)]
  grind (splits := 40)
end Go.Proofs.YtgpdmhkakbaoeaaDoor.Med
end
section
set_option linter.unusedVariables false
set_option linter.unusedSimpArgs false
set_option linter.unusedSectionVars false
namespace Go.Proofs.YtgpdmhkakbaoeaaDoor.Med
open Go Go.Abs Go.Proofs
set_option linter.unusedVariables false
set_option linter.unusedSimpArgs false
/-! lists of agents -/
def acF (a : Abs.Rows) (i : Nat) : Int := if keyB (ls (fS a i 0)) = false then 5 else if 0 < i ∧ ordB (fS a i 0) (fS a (i - 1) 0) = true then 7 else agF (fR a i 1) (fI a i 2) (fI a i 3) (fR a i 4) (fI a i 5)
def agsF (a : Abs.Rows) : Int := if 100 < a.length then 2 else fstE (acF a) a.length 0
def lastK (a : Abs.Rows) (i : Nat) : ByteArray := if i = 0 then ⟨#[]⟩ else fS a (i - 1) 0
theorem ord_nil {s : ByteArray} (h : keyB (ls s) = true) : (Op.bytesLess s.toList (ByteArray.toList ⟨#[]⟩) || s.toList == ByteArray.toList ⟨#[]⟩) = false := by
 have h1 : ls s ≠ [] := by
  intro e
  rw [e] at h
  simp [keyB] at h
 have h2 : (ByteArray.toList ⟨#[]⟩) = [] := bs_toList []
 rw [h2, Lib.toList_data]
 cases hs : s.data.toList with
 | nil => exact (h1 hs).elim
 | cons x l => rfl
section
variable {R : Type} (K : Int → Option R) (kx1 : Int → Option R)
theorem lp8 (m : Nat) (hm : 200 ≤ m) (a : Abs.Rows) (hl : a.length ≤ 1000) (z : Int) : ∀ (d n i : Nat), i + d = a.length → d < n →
  Lp8_5 (m + 2) (fun e _ => K e) kx1 a z a a.length n i = if fstE (acF a) d i = 0 then kx1 a.length else K (fstE (acF a) d i)
 | _, 0, _, _, h => by omega
 | 0, n + 1, i, h1, h2 => by
  rw [Lp8_5]
  simp only [Lp8_5_step]
  rw [dF (by omega), show i = a.length by omega]
  rfl
 | d + 1, n + 1, i, h1, h2 => by
  have ih := lp8 m hm a hl z d n (i + 1) (by omega) (by omega)
  rw [Lp8_5]
  simp only [Lp8_5_step, Jn8_14, wP1 (show i ≤ 1000000 by omega), tN, fn28b, fn29 m hm, fstE, acF, ih, ordB, Bool.cond_eq_ite]
  by_cases h : 0 < i
  ·simp only [wM1 h (show i ≤ 1000000 by omega), tN]
   grind (splits := 40)
  ·grind (splits := 40)
theorem lp9 (m : Nat) (hm : 200 ≤ m) (a : Abs.Rows) (hl : a.length ≤ 1000) (z : Int) : ∀ (d n i : Nat), i + d = a.length → d < n →
  Lp9_6 (m + 4) (fun e _ _ => K e) (fun _ => kx1) a z a a.length n (lastK a i) i = if fstE (acF a) d i = 0 then kx1 a.length else K (fstE (acF a) d i)
 | _, 0, _, _, h => by omega
 | 0, n + 1, i, h1, h2 => by
  rw [Lp9_6]
  simp only [Lp9_6_step]
  rw [dF (by omega), show i = a.length by omega]
  rfl
 | d + 1, n + 1, i, h1, h2 => by
  have ih := lp9 m hm a hl z d n (i + 1) (by omega) (by omega)
  have hlast : lastK a (i + 1) = fS a i 0 := by unfold lastK; rw [if_neg (by omega)]; rfl
  rw [hlast] at ih
  have ho : keyB (ls (fS a i 0)) = true → (Op.bytesLess (fS a i 0).toList (lastK a i).toList || (fS a i 0).toList == (lastK a i).toList) = (decide (0 < i) && ordB (fS a i 0) (fS a (i - 1) 0)) := by
   intro hk
   unfold lastK
   by_cases h : i = 0
   ·rw [if_pos h, ord_nil hk, decide_eq_false (by omega)]; rfl
   ·rw [if_neg h, decide_eq_true (by omega)]; rfl
  rw [Lp9_6]
  simp only [Lp9_6_step, wP1 (show i ≤ 1000000 by omega), tN, fn30b m (show 100 ≤ m by omega), fn32 (m + 2) (show 200 ≤ m + 2 by omega), fstE, acF, agF]
  rw [dT (by omega), dT (by omega)]
  by_cases hk : keyB (ls (fS a i 0)) = true
  ·rw [ho hk, ih]
   by_cases h10 : 10 < (fR a i 1).length
   ·simp only [hk, Bool.cond_eq_ite]
    grind (splits := 40)
   ·simp only [hk, lp9s0 K _ m (show 100 ≤ m by omega) a z (fS a i 0) (fS a i 0) (fR a i 1) (by omega) (fI a i 2) (fI a i 3) (fR a i 4) (fI a i 5) a a.length i (m + 4) (by omega), Bool.cond_eq_ite]
    grind (splits := 40)
  ·have hk' : keyB (ls (fS a i 0)) = false := by simpa using hk
   simp only [hk']
   rfl
end
theorem fn8 (m : Nat) (hm : 1200 ≤ m) (a : Abs.Rows) {R : Type} (k : Int → Option R) : Fn8 (m + 3) a k = k (agsF a) := by
 simp only [Fn8]
 unfold agsF
 by_cases h1 : 100 < a.length
 ·rw [dT (by omega), if_pos h1]
 ·rw [dF (by omega), if_neg h1]
  refine Eq.trans (lp8 k _ m (by omega) a (by omega) 0 a.length (m + 2) 0 (by omega) (by omega)) ?_
  by_cases h : fstE (acF a) a.length 0 = 0
  ·rw [if_pos h, h]
  ·rw [if_neg h]
theorem fn9 (m : Nat) (hm : 1200 ≤ m) (a : Abs.Rows) {R : Type} (k : Int → Option R) : Fn9 (m + 5) a k = k (agsF a) := by
 simp only [Fn9]
 unfold agsF
 by_cases h1 : 100 < a.length
 ·rw [dT (by omega), if_pos h1]
 ·rw [dF (by omega), if_neg h1]
  refine Eq.trans (lp9 k _ m (by omega) a (by omega) 0 a.length (m + 4) 0 (by omega) (by omega)) ?_
  by_cases h : fstE (acF a) a.length 0 = 0
  ·rw [if_pos h, h]
  ·rw [if_neg h]
end Go.Proofs.YtgpdmhkakbaoeaaDoor.Med
end
section
set_option linter.unusedVariables false
set_option linter.unusedSimpArgs false
set_option linter.unusedSectionVars false
namespace Go.Proofs.YtgpdmhkakbaoeaaDoor.Med
open Go Go.Abs Go.Proofs
set_option linter.unusedVariables false
set_option linter.unusedSimpArgs false
/-! callers -/
instance : LawfulBEq ByteArray where
 eq_of_beq {a b} h := by
  have h : (a.data == b.data) = true := h
  exact ByteArray.ext (eq_of_beq h)
 rfl {a} := by
  show (a.data == a.data) = true
  exact beq_self_eq_true _
instance : DecidableEq ByteArray := fun a b => decidable_of_iff (a.data = b.data) ⟨ByteArray.ext, congrArg _⟩
/-- - -/
def seenS (ks : List ByteArray) : Abs.Rows := ks.map fun x => [F.lit (Value.string x), F.lit (Value.bool true)]
theorem seenS_len (ks : List ByteArray) : (seenS ks).length = ks.length := by simp [seenS]
theorem seenS_get (x : ByteArray) : ∀ (ks : List ByteArray), F.toBool (List.headD (mRow (F.lit (Value.string x)) [F.lit (Value.bool false)] (seenS ks)) default) = decide (x ∈ ks)
 | [] => rfl
 | y :: ks => by
  show F.toBool (List.headD (bif (x == y) then [F.lit (Value.bool true)] else mRow (F.lit (Value.string x)) [F.lit (Value.bool false)] (seenS ks)) default) = _
  by_cases h : x = y
  ·subst h; simp; rfl
  ·rw [beq_false_of_ne h]
   simp only [cond_false]
   rw [seenS_get x ks]
   simp [h]
theorem seenS_put (x : ByteArray) : ∀ (ks : List ByteArray), x ∉ ks → mPut (F.lit (Value.string x)) [F.lit (Value.bool true)] (seenS ks) = seenS (ks ++ [x])
 | [], _ => rfl
 | y :: ks, hn => by
  show (bif (x == y) then [F.lit (Value.string x), F.lit (Value.bool true)] :: seenS ks else [F.lit (Value.string y), F.lit (Value.bool true)] :: mPut (F.lit (Value.string x)) [F.lit (Value.bool true)] (seenS ks)) = _
  have h : x ≠ y := fun e => hn (by simp [e])
  rw [beq_false_of_ne h]
  simp only [cond_false]
  rw [seenS_put x ks fun h2 => hn (by simp [h2])]
  rfl
def ids (c : Abs.Rows) (i : Nat) : List ByteArray := (List.range i).map fun j => fS c j 0
theorem ids_len (c : Abs.Rows) (i : Nat) : (ids c i).length = i := by simp [ids]
theorem ids_succ (c : Abs.Rows) (i : Nat) : ids c (i + 1) = ids c i ++ [fS c i 0] := by simp [ids, List.range_succ]
theorem mem_ids (c : Abs.Rows) (i : Nat) (s : ByteArray) : s ∈ ids c i ↔ ∃ j, j < i ∧ fS c j 0 = s := by simp [ids]
theorem toL_inj {a b : ByteArray} : (a.toList == b.toList) = decide (a = b) := by
 rw [Lib.toList_data, Lib.toList_data, Bool.eq_iff_iff]
 simp only [beq_iff_eq, decide_eq_true_eq]
 constructor
 ·intro h
  apply ByteArray.ext
  exact Array.toList_inj.1 h
 ·rintro rfl; rfl
theorem fS_take (c : Abs.Rows) {i j : Nat} (h : j < i) (q : Nat) : fS (c.take i) j q = fS c j q := by
 unfold fS Abs.rowAt
 rw [List.getD_eq_getElem?_getD, List.getElem?_take_of_lt h, ← List.getD_eq_getElem?_getD]
def cuP (a l p t k : Int) : Prop := (0 ≤ a ∧ a < 345686400000) ∧ (1 ≤ l ∧ l ≤ 9) ∧ (0 ≤ p ∧ p ≤ 9) ∧ (0 ≤ t ∧ t ≤ 86400000) ∧ (1 ≤ k ∧ k ≤ 86400000)
instance (a l p t k : Int) : Decidable (cuP a l p t k) := by unfold cuP; infer_instance
def caF (c : Abs.Rows) (i : Nat) : Int := if keyB (ls (fS c i 0)) = false ∨ keyB (ls (fS c i 1)) = false then 5 else if fS c i 0 ∈ ids c i then 6 else
 if ¬ cuP (fI c i 2) (fI c i 3) (fI c i 4) (fI c i 5) (fI c i 6) then 1 else if 0 < i ∧ fI c i 2 < fI c (i - 1) 2 then 7 else 0
def casF (c : Abs.Rows) : Int := if 500 < c.length then 2 else fstE (caF c) c.length 0
theorem fn33 (m : Nat) (x : Int) {R : Type} (k : Bool → Option R) : Fn33 (m + 1) x k = k (decide (0 ≤ x ∧ x < 345686400000)) := by
 simp only [Fn33, Bool.cond_eq_ite]
 grind
theorem fn37 (m : Nat) (x : Int) {R : Type} (k : Bool → Option R) : Fn37 (m + 2) x k = k (decide (0 ≤ x ∧ x < 345686400000)) := by
 simp only [Fn37, fn31]
 congr 1
 grind
theorem lp49 (m : Nat) (r : Abs.Rows) (hl : r.length ≤ 100000) (s1 s2 : ByteArray) (a b c e f : Int) (g : Bool) (z : Int) {R : Type} (k : Bool → Option R) : ∀ (d n i : Nat), i + d = r.length → d < n → (∀ j, j < i → fS r j 0 ≠ s1) →
  Lp49_2 (m + 1) (fun x _ => k (decide (x ≥ 0))) (fun _ => k (decide ((-1 : Int) ≥ 0))) r s1 s2 a b c e f g z r.length n i = k (decide (s1 ∈ ids r r.length))
 | _, 0, _, _, h, _ => by omega
 | 0, n + 1, i, h1, h2, h3 => by
  rw [Lp49_2]
  simp only [Lp49_2_step]
  rw [dF (by omega)]
  congr 1
  have : ¬ s1 ∈ ids r r.length := by
   rw [mem_ids]
   rintro ⟨j, hj, e⟩
   exact h3 j (by omega) e
  rw [decide_eq_false this]
  rfl
 | d + 1, n + 1, i, h1, h2, h3 => by
  rw [Lp49_2]
  simp only [Lp49_2_step, Fn36, wP1 (show i ≤ 1000000 by omega), tN, toL_inj]
  rw [dT (by omega), dT (by omega)]
  by_cases h : fS r i 0 = s1
  ·rw [dT h]
   congr 1
   rw [decide_eq_true (show (i : Int) ≥ 0 by omega), decide_eq_true ((mem_ids _ _ _).2 ⟨i, by omega, h⟩)]
  ·rw [dF h]
   exact lp49 m r hl s1 s2 a b c e f g z k d n (i + 1) (by omega) (by omega) fun j hj => by
    by_cases e : j = i
    ·rw [e]; exact h
    ·exact h3 j (by omega)
theorem fn35 (m : Nat) (hm : 1000 ≤ m) (r : Abs.Rows) (i : Nat) (hi : i ≤ r.length) (h500 : i ≤ 500) (s1 s2 : ByteArray) (a b c e f : Int) (g : Bool) {R : Type} (k : Bool → Option R) :
  Fn35 (m + 3) (r.take i) s1 s2 a b c e f g k = k (decide (s1 ∈ ids r i)) := by
 have hlen : (r.take i).length = i := by simp; omega
 simp only [Fn35, Fn49]
 refine Eq.trans (lp49 m (r.take i) (by omega) s1 s2 a b c e f g 0 k (r.take i).length (m + 1) 0 (by omega) (by omega) (by omega)) ?_
 congr 1
 apply decide_eq_decide.2
 rw [mem_ids, mem_ids, hlen]
 constructor
 ·rintro ⟨j, h1, h2⟩; exact ⟨j, h1, by rwa [fS_take r h1] at h2⟩
 ·rintro ⟨j, h1, h2⟩; exact ⟨j, h1, by rwa [fS_take r h1]⟩
section
variable {R : Type} (K : Int → Option R) (kx1 : Int → Option R)
theorem lp10 (m : Nat) (c : Abs.Rows) (hl : c.length ≤ 1000) (z : Int) : ∀ (d n i : Nat), i + d = c.length → d < n →
  Lp10_6 (m + 2) (fun e _ _ => K e) (fun _ => kx1) c z c c.length n (seenS (ids c i)) i = if fstE (caF c) d i = 0 then kx1 c.length else K (fstE (caF c) d i)
 | _, 0, _, _, h => by omega
 | 0, n + 1, i, h1, h2 => by
  rw [Lp10_6]
  simp only [Lp10_6_step]
  rw [dF (by omega), show i = c.length by omega]
  rfl
 | d + 1, n + 1, i, h1, h2 => by
  have ih := lp10 m c hl z d n (i + 1) (by omega) (by omega)
  have hlen : (seenS (ids c i)).length < rowMax := by rw [seenS_len, ids_len, rM]; omega
  rw [Lp10_6]
  simp only [Lp10_6_step, Jn10_10, Jn10_14, wP1 (show i ≤ 1000000 by omega), tN, fn28b, fn33, fn34, seenS_get, fstE, caF, cuP, Bool.cond_eq_ite]
  by_cases htw : fS c i 0 ∈ ids c i
  ·grind (splits := 40)
  ·rw [seenS_put _ _ htw, ← ids_succ, ih]
   by_cases h : 0 < i
   ·simp only [wM1 h (show i ≤ 1000000 by omega), tN]
    grind (splits := 60)
   ·grind (splits := 60)
theorem lp11 (m : Nat) (hm : 1000 ≤ m) (c : Abs.Rows) (hl : c.length ≤ 500) (z : Int) : ∀ (d n i : Nat), i + d = c.length → d < n →
  Lp11_5 (m + 4) (fun e _ => K e) kx1 c z c c.length n i = if fstE (caF c) d i = 0 then kx1 c.length else K (fstE (caF c) d i)
 | _, 0, _, _, h => by omega
 | 0, n + 1, i, h1, h2 => by
  rw [Lp11_5]
  simp only [Lp11_5_step]
  rw [dF (by omega), show i = c.length by omega]
  rfl
 | d + 1, n + 1, i, h1, h2 => by
  have ih := lp11 m hm c hl z d n (i + 1) (by omega) (by omega)
  rw [Lp11_5]
  simp only [Lp11_5_step, Jn11_9, Jn11_13, wP1 (show i ≤ 1000000 by omega), tN, Nat.sub_zero, List.drop_zero, fn30b m (show 100 ≤ m by omega), fn31, fn37, fn35 (m + 1) (show 1000 ≤ m + 1 by omega) c i (by omega) (by omega), fstE, caF, cuP, ih, Bool.cond_eq_ite]
  by_cases h : 0 < i
  ·simp only [wM1 h (show i ≤ 1000000 by omega), tN]
   grind (splits := 60)
  ·grind (splits := 60)
end
theorem fn10 (m : Nat) (hm : 1200 ≤ m) (c : Abs.Rows) {R : Type} (k : Int → Option R) : Fn10 (m + 3) c k = k (casF c) := by
 simp only [Fn10]
 unfold casF
 by_cases h1 : 500 < c.length
 ·rw [dT (by omega), if_pos h1]
 ·rw [dF (by omega), if_neg h1]
  refine Eq.trans (lp10 k _ m c (by omega) 0 c.length (m + 2) 0 (by omega) (by omega)) ?_
  by_cases h : fstE (caF c) c.length 0 = 0
  ·rw [if_pos h, h]
  ·rw [if_neg h]
theorem fn11 (m : Nat) (hm : 1200 ≤ m) (c : Abs.Rows) {R : Type} (k : Int → Option R) : Fn11 (m + 5) c k = k (casF c) := by
 simp only [Fn11]
 unfold casF
 by_cases h1 : 500 < c.length
 ·rw [dT (by omega), if_pos h1]
 ·rw [dF (by omega), if_neg h1]
  refine Eq.trans (lp11 k _ m (by omega) c (by omega) 0 c.length (m + 4) 0 (by omega) (by omega)) ?_
  by_cases h : fstE (caF c) c.length 0 = 0
  ·rw [if_pos h, h]
  ·rw [if_neg h]
end Go.Proofs.YtgpdmhkakbaoeaaDoor.Med
end
section
set_option linter.unusedVariables false
set_option linter.unusedSimpArgs false
set_option linter.unusedSectionVars false
namespace Go.Proofs.YtgpdmhkakbaoeaaDoor.Med
open Go Go.Abs Go.Proofs
set_option linter.unusedVariables false
set_option linter.unusedSimpArgs false
/-! styles, who is present, who is able -/
def stF (s g y : Int) : Int := if ¬ (1 ≤ s ∧ s ≤ 4) then 4 else if ¬ (0 ≤ g ∧ g ≤ 86400000) ∨ ¬ (0 ≤ y ∧ y ≤ 86400000) then 1 else 0
theorem fn12 (m : Nat) (s g y : Int) {R : Type} (k : Int → Option R) : Fn12 (m + 2) s g y k = k (stF s g y) := by
 simp only [Fn12, fn34, stF, Bool.cond_eq_ite]
 grind (splits := 20)
theorem fn13 (m : Nat) (s g y : Int) {R : Type} (k : Int → Option R) : Fn13 (m + 2) s g y k = k (stF s g y) := by
 simp only [Fn13, fn31, stF, Bool.cond_eq_ite]
 grind (splits := 20)
abbrev rowA (s : ByteArray) (sk : Abs.Rows) (f t : Int) (pa : Abs.Rows) (w : Int) : Abs.Rows := [[F.lit (Value.string s), F.lst [LT.str, LT.int IntKind.i64] sk, F.lit (Value.int IntKind.i64 f), F.lit (Value.int IntKind.i64 t), F.lst [LT.int IntKind.i64, LT.int IntKind.i64] pa, F.lit (Value.int IntKind.i64 w)]]
abbrev rowC (s1 s2 : ByteArray) (a l p t k : Int) (b : Bool) : Abs.Rows := [[F.lit (Value.string s1), F.lit (Value.string s2), F.lit (Value.int IntKind.i64 a), F.lit (Value.int IntKind.i64 l), F.lit (Value.int IntKind.i64 p), F.lit (Value.int IntKind.i64 t), F.lit (Value.int IntKind.i64 k), F.lit (Value.bool b)]]
def oneA (s : ByteArray) (sk : Abs.Rows) (f t : Int) (pa : Abs.Rows) (w : Int) : Int := if keyB (ls s) = false then 5 else agF sk f t pa w
theorem ags_one (s : ByteArray) (sk : Abs.Rows) (f t : Int) (pa : Abs.Rows) (w : Int) : agsF (rowA s sk f t pa w) = oneA s sk f t pa w := by
 have h : acF (rowA s sk f t pa w) 0 = oneA s sk f t pa w := by
  unfold acF oneA
  rw [if_neg (show ¬ (0 < 0 ∧ _) by omega)]
  rfl
 unfold agsF
 rw [if_neg (by simp)]
 show (if acF (rowA s sk f t pa w) 0 = 0 then 0 else acF (rowA s sk f t pa w) 0) = _
 rw [h]
 split <;> simp_all
theorem one_ok {s : ByteArray} {sk : Abs.Rows} {f t : Int} {pa : Abs.Rows} {w : Int} (h : oneA s sk f t pa w = 0) : sk.length ≤ 10 ∧ pa.length ≤ 50 := by
 unfold oneA agF tiF at h
 grind (splits := 20)
def inB (f t x : Int) : Bool := decide (f ≤ x ∧ x < t)
def pauB (pa : Abs.Rows) (x : Int) : Bool := (List.range pa.length).any fun j => inB (fI pa j 0) (fI pa j 1) x
def prB (f t : Int) (pa : Abs.Rows) (x : Int) : Bool := inB f t x && !pauB pa x
theorem fn50 (m : Nat) (a b x : Int) {R : Type} (k : Bool → Option R) : Fn50 (m + 1) a b x k = k (inB a b x) := by
 simp only [Fn50, inB, Bool.cond_eq_ite]
 grind
theorem fn40 (m : Nat) (x a b : Int) {R : Type} (k : Bool → Option R) : Fn40 (m + 1) x a b k = k (inB a b x) := by
 simp only [Fn40, inB, Bool.cond_eq_ite]
 grind
theorem fn42 (m : Nat) (a b x : Int) {R : Type} (k : Bool → Option R) : Fn42 (m + 2) a b x k = k (inB a b x) := by
 simp only [Fn42, fn40]
theorem any_pos {p : Nat → Bool} {n i : Nat} (hi : i < n) (h : p i = true) : (List.range n).any p = true := List.any_eq_true.2 ⟨i, List.mem_range.2 hi, h⟩
theorem any_none {p : Nat → Bool} {n : Nat} (h : ∀ j, j < n → p j = false) : (List.range n).any p = false := by
 rw [List.any_eq_false]
 intro j hj
 rw [h j (List.mem_range.1 hj)]
 decide
theorem lp51 (m : Nat) (r : Abs.Rows) (hl : r.length ≤ 100000) (x z : Int) {R : Type} (k : Bool → Option R) : ∀ (d n i : Nat), i + d = r.length → d < n → (∀ j, j < i → inB (fI r j 0) (fI r j 1) x = false) →
  Lp51_2 (m + 1) (fun x _ => k (decide (x ≥ 0))) (fun _ => k (decide ((-1 : Int) ≥ 0))) r x z r.length n i = k (pauB r x)
 | _, 0, _, _, h, _ => by omega
 | 0, n + 1, i, h1, h2, h3 => by
  rw [Lp51_2]
  simp only [Lp51_2_step]
  rw [dF (by omega)]
  congr 1
  unfold pauB
  rw [any_none fun j hj => h3 j (by omega)]
  rfl
 | d + 1, n + 1, i, h1, h2, h3 => by
  rw [Lp51_2]
  simp only [Lp51_2_step, fn50, wP1 (show i ≤ 1000000 by omega), tN]
  rw [dT (by omega), dT (by omega)]
  by_cases h : inB (fI r i 0) (fI r i 1) x = true
  ·rw [h]
   refine Eq.trans (bT rfl) ?_
   congr 1
   rw [decide_eq_true (show (i : Int) ≥ 0 by omega)]
   exact (any_pos (show i < r.length by omega) h).symm
  ·have h : inB (fI r i 0) (fI r i 1) x = false := by simpa using h
   rw [h]
   refine Eq.trans (bF rfl) ?_
   exact lp51 m r hl x z k d n (i + 1) (by omega) (by omega) fun j hj => by
    by_cases e : j = i
    ·rw [e]; exact h
    ·exact h3 j (by omega)
theorem lp51v (m : Nat) (r : Abs.Rows) (hl : r.length ≤ 100000) (x z : Int) {R : Type} (k : Bool → Option R) : ∀ (d n i : Nat), i + d = r.length → d < n → (∀ j, j < i → inB (fI r j 0) (fI r j 1) x = false) →
  Lp51_2v1 (m + 2) (fun x _ => k (decide (x ≥ 0))) (fun _ => k (decide ((-1 : Int) ≥ 0))) r x z r.length n i = k (pauB r x)
 | _, 0, _, _, h, _ => by omega
 | 0, n + 1, i, h1, h2, h3 => by
  rw [Lp51_2v1]
  simp only [Lp51_2v1_step]
  rw [dF (by omega)]
  congr 1
  unfold pauB
  rw [any_none fun j hj => h3 j (by omega)]
  rfl
 | d + 1, n + 1, i, h1, h2, h3 => by
  rw [Lp51_2v1]
  simp only [Lp51_2v1_step, fn42, wP1 (show i ≤ 1000000 by omega), tN]
  rw [dT (by omega), dT (by omega)]
  by_cases h : inB (fI r i 0) (fI r i 1) x = true
  ·rw [h]
   refine Eq.trans (bT rfl) ?_
   congr 1
   rw [decide_eq_true (show (i : Int) ≥ 0 by omega)]
   exact (any_pos (show i < r.length by omega) h).symm
  ·have h : inB (fI r i 0) (fI r i 1) x = false := by simpa using h
   rw [h]
   refine Eq.trans (bF rfl) ?_
   exact lp51v m r hl x z k d n (i + 1) (by omega) (by omega) fun j hj => by
    by_cases e : j = i
    ·rw [e]; exact h
    ·exact h3 j (by omega)
theorem fn41 (m : Nat) (hm : 100 ≤ m) (r : Abs.Rows) (hl : r.length ≤ 50) (x : Int) {R : Type} (k : Bool → Option R) : Fn41 (m + 3) r x k = k (pauB r x) := by
 simp only [Fn41, Fn51]
 exact lp51 m r (by omega) x 0 k r.length (m + 1) 0 (by omega) (by omega) (by omega)
theorem fn41v (m : Nat) (hm : 100 ≤ m) (r : Abs.Rows) (hl : r.length ≤ 50) (x : Int) {R : Type} (k : Bool → Option R) : Fn41v1 (m + 4) r x k = k (pauB r x) := by
 simp only [Fn41v1, Fn51v1]
 exact lp51v m r (by omega) x 0 k r.length (m + 2) 0 (by omega) (by omega) (by omega)
theorem fn38 (m : Nat) (hm : 100 ≤ m) (s : ByteArray) (sk : Abs.Rows) (f t : Int) (pa : Abs.Rows) (hl : pa.length ≤ 50) (w x : Int) {R : Type} (k : Bool → Option R) : Fn38 (m + 4) s sk f t pa w x k = k (prB f t pa x) := by
 simp only [Fn38, fn50, fn41 m hm pa hl, prB, Bool.cond_eq_ite]
 grind
theorem fn17 (m : Nat) (hm : 100 ≤ m) (s : ByteArray) (sk : Abs.Rows) (f t : Int) (pa : Abs.Rows) (hl : pa.length ≤ 50) (w x : Int) {R : Type} (k : Bool → Option R) : Fn17 (m + 5) s sk f t pa w x k = k (prB f t pa x) := by
 simp only [Fn17, fn40, fn41v m hm pa hl, prB, Bool.cond_eq_ite]
 grind
def momB (x : Int) : Bool := decide (0 ≤ x ∧ x < 345686400000)
theorem fn14 (m : Nat) (hm : 1200 ≤ m) (s : ByteArray) (sk : Abs.Rows) (f t : Int) (pa : Abs.Rows) (w x : Int) {R : Type} (k : Bool → Int → Option R) : Fn14 (m + 5) s sk f t pa w x k =
  if oneA s sk f t pa w ≠ 0 then k false (oneA s sk f t pa w) else if momB x = false then k false 1 else k (prB f t pa x) 0 := by
 simp only [Fn14]
 refine Eq.trans (fn8 (m + 1) (by omega) (rowA s sk f t pa w) _) ?_
 rw [ags_one]
 by_cases h : oneA s sk f t pa w = 0
 ·rw [nF h, if_neg (by simpa using h)]
  refine Eq.trans (fn33 (m + 3) x _) ?_
  show (bif !momB x then _ else _) = _
  cases hb : momB x with
  | false => rfl
  | true =>
   refine Eq.trans (bF rfl) ?_
   exact fn38 m (by omega) s sk f t pa (one_ok h).2 w x _
 ·rw [nT h, if_pos h]
theorem fn16 (m : Nat) (x : Int) {R : Type} (k : Int → Option R) : Fn16 (m + 3) x k = k (if momB x = false then 1 else 0) := by
 simp only [Fn16, fn37, fn39, momB]
 congr 1
 grind
def lvE (sk : Abs.Rows) (s : ByteArray) : Nat → Nat → Int
 | 0, _ => 0
 | d + 1, i => if fS sk i 0 = s then fI sk i 1 else lvE sk s d (i + 1)
section
variable {R : Type} (K : Int → Option R)
theorem lp43 (m : Nat) (s0 s1 : ByteArray) (r2 : Abs.Rows) (a b : Int) (r5 : Abs.Rows) (c e : Int) (r : Abs.Rows) (hl : r.length ≤ 100000) : ∀ (d n i : Nat), i + d = r.length → d < n →
  Lp43_2 m (fun x _ => K x) (fun _ => K 0) s0 s1 r2 a b r5 c e r r.length n i = K (lvE r s0 d i)
 | _, 0, _, _, h => by omega
 | 0, n + 1, i, h1, h2 => by
  rw [Lp43_2]
  simp only [Lp43_2_step]
  rw [dF (by omega)]
  rfl
 | d + 1, n + 1, i, h1, h2 => by
  have ih := lp43 m s0 s1 r2 a b r5 c e r hl d n (i + 1) (by omega) (by omega)
  rw [Lp43_2]
  simp only [Lp43_2_step, wP1 (show i ≤ 1000000 by omega), tN, toL_inj, ih, lvE]
  rw [dT (by omega), dT (by omega)]
  by_cases h : fS r i 0 = s0
  ·rw [dT h, if_pos h]
  ·rw [dF h, if_neg h]
theorem lp44 (m : Nat) (s0 s1 : ByteArray) (r2 : Abs.Rows) (a b : Int) (r5 : Abs.Rows) (c e : Int) (r : Abs.Rows) (hl : r.length ≤ 100000) : ∀ (d n i : Nat), i + d = r.length → d < n →
  Lp44_2 m (fun x _ => K x) (fun _ => K 0) s0 s1 r2 a b r5 c e r r.length n i = K (lvE r s0 d i)
 | _, 0, _, _, h => by omega
 | 0, n + 1, i, h1, h2 => by
  rw [Lp44_2]
  simp only [Lp44_2_step]
  rw [dF (by omega)]
  rfl
 | d + 1, n + 1, i, h1, h2 => by
  have ih := lp44 m s0 s1 r2 a b r5 c e r hl d n (i + 1) (by omega) (by omega)
  rw [Lp44_2]
  simp only [Lp44_2_step, wP1 (show i ≤ 1000000 by omega), tN, toL_inj, ih, lvE]
  rw [dT (by omega), dT (by omega)]
  by_cases h : fS r i 0 = s0
  ·rw [dT h, if_pos h]
  ·rw [dF h, if_neg h]
end
theorem fn43 (m : Nat) (hm : 100 ≤ m) (s : ByteArray) (sk : Abs.Rows) (hl : sk.length ≤ 10) (f t : Int) (pa : Abs.Rows) (w : Int) (x : ByteArray) {R : Type} (k : Int → Option R) : Fn43 (m + 1) s sk f t pa w x k = k (lvE sk x sk.length 0) := by
 simp only [Fn43]
 exact lp43 k m x s sk f t pa w 0 sk (by omega) sk.length m 0 (by omega) (by omega)
theorem fn44 (m : Nat) (hm : 100 ≤ m) (s : ByteArray) (sk : Abs.Rows) (hl : sk.length ≤ 10) (f t : Int) (pa : Abs.Rows) (w : Int) (x : ByteArray) {R : Type} (k : Int → Option R) : Fn44 (m + 1) s sk f t pa w x k = k (lvE sk x sk.length 0) := by
 simp only [Fn44]
 exact lp44 k m x s sk f t pa w 0 sk (by omega) sk.length m 0 (by omega) (by omega)
theorem fn18 (m : Nat) (hm : 1200 ≤ m) (s : ByteArray) (sk : Abs.Rows) (f t : Int) (pa : Abs.Rows) (w : Int) (s1 s2 : ByteArray) (a l p q r : Int) (b : Bool) {R : Type} (k : Bool → Int → Option R) : Fn18 (m + 5) s sk f t pa w s1 s2 a l p q r b k =
  if oneA s sk f t pa w ≠ 0 then k false (oneA s sk f t pa w) else if casF (rowC s1 s2 a l p q r b) ≠ 0 then k false (casF (rowC s1 s2 a l p q r b)) else k (decide (lvE sk s2 sk.length 0 ≥ l)) 0 := by
 simp only [Fn18]
 refine Eq.trans (fn8 (m + 1) (by omega) (rowA s sk f t pa w) _) ?_
 rw [ags_one]
 by_cases h : oneA s sk f t pa w = 0
 ·rw [nF h, if_neg (by simpa using h)]
  refine Eq.trans (fn10 (m + 1) (by omega) (rowC s1 s2 a l p q r b) _) ?_
  by_cases h2 : casF (rowC s1 s2 a l p q r b) = 0
  ·rw [nF h2, if_neg (by simpa using h2)]
   exact fn43 (m + 3) (by omega) s sk (one_ok h).1 f t pa w s2 _
  ·rw [nT h2, if_pos h2]
 ·rw [nT h, if_pos h]
theorem fn19 (m : Nat) (hm : 100 ≤ m) (s : ByteArray) (sk : Abs.Rows) (hl : sk.length ≤ 10) (f t : Int) (pa : Abs.Rows) (w : Int) (s1 s2 : ByteArray) (a l p q r : Int) (b : Bool) {R : Type} (k : Bool → Option R) : Fn19 (m + 2) s sk f t pa w s1 s2 a l p q r b k = k (decide (lvE sk s2 sk.length 0 ≥ l)) := by
 simp only [Fn19, fn44 m hm s sk hl]
end Go.Proofs.YtgpdmhkakbaoeaaDoor.Med
end
section
set_option linter.unusedVariables false
set_option linter.unusedSimpArgs false
set_option linter.unusedSectionVars false
namespace Go.Proofs.YtgpdmhkakbaoeaaDoor.Med
open Go Go.Abs Go.Proofs
set_option linter.unusedVariables false
set_option linter.unusedSimpArgs false
/-! what is drawn: agents -/
theorem beqT (n : Nat) {α : Type} {a b : α} : (bif Nat.beq n n then a else b) = a := by rw [Nat.beq_refl]; rfl
theorem rowAt_app (r : Abs.Rows) (x : List F) (i : Nat) : Abs.rowAt (r ++ [x]) i = if i < r.length then Abs.rowAt r i else if i = r.length then x else [] := by
 unfold Abs.rowAt
 by_cases h : i < r.length
 ·rw [if_pos h, List.getD_eq_getElem?_getD, List.getElem?_append_left h, ← List.getD_eq_getElem?_getD]
 ·rw [if_neg h, List.getD_eq_getElem?_getD, List.getElem?_append_right (by omega)]
  by_cases h2 : i = r.length
  ·rw [if_pos h2, h2, Nat.sub_self]; rfl
  ·rw [if_neg h2, List.getElem?_eq_none (by simp; omega)]; rfl
def AOk (r : Abs.Rows) : Prop := ∀ i, (fR r i 1).length ≤ 2 ∧ (fR r i 4).length ≤ 2
theorem aok_nil : AOk rows0 := fun i => by simp [fR, Abs.rowAt, rows0, dropF, F.toRows, default, instInhabitedF.default]
theorem aok_app {r : Abs.Rows} (h : AOk r) {x1 : F} {ts1 : List LT} {sk : Abs.Rows} {x2 x3 : F} {ts2 : List LT} {pa : Abs.Rows} {x4 : F} (h1 : sk.length ≤ 2) (h2 : pa.length ≤ 2) : AOk (r ++ [[x1, .lst ts1 sk, x2, x3, .lst ts2 pa, x4]]) := by
 intro i
 have hi := h i
 unfold fR at hi ⊢
 rw [rowAt_app]
 by_cases c : i < r.length
 ·rw [if_pos c]; exact hi
 ·rw [if_neg c]
  by_cases c2 : i = r.length
  ·rw [if_pos c2]; exact ⟨h1, h2⟩
  ·rw [if_neg c2]
   simp [dropF, F.toRows, default, instInhabitedF.default]
theorem lp21s (m : Nat) (r0 : Abs.Rows) (s1 : ByteArray) (a b : Int) (r4 : Abs.Rows) (c : Int) (r6 : Abs.Rows) (e f : Int) (P q : Abs.Rows) (hP : P.length ≤ 10) : ∀ (d n i : Nat) (r : Abs.Rows) (t : Int), i + d = P.length → d < n → 0 ≤ t → t + 2 * d ≤ 100000 → r.length + d ≤ 1000 →
  ∃ (r' : Abs.Rows) (t' : Int), r'.length ≤ r.length + d ∧ t ≤ t' ∧ t' ≤ t + 2 * d ∧ ∀ (R : Type) (k : Abs.Rows → Int → Int → Option R), Lp21_11 (m + 3) k r0 s1 a b r4 c r6 e f P P.length q n r i t = k r' P.length t'
 | _, 0, _, _, _, _, h, _, _, _ => by omega
 | 0, n + 1, i, r, t, h1, h2, h3, h4, h5 => by
  refine ⟨r, t, by omega, by omega, by omega, fun R k => ?_⟩
  rw [Lp21_11]
  simp only [Lp21_11_step]
  rw [dF (by omega), show i = P.length by omega]
 | d + 1, n + 1, i, r, t, h1, h2, h3, h4, h5 => by
  have hi : i ≤ 1000000 := by omega
  by_cases c0 : nx q t % 3 = 0
  ·obtain ⟨r', t', k1, k2, k3, k4⟩ := lp21s m r0 s1 a b r4 c r6 e f P q hP d n (i + 1) r (t + 1) (by omega) (by omega) (by omega) (by omega) (by omega)
   refine ⟨r', t', by omega, by omega, by omega, fun R k => ?_⟩
   rw [Lp21_11]
   simp only [Lp21_11_step, wP1 hi, tN]
   rw [dT (by omega), dT (by omega), gn22 m q h3 (by omega) (by omega) (by omega), beq_iff_eq.2 c0]
   exact k4 R k
  ·have key : ∃ x : List F, ∀ (R : Type) (k : Abs.Rows → Int → Int → Option R), Lp21_11 (m + 3) k r0 s1 a b r4 c r6 e f P P.length q (n + 1) r i t = Lp21_11 (m + 3) k r0 s1 a b r4 c r6 e f P P.length q n (r ++ [x]) ((i + 1 : Nat) : Int) (t + 1 + 1) := ⟨_, fun R k => by
    rw [Lp21_11]
    simp only [Lp21_11_step, wP1 hi, tN]
    rw [dT (by omega), dT (by omega), gn22 m q h3 (by omega) (by omega) (by omega), beq_false_of_ne c0]
    refine Eq.trans (bT rfl) ?_
    rw [gn7 m q _ (by omega) (by omega) (by simp) (by simp), dT (by simp [rM]; omega)]
    rfl⟩
   obtain ⟨x, hx⟩ := key
   obtain ⟨r', t', k1, k2, k3, k4⟩ := lp21s m r0 s1 a b r4 c r6 e f P q hP d n (i + 1) (r ++ [x]) (t + 1 + 1) (by omega) (by omega) (by omega) (by omega) (by simp; omega)
   refine ⟨r', t', by simp at k1; omega, by omega, by omega, fun R k => ?_⟩
   rw [hx]
   exact k4 R k
theorem jn21 (m : Nat) (r : Abs.Rows) (hA : AOk r) (hr : r.length ≤ 1000) (s1 : ByteArray) (sk : Abs.Rows) (hs : sk.length ≤ 2) (a b : Int) (pa : Abs.Rows) (hp : pa.length ≤ 1) (c : Int) (r7 : Abs.Rows) (e f : Int) (q : Abs.Rows) {t : Int} (h0 : 0 ≤ t) (h1 : t ≤ 100000) :
  ∃ (r' : Abs.Rows) (t' : Int), AOk r' ∧ r'.length = r.length + 1 ∧ t ≤ t' ∧ t' ≤ t + 1 ∧ ∀ (R : Type) (k : Abs.Rows → Int → Option R), Jn21_20 (m + 3) k r s1 sk a b pa c r7 e f q t = k r' t' := by
 by_cases c0 : nx q t % 6 = 0
 ·refine ⟨_, t + 1, aok_app (x1 := F.lit (Value.string s1)) (ts1 := [LT.str, LT.int IntKind.i64]) (x2 := F.lit (Value.int IntKind.i64 a)) (x3 := F.lit (Value.int IntKind.i64 b)) (ts2 := [LT.int IntKind.i64, LT.int IntKind.i64]) (x4 := F.lit (Value.int IntKind.i64 c)) hA hs (show (pa ++ [[F.lit (Value.int IntKind.i64 60), F.lit (Value.int IntKind.i64 90)]]).length ≤ 2 by simp; omega), by simp, by omega, by omega, fun R k => ?_⟩
  simp only [Jn21_20]
  rw [gn22 m q h0 (by omega) (by omega) (by omega), beq_iff_eq.2 c0]
  refine Eq.trans (bT rfl) ?_
  rw [dT (by simp [rM]; omega)]
  simp only [letV]
  rw [dT (by simp [rM]; omega)]
 ·refine ⟨_, t + 1, aok_app (x1 := F.lit (Value.string s1)) (ts1 := [LT.str, LT.int IntKind.i64]) (x2 := F.lit (Value.int IntKind.i64 a)) (x3 := F.lit (Value.int IntKind.i64 b)) (ts2 := [LT.int IntKind.i64, LT.int IntKind.i64]) (x4 := F.lit (Value.int IntKind.i64 c)) hA hs (show pa.length ≤ 2 by omega), by simp, by omega, by omega, fun R k => ?_⟩
  simp only [Jn21_20]
  rw [gn22 m q h0 (by omega) (by omega) (by omega), beq_false_of_ne c0]
  refine Eq.trans (bF rfl) ?_
  rw [dT (by simp [rM]; omega)]
  rfl
theorem lp21 (m : Nat) (hm : 20 ≤ m) (P q : Abs.Rows) (hP : P.length ≤ 10) : ∀ (d n i : Nat) (r : Abs.Rows) (t : Int), i + d = P.length → d < n → 0 ≤ t → t + 12 * d ≤ 10000 → r.length + d ≤ 900 → AOk r →
  ∃ (r' : Abs.Rows) (t' : Int), AOk r' ∧ r'.length ≤ r.length + d ∧ t ≤ t' ∧ t' ≤ t + 12 * d ∧ ∀ (R : Type) (k : Abs.Rows → Int → Int → Option R), Lp21_3 (m + 3) k P P.length q n r i t = k r' P.length t'
 | _, 0, _, _, _, _, h, _, _, _, _ => by omega
 | 0, n + 1, i, r, t, h1, h2, h3, h4, h5, hA => by
  refine ⟨r, t, hA, by omega, by omega, by omega, fun R k => ?_⟩
  rw [Lp21_3]
  simp only [Lp21_3_step]
  rw [dF (by omega), show i = P.length by omega]
 | d + 1, n + 1, i, r, t, h1, h2, h3, h4, h5, hA => by
  have hi : i ≤ 1000000 := by omega
  by_cases c0 : nx q t % 5 = 0
  ·obtain ⟨r', t', k0, k1, k2, k3, k4⟩ := lp21 m hm P q hP d n (i + 1) r (t + 1) (by omega) (by omega) (by omega) (by omega) (by omega) hA
   refine ⟨r', t', k0, by omega, by omega, by omega, fun R k => ?_⟩
   rw [Lp21_3]
   simp only [Lp21_3_step, wP1 hi, tN]
   rw [dT (by omega), dT (by omega), gn22 m q h3 (by omega) (by omega) (by omega), beq_iff_eq.2 c0]
   exact k4 R k
  ·obtain ⟨sk, t1, s1, s2, s3, s4⟩ := lp21s m r (fS P i 0) (pk [[F.lit (Value.int IntKind.i64 0)], [F.lit (Value.int IntKind.i64 0)], [F.lit (Value.int IntKind.i64 0)], [F.lit (Value.int IntKind.i64 20)]] q (t + 1)) (pk [[F.lit (Value.int IntKind.i64 60)], [F.lit (Value.int IntKind.i64 200)], [F.lit (Value.int IntKind.i64 1000)]] q (t + 1 + 1)) rows0 (pk [[F.lit (Value.int IntKind.i64 0)], [F.lit (Value.int IntKind.i64 0)], [F.lit (Value.int IntKind.i64 5)], [F.lit (Value.int IntKind.i64 10)]] q (t + 1 + 1 + 1)) P P.length i
    [[F.lit (Value.string { data := #[104, 101, 108, 112] })], [F.lit (Value.string { data := #[115, 97, 108, 101] })]] q (by simp) 2 (m + 3) 0 rows0 (t + 1 + 1 + 1 + 1) (by simp) (by omega) (by omega) (by omega) (by simp [rows0])
   simp only [rows0, List.length_nil] at s1
   by_cases c1 : nx q t1 % 3 = 0
   ·obtain ⟨r2, t2, j0, j1, j2, j3, j4⟩ := jn21 m r hA (by omega) (fS P i 0) sk (by omega) (pk [[F.lit (Value.int IntKind.i64 0)], [F.lit (Value.int IntKind.i64 0)], [F.lit (Value.int IntKind.i64 0)], [F.lit (Value.int IntKind.i64 20)]] q (t + 1)) (pk [[F.lit (Value.int IntKind.i64 60)], [F.lit (Value.int IntKind.i64 200)], [F.lit (Value.int IntKind.i64 1000)]] q (t + 1 + 1))
     [[F.lit (Value.int IntKind.i64 (pk [[F.lit (Value.int IntKind.i64 0)], [F.lit (Value.int IntKind.i64 10)], [F.lit (Value.int IntKind.i64 30)]] q (t1 + 1))), F.lit (Value.int IntKind.i64 (IntKind.wrap IntKind.i64 (pk [[F.lit (Value.int IntKind.i64 0)], [F.lit (Value.int IntKind.i64 10)], [F.lit (Value.int IntKind.i64 30)]] q (t1 + 1) + pk [[F.lit (Value.int IntKind.i64 5)], [F.lit (Value.int IntKind.i64 20)]] q (t1 + 1 + 1))))]] (by simp) (pk [[F.lit (Value.int IntKind.i64 0)], [F.lit (Value.int IntKind.i64 0)], [F.lit (Value.int IntKind.i64 5)], [F.lit (Value.int IntKind.i64 10)]] q (t + 1 + 1 + 1)) P P.length i q (t := t1 + 1 + 1 + 1) (by omega) (by omega)
    obtain ⟨r', t', k0, k1, k2, k3, k4⟩ := lp21 m hm P q hP d n (i + 1) r2 t2 (by omega) (by omega) (by omega) (by omega) (by omega) j0
    refine ⟨r', t', k0, by omega, by omega, by omega, fun R k => ?_⟩
    rw [Lp21_3]
    simp only [Lp21_3_step, wP1 hi, tN]
    rw [dT (by omega), dT (by omega), gn22 m q h3 (by omega) (by omega) (by omega), beq_false_of_ne c0]
    refine Eq.trans (bF rfl) ?_
    rw [gn7 m q _ (by omega) (by omega) (by simp) (by simp), gn7 m q _ (by omega) (by omega) (by simp) (by simp), gn7 m q _ (by omega) (by omega) (by simp) (by simp)]
    refine Eq.trans (s4 R _) ?_
    rw [gn22 m q (by omega) (by omega) (by omega) (by omega), beq_iff_eq.2 c1]
    refine Eq.trans (bT rfl) ?_
    rw [gn7 m q _ (by omega) (by omega) (by simp) (by simp), gn7 m q _ (by omega) (by omega) (by simp) (by simp)]
    refine Eq.trans (j4 R _) ?_
    exact k4 R k
   ·obtain ⟨r2, t2, j0, j1, j2, j3, j4⟩ := jn21 m r hA (by omega) (fS P i 0) sk (by omega) (pk [[F.lit (Value.int IntKind.i64 0)], [F.lit (Value.int IntKind.i64 0)], [F.lit (Value.int IntKind.i64 0)], [F.lit (Value.int IntKind.i64 20)]] q (t + 1)) (pk [[F.lit (Value.int IntKind.i64 60)], [F.lit (Value.int IntKind.i64 200)], [F.lit (Value.int IntKind.i64 1000)]] q (t + 1 + 1))
     rows0 (by simp [rows0]) (pk [[F.lit (Value.int IntKind.i64 0)], [F.lit (Value.int IntKind.i64 0)], [F.lit (Value.int IntKind.i64 5)], [F.lit (Value.int IntKind.i64 10)]] q (t + 1 + 1 + 1)) P P.length i q (t := t1 + 1) (by omega) (by omega)
    obtain ⟨r', t', k0, k1, k2, k3, k4⟩ := lp21 m hm P q hP d n (i + 1) r2 t2 (by omega) (by omega) (by omega) (by omega) (by omega) j0
    refine ⟨r', t', k0, by omega, by omega, by omega, fun R k => ?_⟩
    rw [Lp21_3]
    simp only [Lp21_3_step, wP1 hi, tN]
    rw [dT (by omega), dT (by omega), gn22 m q h3 (by omega) (by omega) (by omega), beq_false_of_ne c0]
    refine Eq.trans (bF rfl) ?_
    rw [gn7 m q _ (by omega) (by omega) (by simp) (by simp), gn7 m q _ (by omega) (by omega) (by simp) (by simp), gn7 m q _ (by omega) (by omega) (by simp) (by simp)]
    refine Eq.trans (s4 R _) ?_
    rw [gn22 m q (by omega) (by omega) (by omega) (by omega), beq_false_of_ne c1]
    refine Eq.trans (bF rfl) ?_
    refine Eq.trans (j4 R _) ?_
    exact k4 R k
end Go.Proofs.YtgpdmhkakbaoeaaDoor.Med
end
section
set_option linter.unusedVariables false
set_option linter.unusedSimpArgs false
set_option linter.unusedSectionVars false
namespace Go.Proofs.YtgpdmhkakbaoeaaDoor.Med
open Go Go.Abs Go.Proofs
set_option linter.unusedVariables false
set_option linter.unusedSimpArgs false
/-! what is drawn: agents, callers, a style -/
theorem fn21 (m : Nat) (hm : 30 ≤ m) (q : Abs.Rows) {t : Int} (h0 : 0 ≤ t) (h1 : t ≤ 5000) :
  ∃ (r : Abs.Rows) (t' : Int), AOk r ∧ r.length ≤ 3 ∧ t ≤ t' ∧ t' ≤ t + 36 ∧ ∀ (R : Type) (k : Abs.Rows → Int → Option R), Fn21 (m + 4) q t k = k r t' := by
 obtain ⟨r, t', k0, k1, k2, k3, k4⟩ := lp21 m (by omega) [[F.lit (Value.string { data := #[97, 97] })], [F.lit (Value.string { data := #[97, 98] })], [F.lit (Value.string { data := #[97, 99] })]] q (by simp) 3 (m + 3) 0 rows0 t (by simp) (by omega) h0 (by omega) (by simp [rows0]) aok_nil
 simp only [rows0, List.length_nil] at k1
 refine ⟨r, t', k0, by omega, k2, by omega, fun R k => ?_⟩
 simp only [Fn21]
 exact k4 R _
theorem stR_len (ts : List LT) (r : Abs.Rows) (i j : Nat) (ys : List F) : (stR ts r i j ys).length = r.length := by simp [stR]
abbrev tsA : List LT := [LT.str, LT.lst [LT.str, LT.int IntKind.i64], LT.int IntKind.i64, LT.int IntKind.i64, LT.lst [LT.int IntKind.i64, LT.int IntKind.i64], LT.int IntKind.i64]
theorem jn4 (m : Nat) (r : Abs.Rows) (hA : AOk r) (hr : r.length ≤ 100) (b : Bool) (hb : b = true → 0 < r.length) (q : Abs.Rows) {t : Int} (h0 : 0 ≤ t) (h1 : t ≤ 100000) :
  ∃ (r' : Abs.Rows) (b' : Bool) (t' : Int), r'.length = r.length ∧ t ≤ t' ∧ t' ≤ t + 6 ∧ ∀ (R : Type) (k : Abs.Rows → Bool → Int → Option R), Jn4_2 (m + 4) k r b q t = k r' b' t' := by
 cases b with
 | false => exact ⟨r, false, t, rfl, by omega, by omega, fun R k => rfl⟩
 | true =>
  have hp := hb rfl
  have e1 := Int.emod_nonneg (nx q t) (show (r.length : Int) ≠ 0 by omega)
  have e2 := Int.emod_lt_of_pos (nx q t) (show 0 < (r.length : Int) by omega)
  have key : ∃ (i j : Nat) (ys : List F) (t' : Int), t ≤ t' ∧ t' ≤ t + 6 ∧ ∀ (R : Type) (k : Abs.Rows → Bool → Int → Option R), Jn4_2 (m + 4) k r true q t = k (stR tsA r i j ys) true t' := by
   have base : ∀ (R : Type) (k : Abs.Rows → Bool → Int → Option R), Jn4_2 (m + 4) k r true q t = _ := fun R k => by
    simp only [Jn4_2, cond_true]
    rw [gn23 (m + 2) q h0 (by omega) (by omega) (by omega), dT ⟨e1, e2⟩, gn23 (m + 2) q (by omega) (by omega) (by omega) (by omega)]
   by_cases c0 : nx q (t + 1) % 5 = 0
   ·exact ⟨_, _, _, t + 1 + 1 + 1, by omega, by omega, fun R k => by
     refine (base R k).trans ?_
     rw [eT c0, gn24 (m + 1) q _ (by omega) (by omega) (by simp) (by simp)]
     all_goals rfl⟩
   by_cases c1 : nx q (t + 1) % 5 = 1
   ·obtain ⟨v, t2, g1, g2, g3⟩ := gn25 m q (i := t + 1 + 1 + 1) (lo := 1) (hi := 9) (by omega) (by omega) (by omega) (by omega) (by omega)
    exact ⟨_, _, _, t2, by omega, by omega, fun R k => by
     refine (base R k).trans ?_
     rw [eF c0, eT c1, gn24 (m + 1) q _ (by omega) (by omega) (by simp) (by simp)]
     refine Eq.trans (g3 R _) ?_
     have := (hA (nx q t % (r.length : Int)).toNat).1
     rw [dT (by simp [rM]; omega)]
     simp only [letV]
     rw [beqT]
     all_goals rfl⟩
   by_cases c2 : nx q (t + 1) % 5 = 2
   ·obtain ⟨v, t2, g1, g2, g3⟩ := gn25 m q (i := t + 1 + 1) (lo := 0) (hi := 50) (by omega) (by omega) (by omega) (by omega) (by omega)
    obtain ⟨v2, t3, g4, g5, g6⟩ := gn25 m q (i := t2) (lo := 0) (hi := 100) (by omega) (by omega) (by omega) (by omega) (by omega)
    exact ⟨_, _, _, t3, by omega, by omega, fun R k => by
     refine (base R k).trans ?_
     rw [eF c0, eF c1, eT c2]
     refine Eq.trans (g3 R _) (Eq.trans (g6 R _) ?_)
     all_goals rfl⟩
   by_cases c3 : nx q (t + 1) % 5 = 3
   ·obtain ⟨v, t2, g1, g2, g3⟩ := gn25 m q (i := t + 1 + 1) (lo := 0) (hi := 50) (by omega) (by omega) (by omega) (by omega) (by omega)
    obtain ⟨v2, t3, g4, g5, g6⟩ := gn25 m q (i := t2) (lo := 0) (hi := 100) (by omega) (by omega) (by omega) (by omega) (by omega)
    exact ⟨_, _, _, t3, by omega, by omega, fun R k => by
     refine (base R k).trans ?_
     rw [eF c0, eF c1, eF c2, eT c3]
     refine Eq.trans (g3 R _) (Eq.trans (g6 R _) ?_)
     have := (hA (nx q t % (r.length : Int)).toNat).2
     rw [dT (by simp [rM]; omega)]
     simp only [letV]
     rw [beqT]
     all_goals rfl⟩
   ·obtain ⟨v, t2, g1, g2, g3⟩ := gn25 m q (i := t + 1 + 1) (lo := 0) (hi := 100) (by omega) (by omega) (by omega) (by omega) (by omega)
    exact ⟨_, _, _, t2, by omega, by omega, fun R k => by
     refine (base R k).trans ?_
     rw [eF c0, eF c1, eF c2, eF c3]
     refine Eq.trans (g3 R _) ?_
     all_goals rfl⟩
  obtain ⟨i, j, ys, t', k1, k2, k3⟩ := key
  exact ⟨_, true, t', stR_len _ _ _ _ _, k1, k2, k3⟩
theorem fn4 (m : Nat) (hm : 30 ≤ m) (q : Abs.Rows) {t : Int} (h0 : 0 ≤ t) (h1 : t ≤ 5000) :
  ∃ (r : Abs.Rows) (t' : Int), r.length ≤ 3 ∧ t ≤ t' ∧ t' ≤ t + 50 ∧ ∀ (R : Type) (k : Abs.Rows → Int → Option R), Fn4 (m + 5) q t k = k r t' := by
 obtain ⟨r, t1, k0, k1, k2, k3, k4⟩ := fn21 m hm q h0 h1
 by_cases c : 0 < r.length
 ·obtain ⟨r', b', t', j1, j2, j3, j4⟩ := jn4 m r k0 (by omega) (nx q t1 % 12 == 0) (fun _ => c) q (t := t1 + 1) (by omega) (by omega)
  refine ⟨r', t', by omega, by omega, by omega, fun R k => ?_⟩
  simp only [Fn4]
  refine Eq.trans (k4 R _) ?_
  rw [dT (by omega), gn22 (m + 1) q (by omega) (by omega) (by omega) (by omega)]
  exact j4 R _
 ·obtain ⟨r', b', t', j1, j2, j3, j4⟩ := jn4 m r k0 (by omega) false (fun h => by cases h) q (t := t1) (by omega) (by omega)
  refine ⟨r', t', by omega, by omega, by omega, fun R k => ?_⟩
  simp only [Fn4]
  refine Eq.trans (k4 R _) ?_
  rw [dF (by omega)]
  exact j4 R _
theorem encB (i : Nat) (h : i ≤ 20) : ByteArray.size { data := #[99] } + ByteArray.size (Utf8.encode (IntKind.wrap IntKind.i32 (IntKind.wrap IntKind.i64 ((97 : Int) + (i : Int))))) ≤ strMax := by
 have h1 : ((List.range 21).all fun i => decide (ByteArray.size { data := #[99] } + ByteArray.size (Utf8.encode (IntKind.wrap IntKind.i32 (IntKind.wrap IntKind.i64 ((97 : Int) + (i : Int))))) ≤ strMax)) = true := by kernel_rfl
 exact of_decide_eq_true (List.all_eq_true.1 h1 i (List.mem_range.2 (by omega)))
theorem lp26 (m : Nat) (N : Nat) (hN : N ≤ 20) (q : Abs.Rows) : ∀ (d n i : Nat) (r : Abs.Rows) (a t : Int), i + d = N → d < n → 0 ≤ t → t + 8 * d ≤ 10000 → r.length + d ≤ 900 →
  ∃ (r' : Abs.Rows) (a' t' : Int), r'.length ≤ r.length + d ∧ t ≤ t' ∧ t' ≤ t + 8 * d ∧ ∀ (R : Type) (k : Abs.Rows → Int → Int → Int → Option R), Lp26_4 (m + 3) k N q n r a i t = k r' a' N t'
 | _, 0, _, _, _, _, _, h, _, _, _ => by omega
 | 0, n + 1, i, r, a, t, h1, h2, h3, h4, h5 => by
  refine ⟨r, a, t, by omega, by omega, by omega, fun R k => ?_⟩
  rw [Lp26_4]
  simp only [Lp26_4_step]
  rw [dF (by omega), show i = N by omega]
 | d + 1, n + 1, i, r, a, t, h1, h2, h3, h4, h5 => by
  have key : ∃ (x : List F) (a' : Int), ∀ (R : Type) (k : Abs.Rows → Int → Int → Int → Option R), Lp26_4 (m + 3) k N q (n + 1) r a i t = Lp26_4 (m + 3) k N q n (r ++ [x]) a' ((i + 1 : Nat) : Int) (t + 1 + 1 + 1 + 1 + 1 + 1 + 1) := ⟨_, _, fun R k => by
   rw [Lp26_4]
   simp only [Lp26_4_step, wP1 (show i ≤ 1000000 by omega)]
   rw [dT (by omega), gn7 m q _ (by omega) (by omega) (by simp) (by simp), dT (encB i (by omega)), gn24 m q _ (by omega) (by omega) (by simp) (by simp), gn7 m q _ (by omega) (by omega) (by simp) (by simp), gn7 m q _ (by omega) (by omega) (by simp) (by simp), gn7 m q _ (by omega) (by omega) (by simp) (by simp),
    gn7 m q _ (by omega) (by omega) (by simp) (by simp), gn22 m q (by omega) (by omega) (by omega) (by omega), dT (by simp [rM]; omega)]
   rfl⟩
  obtain ⟨x, a', hx⟩ := key
  obtain ⟨r', a2, t', k1, k2, k3, k4⟩ := lp26 m N hN q d n (i + 1) (r ++ [x]) a' (t + 1 + 1 + 1 + 1 + 1 + 1 + 1) (by omega) (by omega) (by omega) (by omega) (by simp; omega)
  refine ⟨r', a2, t', by simp at k1; omega, by omega, by omega, fun R k => ?_⟩
  rw [hx]
  exact k4 R k
theorem fn26 (m : Nat) (hm : 30 ≤ m) (q : Abs.Rows) {t : Int} (h0 : 0 ≤ t) (h1 : t ≤ 5000) (N : Nat) (hN : N ≤ 20) :
  ∃ (r : Abs.Rows) (t' : Int), r.length ≤ N ∧ t ≤ t' ∧ t' ≤ t + 200 ∧ ∀ (R : Type) (k : Abs.Rows → Int → Option R), Fn26 (m + 4) q t N k = k r t' := by
 have e1 := Int.emod_nonneg (nx q t) (show (N : Int) - 0 + 1 ≠ 0 by omega)
 have e2 := Int.emod_lt_of_pos (nx q t) (show 0 < (N : Int) - 0 + 1 by omega)
 obtain ⟨M, hM⟩ := Int.eq_ofNat_of_zero_le (show 0 ≤ 0 + nx q t % ((N : Int) - 0 + 1) by omega)
 obtain ⟨r', a', t', k1, k2, k3, k4⟩ := lp26 m M (by omega) q M (m + 3) 0 rows0 0 (t + 1) (by omega) (by omega) (by omega) (by omega) (by simp [rows0]; omega)
 simp only [rows0, List.length_nil] at k1
 refine ⟨r', t', by omega, by omega, by omega, fun R k => ?_⟩
 simp only [Fn26]
 rw [gn46 m q h0 (by omega) (by omega) (by omega) (by omega), hM]
 exact k4 R _
abbrev tsC : List LT := [LT.str, LT.str, LT.int IntKind.i64, LT.int IntKind.i64, LT.int IntKind.i64, LT.int IntKind.i64, LT.int IntKind.i64, LT.bool]
theorem jn5 (m : Nat) (r : Abs.Rows) (hr : r.length ≤ 100) (b : Bool) (hb : b = true → 0 < r.length) (q : Abs.Rows) {t : Int} (h0 : 0 ≤ t) (h1 : t ≤ 100000) :
  ∃ (r' : Abs.Rows) (b' : Bool) (t' : Int), r'.length = r.length ∧ t ≤ t' ∧ t' ≤ t + 6 ∧ ∀ (R : Type) (k : Abs.Rows → Bool → Int → Option R), Jn5_2 (m + 4) k r b q t = k r' b' t' := by
 cases b with
 | false => exact ⟨r, false, t, rfl, by omega, by omega, fun R k => rfl⟩
 | true =>
  have hp := hb rfl
  have e1 := Int.emod_nonneg (nx q t) (show (r.length : Int) ≠ 0 by omega)
  have e2 := Int.emod_lt_of_pos (nx q t) (show 0 < (r.length : Int) by omega)
  have base : ∀ (R : Type) (k : Abs.Rows → Bool → Int → Option R), Jn5_2 (m + 4) k r true q t = _ := fun R k => by
   simp only [Jn5_2, cond_true]
   rw [gn23 (m + 2) q h0 (by omega) (by omega) (by omega), dT ⟨e1, e2⟩, gn23 (m + 2) q (by omega) (by omega) (by omega) (by omega)]
  have key : ∃ (i j i2 j2 : Nat) (ys ys2 : List F) (t' : Int), t ≤ t' ∧ t' ≤ t + 6 ∧ ((∀ (R : Type) (k : Abs.Rows → Bool → Int → Option R), Jn5_2 (m + 4) k r true q t = k (stR tsC (stR tsC r i j ys) i2 j2 ys2) true t') ∨ ∀ (R : Type) (k : Abs.Rows → Bool → Int → Option R), Jn5_2 (m + 4) k r true q t = k (stR tsC r i j ys) true t') := by
   by_cases c0 : nx q (t + 1) % 5 = 0
   ·exact ⟨_, _, 0, 0, _, [], t + 1 + 1 + 1, by omega, by omega, .inr fun R k => by
     refine (base R k).trans ?_
     rw [eT c0, gn24 (m + 1) q _ (by omega) (by omega) (by simp) (by simp)]
     all_goals rfl⟩
   by_cases c1 : nx q (t + 1) % 5 = 1
   ·obtain ⟨v, t2, g1, g2, g3⟩ := gn25 m q (i := t + 1 + 1 + 1) (lo := 1) (hi := 9) (by omega) (by omega) (by omega) (by omega) (by omega)
    exact ⟨_, _, _, _, _, _, t2, by omega, by omega, .inl fun R k => by
     refine (base R k).trans ?_
     rw [eF c0, eT c1, gn24 (m + 1) q _ (by omega) (by omega) (by simp) (by simp)]
     refine Eq.trans (g3 R _) ?_
     all_goals rfl⟩
   by_cases c2 : nx q (t + 1) % 5 = 2
   ·obtain ⟨v, t2, g1, g2, g3⟩ := gn25 m q (i := t + 1 + 1) (lo := 0) (hi := 50) (by omega) (by omega) (by omega) (by omega) (by omega)
    exact ⟨_, _, 0, 0, _, [], t2, by omega, by omega, .inr fun R k => by
     refine (base R k).trans ?_
     rw [eF c0, eF c1, eT c2]
     refine Eq.trans (g3 R _) ?_
     all_goals rfl⟩
   by_cases c3 : nx q (t + 1) % 5 = 3
   ·obtain ⟨v, t2, g1, g2, g3⟩ := gn25 m q (i := t + 1 + 1) (lo := 0) (hi := 50) (by omega) (by omega) (by omega) (by omega) (by omega)
    obtain ⟨v2, t3, g4, g5, g6⟩ := gn25 m q (i := t2) (lo := 1) (hi := 50) (by omega) (by omega) (by omega) (by omega) (by omega)
    exact ⟨_, _, _, _, _, _, t3, by omega, by omega, .inl fun R k => by
     refine (base R k).trans ?_
     rw [eF c0, eF c1, eF c2, eT c3]
     refine Eq.trans (g3 R _) (Eq.trans (g6 R _) ?_)
     all_goals rfl⟩
   ·obtain ⟨v, t2, g1, g2, g3⟩ := gn25 m q (i := t + 1 + 1) (lo := 0) (hi := 9) (by omega) (by omega) (by omega) (by omega) (by omega)
    exact ⟨_, _, 0, 0, _, [], t2, by omega, by omega, .inr fun R k => by
     refine (base R k).trans ?_
     rw [eF c0, eF c1, eF c2, eF c3]
     refine Eq.trans (g3 R _) ?_
     all_goals rfl⟩
  obtain ⟨i, j, i2, j2, ys, ys2, t', k1, k2, k3 | k3⟩ := key
  ·exact ⟨_, true, t', (stR_len _ _ _ _ _).trans (stR_len _ _ _ _ _), k1, k2, k3⟩
  ·exact ⟨_, true, t', stR_len _ _ _ _ _, k1, k2, k3⟩
theorem fn5 (m : Nat) (hm : 30 ≤ m) (q : Abs.Rows) {t : Int} (h0 : 0 ≤ t) (h1 : t ≤ 5000) (N : Nat) (hN : N ≤ 20) :
  ∃ (r : Abs.Rows) (t' : Int), r.length ≤ N ∧ t ≤ t' ∧ t' ≤ t + 210 ∧ ∀ (R : Type) (k : Abs.Rows → Int → Option R), Fn5 (m + 5) q t N k = k r t' := by
 obtain ⟨r, t1, k1, k2, k3, k4⟩ := fn26 m hm q h0 h1 N hN
 by_cases c : 0 < r.length
 ·obtain ⟨r', b', t', j1, j2, j3, j4⟩ := jn5 m r (by omega) (nx q t1 % 12 == 0) (fun _ => c) q (t := t1 + 1) (by omega) (by omega)
  refine ⟨r', t', by omega, by omega, by omega, fun R k => ?_⟩
  simp only [Fn5]
  refine Eq.trans (k4 R _) ?_
  rw [dT (by omega), gn22 (m + 1) q (by omega) (by omega) (by omega) (by omega)]
  exact j4 R _
 ·obtain ⟨r', b', t', j1, j2, j3, j4⟩ := jn5 m r (by omega) false (fun h => by cases h) q (t := t1) (by omega) (by omega)
  refine ⟨r', t', by omega, by omega, by omega, fun R k => ?_⟩
  simp only [Fn5]
  refine Eq.trans (k4 R _) ?_
  rw [dF (by omega)]
  exact j4 R _
theorem fn6 (m : Nat) (q : Abs.Rows) {t : Int} (h0 : 0 ≤ t) (h1 : t ≤ 5000) :
  ∃ (a b c t' : Int), t ≤ t' ∧ t' ≤ t + 20 ∧ ∀ (R : Type) (k : Int → Int → Int → Int → Option R), Fn6 (m + 5) q t k = k a b c t' := by
 have base : ∀ (R : Type) (k : Int → Int → Int → Int → Option R), Fn6 (m + 5) q t k = _ := fun R k => by
  simp only [Fn6, Fn27]
  rw [gn46 m q h0 (by omega) (by omega) (by omega) (by omega), gn7 m q _ (by omega) (by omega) (by simp) (by simp), gn7 m q _ (by omega) (by omega) (by simp) (by simp), gn22 (m + 1) q (by omega) (by omega) (by omega) (by omega)]
 by_cases c : nx q (t + 1 + 1 + 1) % 15 = 0
 ·obtain ⟨v1, t1, g1, g2, g3⟩ := gn25 m q (i := t + 1 + 1 + 1 + 1) (lo := 1) (hi := 4) (by omega) (by omega) (by omega) (by omega) (by omega)
  obtain ⟨v2, t2, g4, g5, g6⟩ := gn25 m q (i := t1) (lo := 0) (hi := 20) (by omega) (by omega) (by omega) (by omega) (by omega)
  obtain ⟨v3, t3, g7, g8, g9⟩ := gn25 m q (i := t2) (lo := 0) (hi := 20) (by omega) (by omega) (by omega) (by omega) (by omega)
  exact ⟨v1, v2, v3, t3, by omega, by omega, fun R k => by
   refine (base R k).trans ?_
   rw [beq_iff_eq.2 c]
   refine Eq.trans (bT rfl) ?_
   exact (g3 R _).trans ((g6 R _).trans (g9 R _))⟩
 ·exact ⟨_, _, _, t + 1 + 1 + 1 + 1, by omega, by omega, fun R k => by
   refine (base R k).trans ?_
   rw [beq_false_of_ne c]
   rfl⟩
end Go.Proofs.YtgpdmhkakbaoeaaDoor.Med
end
section
set_option linter.unusedVariables false
set_option linter.unusedSimpArgs false
set_option linter.unusedSectionVars false
namespace Go.Proofs.YtgpdmhkakbaoeaaDoor.Med
open Go Go.Abs Go.Proofs
set_option linter.unusedVariables false
set_option linter.unusedSimpArgs false
/-! the law -/
theorem nz2 (m : Nat) (hm : 60 ≤ m) (a b : Int) {R : Type} (k : Int → Option R) : Fn15 (m + 1) [[F.lit (Value.int IntKind.i64 a)], [F.lit (Value.int IntKind.i64 b)]] k = k (if a ≠ 0 then a else b) := by
 refine Eq.trans (fn15 m [a, b] (by simp) (by omega) k) ?_
 congr 1
 simp only [nz]
 grind
theorem lp318 (m : Nat) (hm : 1300 ≤ m) (b0 : Bool) (r1 r2 : Abs.Rows) (hl : r2.length ≤ 1000) (a : Int) (s : ByteArray) (sk : Abs.Rows) (f t : Int) (pa : Abs.Rows) (w x : Int) (hx : x = oneA s sk f t pa w) (n1 : Nat) (c e : Int) {R : Type} (kx0 : Bool → Int → Option R) (kx1 : Int → Option R) : ∀ (d n i : Nat), i + d = r2.length → d < n →
  Lp3_18 (m + 6) kx0 kx1 b0 r1 r2 a s sk f t pa w x n1 c e r2.length r2.length n i = kx1 r2.length
 | _, 0, _, _, h => by omega
 | 0, n + 1, i, h1, h2 => by
  rw [Lp3_18]
  simp only [Lp3_18_step]
  rw [dF (by omega), show i = r2.length by omega]
 | d + 1, n + 1, i, h1, h2 => by
  have ih := lp318 m hm b0 r1 r2 hl a s sk f t pa w x hx n1 c e kx0 kx1 d n (i + 1) (by omega) (by omega)
  rw [Lp3_18]
  simp only [Lp3_18_step, wP1 (show i ≤ 1000000 by omega), tN]
  rw [dT (by omega), dT (by omega)]
  refine Eq.trans (fn18 (m + 1) (by omega) s sk f t pa w _ _ _ _ _ _ _ _ _) ?_
  by_cases h : oneA s sk f t pa w = 0
  ·rw [if_neg (by simpa using h)]
   by_cases h2 : casF (rowC (fS r2 i 0) (fS r2 i 1) (fI r2 i 2) (fI r2 i 3) (fI r2 i 4) (fI r2 i 5) (fI r2 i 6) (fB r2 i 7)) = 0
   ·rw [if_neg (by simpa using h2)]
    refine Eq.trans (fn11 (m + 1) (by omega) _ _) ?_
    refine Eq.trans (nz2 (m + 5) (by omega) _ _ _) ?_
    rw [hx, h, h2, if_neg (by decide), nF rfl, eT rfl]
    refine Eq.trans (fn19 (m + 4) (by omega) s sk (one_ok h).1 f t pa w _ _ _ _ _ _ _ _ _) ?_
    rw [← ih, hx, h]
    cases decide (lvE sk (fS r2 i 1) sk.length 0 ≥ fI r2 i 3) <;> rfl
   ·rw [if_pos h2]
    refine Eq.trans (fn11 (m + 1) (by omega) _ _) ?_
    refine Eq.trans (nz2 (m + 5) (by omega) _ _ _) ?_
    rw [hx, h, if_neg (by decide), nF rfl, eF h2, ← ih, hx, h]
    rfl
  ·rw [if_pos h]
   refine Eq.trans (fn11 (m + 1) (by omega) _ _) ?_
   refine Eq.trans (nz2 (m + 5) (by omega) _ _ _) ?_
   rw [hx, if_pos h, nF rfl, eF h, ← ih, hx]
   rfl
theorem jn316 (m : Nat) (hm : 1300 ≤ m) (b0 : Bool) (r1 r2 : Abs.Rows) (hl : r2.length ≤ 1000) (a : Int) (s : ByteArray) (sk : Abs.Rows) (f t : Int) (pa : Abs.Rows) (w x : Int) (hx : x = oneA s sk f t pa w) (n1 : Nat) (c e : Int) {R : Type} (kx0 : Bool → Option R) (kx1 : Option R) :
  Jn3_16 (m + 6) kx0 kx1 b0 r1 r2 a s sk f t pa w x n1 c e = kx1 := by
 simp only [Jn3_16]
 exact lp318 m hm b0 r1 r2 hl a s sk f t pa w x hx n1 c e _ _ r2.length (m + 6) 0 (by omega) (by omega)
theorem lp37 (m : Nat) (hm : 1300 ≤ m) (b0 : Bool) (r1 r2 : Abs.Rows) (hl1 : r1.length ≤ 1000) (hl : r2.length ≤ 1000) (a : Int) {R : Type} (kx0 : Bool → Int → Option R) (kx1 : Int → Option R) : ∀ (d n i : Nat), i + d = r1.length → d < n →
  Lp3_7 (m + 6) kx0 kx1 b0 r1 r2 a r1.length r1.length n i = kx1 r1.length
 | _, 0, _, _, h => by omega
 | 0, n + 1, i, h1, h2 => by
  rw [Lp3_7]
  simp only [Lp3_7_step]
  rw [dF (by omega), show i = r1.length by omega]
 | d + 1, n + 1, i, h1, h2 => by
  have ih := lp37 m hm b0 r1 r2 hl1 hl a kx0 kx1 d n (i + 1) (by omega) (by omega)
  rw [Lp3_7]
  simp only [Lp3_7_step, wP1 (show i ≤ 1000000 by omega), tN]
  rw [dT (by omega), dT (by omega)]
  refine Eq.trans (fn9 (m + 1) (by omega) (rowA (fS r1 i 0) (fR r1 i 1) (fI r1 i 2) (fI r1 i 3) (fR r1 i 4) (fI r1 i 5)) _) ?_
  rw [ags_one]
  refine Eq.trans (fn14 (m + 1) (by omega) _ _ _ _ _ _ _ _) ?_
  have hj := fun {kx0 : Bool → Option R} {kx1 : Option R} (c e : Int) => jn316 m hm b0 r1 r2 hl a (fS r1 i 0) (fR r1 i 1) (fI r1 i 2) (fI r1 i 3) (fR r1 i 4) (fI r1 i 5) _ rfl r1.length c e kx0 kx1
  by_cases h : oneA (fS r1 i 0) (fR r1 i 1) (fI r1 i 2) (fI r1 i 3) (fR r1 i 4) (fI r1 i 5) = 0
  ·rw [if_neg (by simpa using h)]
   cases hb : momB a with
   | false =>
    rw [if_pos rfl]
    refine Eq.trans (fn16 (m + 3) a _) ?_
    refine Eq.trans (nz2 (m + 5) (by omega) _ _ _) ?_
    rw [hb, if_pos rfl, if_neg (by simpa using h), nF rfl, eF (by decide)]
    refine Eq.trans (bF rfl) ?_
    rw [hj, ih]
   | true =>
    rw [if_neg (by decide)]
    refine Eq.trans (fn16 (m + 3) a _) ?_
    refine Eq.trans (nz2 (m + 5) (by omega) _ _ _) ?_
    rw [hb, if_neg (show ¬ (true = false) by decide), if_neg (by simpa using h), nF rfl, eT rfl]
    refine Eq.trans (fn17 (m + 1) (by omega) _ _ _ _ _ (one_ok h).2 _ _ _) ?_
    refine Eq.trans (bF ?_) ?_
    ·cases prB (fI r1 i 2) (fI r1 i 3) (fR r1 i 4) a <;> rfl
    ·rw [hj, ih]
  ·rw [if_pos h]
   refine Eq.trans (fn16 (m + 3) a _) ?_
   refine Eq.trans (nz2 (m + 5) (by omega) _ _ _) ?_
   rw [if_pos h, nF rfl, eF h]
   refine Eq.trans (bF rfl) ?_
   rw [hj, ih]
theorem fn20 (m : Nat) (hm : 1300 ≤ m) {R : Type} (k : Bool → Option R) : Fn20 (m + 6) k = k true := by
 simp only [Fn20]
 refine Eq.trans (fn14 m (by omega) _ _ _ _ _ _ _ _) ?_
 have h1 : oneA { data := #[97] } rows0 0 5 rows0 0 = 0 := by decide
 have h2 : momB 4 = true := by decide
 have h3 : prB 0 5 rows0 4 = true := by decide
 rw [h1, if_neg (by decide), h2, if_neg (by decide), h3]
 rfl
theorem fn3 (m : Nat) (q : Abs.Rows) {R : Type} (k : Bool → Option R) : Fn3 (m + 1400) q k = k true := by
 obtain ⟨r, t1, k1, k2, k3, k4⟩ := fn4 (m + 1394) (by omega) q (t := 0) (by omega) (by omega)
 obtain ⟨c, t2, j1, j2, j3, j4⟩ := fn5 (m + 1394) (by omega) q (t := t1) (by omega) (by omega) 6 (by omega)
 obtain ⟨s, g, y, t3, i2, i3, i4⟩ := fn6 (m + 1394) q (t := t2) (by omega) (by omega)
 simp only [Fn3]
 refine Eq.trans (k4 R _) ?_
 refine Eq.trans (j4 R _) ?_
 refine Eq.trans (i4 R _) ?_
 rw [gn7 (m + 1396) q _ (by omega) (by omega) (by simp) (by simp)]
 refine Eq.trans (fn8 (m + 1396) (by omega) r _) ?_
 refine Eq.trans (fn9 (m + 1394) (by omega) r _) ?_
 rw [nF rfl]
 refine Eq.trans (fn10 (m + 1396) (by omega) c _) ?_
 refine Eq.trans (fn11 (m + 1394) (by omega) c _) ?_
 rw [nF rfl]
 refine Eq.trans (fn12 (m + 1397) s g y _) ?_
 refine Eq.trans (fn13 (m + 1397) s g y _) ?_
 rw [nF rfl]
 simp only [Jn3_5]
 refine Eq.trans (lp37 (m + 1393) (by omega) false r c (by omega) (by omega) _ _ _ r.length (m + 1399) 0 (by omega) (by omega)) ?_
 exact fn20 (m + 1393) (by omega) k
end Go.Proofs.YtgpdmhkakbaoeaaDoor.Med
end
section
set_option linter.unusedVariables false
set_option linter.unusedSimpArgs false
set_option linter.unusedSectionVars false
namespace Go.Proofs.YtgpdmhkakbaoeaaDoor.Med
open Go Go.Abs Go.Proofs Go.RowKit
theorem fn3_ok (rows : Abs.Rows) (m : Nat) (h : ∀ (R : Type) (k : Bool → Option R), Fn3 m rows k = k true) : FnOk Tryd.prog 3 [.f (.lst [.int .i64] rows)] (vBool true) [.undef] := by
 refine law_of (okT52 m) fun R k => ?_
 exact h R _
theorem globN (w : World) : GlobOk fun b => w.heap[b]? := fun g ts rows e => by cases e
theorem walk3 (w : World) (a : Option Addr) (len cap : Nat) (zs : List Int) (h : IsInts .i64 w a len cap zs) :
  Calls Tryd.prog 3 #[.slice a len cap] w fun e w' => e = .returned (.bool true) ∧ Below w.heap.size w w' := by
 obtain ⟨body, hb⟩ : ∃ b, Tryd.f3.body = some b := ⟨_, rfl⟩
 exact law_calls Tryd.func3 (by kernel_rfl) hb h (globN w) (fn3_ok _ (0 + 1400) fun R k => fn3 0 _ k)
end Go.Proofs.YtgpdmhkakbaoeaaDoor.Med
end
