/- A part of the proofs of the seat YtngjadgglbkjlaaDoor: no statement of the seat stands here. -/
import Derived.Lib.Strings
import Derived.Lib.Bytealg
import Derived.Test.YtngjadgglbkjlaaDoorMedTyped1
import Derived.Test.YtngjadgglbkjlaaDoorAbsD
section
set_option linter.unusedVariables false
set_option linter.unusedSimpArgs false
set_option linter.unusedSectionVars false
namespace Go.Proofs.YtngjadgglbkjlaaDoor.Med
open Go Go.Abs Go.Proofs
set_option linter.unusedVariables false
set_option linter.unusedSimpArgs false
section
variable {α : Type} {a b : α}
theorem dT {p : Prop} [Decidable p] (h : p) : (bif decide p then a else b) = a := by rw [decide_eq_true h]; rfl
theorem dF {p : Prop} [Decidable p] (h : ¬p) : (bif decide p then a else b) = b := by rw [decide_eq_false h]; rfl
theorem eT {x y : Int} (h : x = y) : (bif x == y then a else b) = a := by simp [h]
theorem nT {x y : Int} (h : ¬ x = y) : (bif x != y then a else b) = a := by rw [bne_iff_ne.2 h]; rfl
theorem nF {x y : Int} (h : x = y) : (bif x != y then a else b) = b := by subst h; rw [bne_self_eq_false]; rfl
theorem eF {x y : Int} (h : ¬ x = y) : (bif x == y then a else b) = b := by rw [beq_false_of_ne h]; rfl
theorem andC {p q : Bool} : (bif p && q then a else b) = bif p then (bif q then a else b) else b := by cases p <;> rfl
theorem orC {p q : Bool} : (bif p || q then a else b) = bif p then a else (bif q then a else b) := by cases p <;> rfl
theorem notC {p : Bool} : (bif !p then a else b) = bif p then b else a := by cases p <;> rfl
theorem bT {c : Bool} (h : c = true) : (bif c then a else b) = a := by subst h; rfl
theorem bF {c : Bool} (h : c = false) : (bif c then a else b) = b := by subst h; rfl
end
theorem w64 {x : Int} (h0 : -9223372036854775808 ≤ x) (h1 : x < 9223372036854775808) : IntKind.wrap .i64 x = x := by
 rw [IntKind.wrap_i64]; omega
theorem w64b (x : Int) : -9223372036854775808 ≤ IntKind.wrap .i64 x ∧ IntKind.wrap .i64 x < 9223372036854775808 := by
 rw [IntKind.wrap_i64]; omega
theorem w8 {x : Int} (h0 : 0 ≤ x) (h1 : x < 256) : IntKind.wrap .u8 x = x := by
 rw [IntKind.wrap_u8]; omega
theorem w8b (x : Int) : 0 ≤ IntKind.wrap .u8 x ∧ IntKind.wrap .u8 x < 256 := by
 rw [IntKind.wrap_u8]; omega
theorem rM : rowMax = 1073741824 := rfl
theorem tm_pos {x y : Int} (h : 0 ≤ x) : Int.tmod x y = x % y := Int.tmod_eq_emod_of_nonneg h
theorem td_pos {x y : Int} (h : 0 ≤ x) : Int.tdiv x y = x / y := Int.tdiv_eq_ediv_of_nonneg h
/-- - -/
theorem stR1 (t : LT) (r : Abs.Rows) (i : Nat) (x : F) : stR [t] r i 0 [x] = r.set i [x] := rfl
theorem fI_set {r : Abs.Rows} {i : Nat} {k : IntKind} {n : Int} (h : i < r.length) : fI (r.set i [F.lit (.int k n)]) i 0 = n := by
 simp [fI, dropF, Abs.rowAt, List.getD_eq_getElem?_getD, h, F.toInt]
theorem fI_set_ne {r : Abs.Rows} {i j : Nat} {x : List F} (h : i ≠ j) : fI (r.set i x) j 0 = fI r j 0 := by
 simp [fI, dropF, Abs.rowAt, List.getD_eq_getElem?_getD, List.getElem?_set_ne h]
theorem fI_app {r : Abs.Rows} {k : IntKind} {n : Int} : fI (r ++ [[F.lit (.int k n)]]) r.length 0 = n := by
 simp [fI, dropF, Abs.rowAt, List.getD_eq_getElem?_getD, F.toInt]
theorem fI_app_lt {r s : Abs.Rows} {i : Nat} (h : i < r.length) : fI (r ++ s) i 0 = fI r i 0 := by
 simp [fI, dropF, Abs.rowAt, List.getD_eq_getElem?_getD, List.getElem?_append_left h]
/-! lists that are made place by place -/
def mk (t : IntKind) (g : Nat → Int) (n : Nat) : Abs.Rows := (List.range n).map fun j => [F.lit (.int t (g j))]
theorem mk_len (t : IntKind) (g : Nat → Int) (n : Nat) : (mk t g n).length = n := by simp [mk]
theorem mk_succ (t : IntKind) (g : Nat → Int) (n : Nat) : mk t g (n + 1) = mk t g n ++ [[F.lit (.int t (g n))]] := by simp [mk, List.range_succ]
theorem mk_set (t : IntKind) (g : Nat → Int) (n d : Nat) (z : List F) : (mk t g n ++ List.replicate (d + 1) z).set n [F.lit (.int t (g n))] = mk t g (n + 1) ++ List.replicate d z := by
 rw [mk_succ, List.set_append_right _ _ (by simp [mk_len]), mk_len, Nat.sub_self, List.replicate_succ, List.set_cons_zero]
 simp
theorem mk_fI (t : IntKind) (g : Nat → Int) {n i : Nat} (h : i < n) : fI (mk t g n) i 0 = g i := by
 simp [fI, dropF, Abs.rowAt, List.getD_eq_getElem?_getD, mk, h, F.toInt]
def Byt (x : Int) : Prop := 0 ≤ x ∧ x < 256
end Go.Proofs.YtngjadgglbkjlaaDoor.Med
end
section
set_option linter.unusedVariables false
set_option linter.unusedSimpArgs false
set_option linter.unusedSectionVars false
namespace Go.Proofs.YtngjadgglbkjlaaDoor.Med
open Go Go.Abs Go.Proofs
set_option linter.unusedVariables false
set_option linter.unusedSimpArgs false
/-! strings as lists of bytes -/
abbrev bs (l : List UInt8) : ByteArray := ⟨l.toArray⟩
theorem bs_of (s : ByteArray) : s = bs s.data.toList := (Lib.mk_data s).symm
theorem bs_size (l : List UInt8) : (bs l).size = l.length := by simp [bs, ByteArray.size]
theorem bs_toList (l : List UInt8) : (bs l).toList = l := by rw [Lib.toList_data]
theorem bs_at (l : List UInt8) (i : Nat) : Array.getD (bs l).data i (0 : UInt8) = l.getD i 0 := by
 simp [bs, Array.getD_eq_getD_getElem?, List.getD_eq_getElem?_getD]
theorem arr_at (l : List UInt8) (i : Nat) : Array.getD l.toArray i (0 : UInt8) = l.getD i 0 := bs_at l i
theorem bs_ext (l : List UInt8) (a b : Nat) : (bs l).extract a b = bs ((l.drop a).take (b - a)) := Lib.extract_eq _ _ _
theorem bs_drop (l : List UInt8) (a : Nat) : (bs l).extract a (bs l).size = bs (l.drop a) := by
 rw [bs_ext, bs_size, List.take_of_length_le (by simp)]
theorem bs_take (l : List UInt8) (b : Nat) : (bs l).extract 0 b = bs (l.take b) := by rw [bs_ext]; simp
theorem bs_app (a b : List UInt8) : bs a ++ bs b = bs (a ++ b) := by
 apply ByteArray.ext
 simp [bs]
/-- - -/
def ixB (b : UInt8) : List UInt8 → Option Nat
 | [] => none
 | x :: l => if x = b then some 0 else (ixB b l).map (· + 1)
theorem find_ix (b : UInt8) : ∀ (l : List UInt8), (List.range l.length).find? (fun i => l.getD i 0 == b) = ixB b l
 | [] => rfl
 | x :: l => by
  rw [List.length_cons, List.range_succ_eq_map, List.find?_cons]
  simp only [List.getD_cons_zero, ixB]
  by_cases h : x = b
  ·simp [h]
  ·have h' : (x == b) = false := by simpa using h
   rw [h', if_neg h, List.find?_map]
   have := find_ix b l
   have e : ((fun i => (x :: l).getD i 0 == b) ∘ Nat.succ) = fun i => l.getD i 0 == b := by funext i; simp
   rw [e, this]
theorem bs_get (l : List UInt8) (i : Nat) : (bs l)[i]! = l.getD i 0 := by
 by_cases h : i < l.length
 ·have h' : i < (bs l).size := by rw [bs_size]; exact h
  rw [getElem!_pos (bs l) i h', List.getD_eq_getElem?_getD, List.getElem?_eq_getElem h]
  show (bs l).data[i] = _
  simp [bs]
 ·have h' : ¬ i < (bs l).size := by rw [bs_size]; exact h
  rw [getElem!_neg (bs l) i h', List.getD_eq_getElem?_getD, List.getElem?_eq_none (by omega)]
  rfl
def ixI (b : UInt8) (l : List UInt8) : Int := match ixB b l with
 | some i => i
 | none => -1
theorem idx_bs (l : List UInt8) (c : Int) : idxByte (bs l) c = ixI c.toNat.toUInt8 l := by
 unfold idxByte ixI
 have : (fun i => (bs l)[i]! == c.toNat.toUInt8) = fun i => l.getD i 0 == c.toNat.toUInt8 := by funext i; rw [bs_get]
 rw [this, bs_size, find_ix]
 cases ixB c.toNat.toUInt8 l <;> rfl
theorem ixB_lt {b : UInt8} : ∀ {l : List UInt8} {i : Nat}, ixB b l = some i → i < l.length ∧ l.getD i 0 = b ∧ b ∉ l.take i
 | [], _, h => by cases h
 | x :: l, i, h => by
  simp only [ixB] at h
  split at h
  ·cases h; rename_i hx; exact ⟨by simp, by simpa using hx, by simp⟩
  ·rename_i hx
   simp only [Option.map_eq_some_iff] at h
   obtain ⟨j, hj, rfl⟩ := h
   obtain ⟨h1, h2, h3⟩ := ixB_lt hj
   refine ⟨by simp; omega, by simpa using h2, ?_⟩
   simp only [List.take_succ_cons, List.mem_cons, not_or]
   exact ⟨fun e => hx e.symm, h3⟩
theorem ixB_none {b : UInt8} : ∀ {l : List UInt8}, ixB b l = none ↔ b ∉ l
 | [] => by simp [ixB]
 | x :: l => by
  simp only [ixB]
  split
  ·rename_i h; simp [h]
  ·rename_i h
   simp only [Option.map_eq_none_iff, List.mem_cons, not_or]
   rw [ixB_none]
   exact ⟨fun e => ⟨fun e2 => h e2.symm, e⟩, fun e => e.2⟩
theorem ixI_nn {b : UInt8} {l : List UInt8} : 0 ≤ ixI b l ↔ b ∈ l := by
 unfold ixI
 cases h : ixB b l with
 | none => simp; exact ixB_none.1 h
 | some i =>
  obtain ⟨h1, h2, _⟩ := ixB_lt h
  simp only [Int.natCast_nonneg, true_iff]
  rw [← h2, List.getD_eq_getElem?_getD, List.getElem?_eq_getElem h1]
  exact List.getElem_mem h1
theorem lT {x y : List UInt8} (h : x = y) {α : Type} {a b : α} : (bif x == y then a else b) = a := by simp [h]
theorem lF {x y : List UInt8} (h : ¬ x = y) {α : Type} {a b : α} : (bif x == y then a else b) = b := by
 rw [beq_false_of_ne h]; rfl
theorem lnT {x y : List UInt8} (h : ¬ x = y) {α : Type} {a b : α} : (bif !(x == y) then a else b) = a := by
 rw [beq_false_of_ne h]; rfl
theorem lnF {x y : List UInt8} (h : x = y) {α : Type} {a b : α} : (bif !(x == y) then a else b) = b := by simp [h]
end Go.Proofs.YtngjadgglbkjlaaDoor.Med
end
section
set_option linter.unusedVariables false
set_option linter.unusedSimpArgs false
set_option linter.unusedSectionVars false
namespace Go.Proofs.YtngjadgglbkjlaaDoor.Med
open Go Go.Abs Go.Proofs
set_option linter.unusedVariables false
set_option linter.unusedSimpArgs false
/-! the order of strings -/
theorem bytesLess_dec : ∀ (x y : List UInt8), Op.bytesLess x y = decide (x < y)
 | [], [] => by simp [Op.bytesLess]
 | _ :: _, [] => by simp [Op.bytesLess]
 | [], _ :: _ => by simp [Op.bytesLess]
 | a :: x, b :: y => by
  rw [Op.bytesLess, bytesLess_dec x y]
  simp only [List.cons_lt_cons_iff]
  by_cases h1 : a < b <;> by_cases h2 : a = b <;> by_cases h3 : x < y <;> simp [h1, h2, h3]
def cmS (a b : List UInt8) : Int := Lib.compareBytes a b
theorem cmpB_bs (a b : List UInt8) : cmpB (bs a) (bs b) = cmS a b := rfl
theorem u8_irr (a : UInt8) : ¬ a < a := UInt8.lt_irrefl a
theorem cmS_lt : ∀ (a b : List UInt8), cmS a b < 0 ↔ a < b
 | [], [] => by simp [cmS, Lib.compareBytes]
 | _ :: _, [] => by simp [cmS, Lib.compareBytes]
 | [], _ :: _ => by simp [cmS, Lib.compareBytes]
 | a :: x, b :: y => by
  have ih := cmS_lt x y
  unfold cmS at ih ⊢
  rw [Lib.compareBytes, List.cons_lt_cons_iff]
  by_cases h1 : a < b
  ·simp [h1]
  ·by_cases h2 : b < a
   ·have h3 : a ≠ b := fun e => u8_irr b (e ▸ h2)
    simp [h1, h2, h3]
   ·have h3 : a = b := UInt8.le_antisymm (UInt8.not_lt.1 h2) (UInt8.not_lt.1 h1)
    simp [h1, h2, h3, ih]
theorem cmS_eq : ∀ (a b : List UInt8), cmS a b = 0 ↔ a = b
 | [], [] => by simp [cmS, Lib.compareBytes]
 | _ :: _, [] => by simp [cmS, Lib.compareBytes]
 | [], _ :: _ => by simp [cmS, Lib.compareBytes]
 | a :: x, b :: y => by
  have ih := cmS_eq x y
  unfold cmS at ih ⊢
  rw [Lib.compareBytes, List.cons.injEq]
  by_cases h1 : a < b
  ·have h3 : a ≠ b := fun e => u8_irr b (e ▸ h1)
   simp [h1, h3]
  ·by_cases h2 : b < a
   ·have h3 : a ≠ b := fun e => u8_irr b (e ▸ h2)
    simp [h1, h2, h3]
   ·have h3 : a = b := UInt8.le_antisymm (UInt8.not_lt.1 h2) (UInt8.not_lt.1 h1)
    simp [h1, h2, h3, ih]
theorem lt_irr (a : List UInt8) : ¬ a < a := List.lt_irrefl a
theorem lt_tr {a b c : List UInt8} (h : a < b) (h2 : b < c) : a < c := List.lt_trans h h2
theorem lt_tri (a b : List UInt8) : a < b ∨ a = b ∨ b < a := by
 rcases Int.lt_trichotomy (cmS a b) 0 with h | h | h
 ·exact .inl ((cmS_lt a b).1 h)
 ·exact .inr (.inl ((cmS_eq a b).1 h))
 ·by_cases c : b < a
  ·exact .inr (.inr c)
  ·exact .inl (by
    have := List.not_lt.1 c
    rcases List.le_iff_lt_or_eq.1 this with h1 | h1
    ·exact h1
    ·subst h1; rw [(cmS_eq a a).2 rfl] at h; omega)
/-! the first fault of a loop -/
def fstE (f : Nat → Int) : Nat → Nat → Int
 | 0, _ => 0
 | d + 1, i => if f i = 0 then fstE f d (i + 1) else f i
theorem fstE_z {f : Nat → Int} : ∀ {d i : Nat}, fstE f d i = 0 → ∀ j, i ≤ j → j < i + d → f j = 0
 | 0, i, _, j, h1, h2 => by omega
 | d + 1, i, h, j, h1, h2 => by
  rw [fstE] at h
  split at h
  ·rename_i c
   by_cases e : j = i
   ·subst e; exact c
   ·exact fstE_z h j (by omega) (by omega)
  ·rename_i c; exact (c h).elim
end Go.Proofs.YtngjadgglbkjlaaDoor.Med
end
section
set_option linter.unusedVariables false
set_option linter.unusedSimpArgs false
set_option linter.unusedSectionVars false
namespace Go.Proofs.YtngjadgglbkjlaaDoor.Med
open Go Go.Abs Go.Proofs
set_option linter.unusedVariables false
set_option linter.unusedSimpArgs false
theorem gn60 (m : Nat) {x y : Int} (hy : 1 ≤ y) (hy2 : y ≤ 1099511627776) {R : Type} {k : Int → Option R} : Fn60 (m + 1) x y k = k (x % y) := by
 have h2 : Int.tmod x y = x % y ∨ (Int.tmod x y + y = x % y ∧ Int.tmod x y < 0 ∧ -y < Int.tmod x y) := by
  by_cases h : 0 ≤ x
  ·exact .inl (Int.tmod_eq_emod_of_nonneg h)
  ·have h3 := Int.tmod_eq_emod (a := x) (b := y)
   have h4 := Int.emod_nonneg x (show y ≠ 0 by omega)
   have h5 := Int.emod_lt_of_pos x (show 0 < y by omega)
   by_cases hd : y ∣ x
   ·left; rw [h3]; simp [hd]
   ·right
    have h6 : Int.tmod x y = x % y - y := by
     rw [h3, if_neg (by simp; exact ⟨by omega, hd⟩)]
     omega
    have h7 : x % y ≠ 0 := fun h => hd (Int.dvd_of_emod_eq_zero h)
    omega
 have h4 := Int.emod_nonneg x (show y ≠ 0 by omega)
 simp only [Fn60]
 rw [dF (by omega), dT (by omega)]
 rcases h2 with h2 | ⟨h2, h3, h5⟩
 ·rw [dF (by omega), h2]
 ·rw [dT h3, w64 (by omega) (by omega), h2]
def nx (r : Abs.Rows) (i : Int) : Int := if (r.length : Int) = 0 then IntKind.wrap .i64 ((i + 1) * 7919) else
 IntKind.wrap IntKind.i64 (fI r (Int.toNat (Int.tmod i (r.length : Int))) 0 % 1073741824 + IntKind.wrap IntKind.i64 (IntKind.wrap IntKind.i64 (Int.tdiv i (r.length : Int)) * IntKind.wrap IntKind.i64 (7919 + Int.tmod i (r.length : Int))))
theorem gn25 (m : Nat) (r : Abs.Rows) {i n : Int} (h0 : 0 ≤ i) (h1 : i ≤ 1099511627776) (hn : 1 ≤ n) (hn2 : n ≤ 1099511627776) {R : Type} {k : Int → Int → Option R} :
  Fn25 (m + 2) r i n k = k (nx r i % n) (i + 1) := by
 have e1 : IntKind.wrap .i64 (i + 1) = i + 1 := w64 (by omega) (by omega)
 have e2 : IntKind.wrap .i64 (i + 1 - 1) = i := by rw [show i + 1 - 1 = i by omega]; exact w64 (by omega) (by omega)
 by_cases hr : (r.length : Int) = 0
 ·simp only [Fn25, e1, nx, hr, if_true]
  rw [eT rfl, gn60 m hn hn2]
 ·have hm1 : 0 ≤ Int.tmod i (r.length : Int) := Int.tmod_nonneg _ h0
  have hm2 : Int.tmod i (r.length : Int) < (r.length : Int) := Int.tmod_lt_of_pos _ (by omega)
  simp only [Fn25, e1, e2, nx, if_neg hr]
  rw [eF hr, dT hr, dT hr, dT ⟨hm1, hm2⟩, gn60 m (by omega) (by omega), gn60 m hn hn2]
  try rfl
theorem gn34 (m : Nat) (r : Abs.Rows) {i n : Int} (h0 : 0 ≤ i) (h1 : i ≤ 1099511627776) (hn : 1 ≤ n) (hn2 : n ≤ 1099511627776) {R : Type} {k : Bool → Int → Option R} :
  Fn34 (m + 3) r i n k = k (nx r i % n == 0) (i + 1) := by
 simp only [Fn34]
 rw [gn25 m r h0 h1 hn hn2]
/-- - -/
def pk (rows q : Abs.Rows) (i : Int) : Int := fI rows (nx q i % (rows.length : Int)).toNat 0
theorem gn37 (m : Nat) (r : Abs.Rows) {i : Int} (rows : Abs.Rows) (h0 : 0 ≤ i) (h1 : i ≤ 1099511627776) (hn : 1 ≤ (rows.length : Int)) (hn2 : (rows.length : Int) ≤ 1099511627776) {R : Type} {k : Int → Int → Option R} :
  Fn37 (m + 3) r i rows k = k (pk rows r i) (i + 1) := by
 have h4 := Int.emod_nonneg (nx r i) (show (rows.length : Int) ≠ 0 by omega)
 have h5 := Int.emod_lt_of_pos (nx r i) (show 0 < (rows.length : Int) by omega)
 simp only [Fn37]
 rw [gn25 m r h0 h1 hn hn2, dT ⟨h4, h5⟩]
 rfl
/-- - -/
theorem pk_all {P : Int → Prop} (rows q : Abs.Rows) (i : Int) (h0 : 0 < rows.length) (h : ∀ j, j < rows.length → P (fI rows j 0)) : P (pk rows q i) := by
 have h4 := Int.emod_nonneg (nx q i) (show (rows.length : Int) ≠ 0 by omega)
 have h5 := Int.emod_lt_of_pos (nx q i) (show 0 < (rows.length : Int) by omega)
 exact h _ (by omega)
theorem gn72 (m : Nat) (r : Abs.Rows) {i lo hi : Int} (h0 : 0 ≤ i) (h1 : i ≤ 1099511627776) (hl : -500000000000 ≤ lo) (hh : hi ≤ 500000000000) (hlh : lo ≤ hi) {R : Type} {k : Int → Int → Option R} :
  Fn72 (m + 3) r i lo hi k = k (lo + nx r i % (hi - lo + 1)) (i + 1) := by
 have h4 := Int.emod_nonneg (nx r i) (show hi - lo + 1 ≠ 0 by omega)
 have h5 := Int.emod_lt_of_pos (nx r i) (show 0 < hi - lo + 1 by omega)
 simp only [Fn72]
 rw [dF (by omega), w64 (x := hi - lo) (by omega) (by omega), w64 (x := hi - lo + 1) (by omega) (by omega), gn25 m r h0 h1 (by omega) (by omega), w64 (by omega) (by omega)]
/-- - -/
def pkS (rows q : Abs.Rows) (i : Int) : ByteArray := fS rows (nx q i % (rows.length : Int)).toNat 0
theorem gn35 (m : Nat) (r : Abs.Rows) {i : Int} (rows : Abs.Rows) (h0 : 0 ≤ i) (h1 : i ≤ 1099511627776) (hn : 1 ≤ (rows.length : Int)) (hn2 : (rows.length : Int) ≤ 1099511627776) {R : Type} {k : ByteArray → Int → Option R} :
  Fn35 (m + 3) r i rows k = k (pkS rows r i) (i + 1) := by
 have h4 := Int.emod_nonneg (nx r i) (show (rows.length : Int) ≠ 0 by omega)
 have h5 := Int.emod_lt_of_pos (nx r i) (show 0 < (rows.length : Int) by omega)
 simp only [Fn35]
 rw [gn25 m r h0 h1 hn hn2, dT ⟨h4, h5⟩]
 rfl
theorem pkS_all {P : ByteArray → Prop} (rows q : Abs.Rows) (i : Int) (h0 : 0 < rows.length) (h : ∀ j, j < rows.length → P (fS rows j 0)) : P (pkS rows q i) := by
 have h4 := Int.emod_nonneg (nx q i) (show (rows.length : Int) ≠ 0 by omega)
 have h5 := Int.emod_lt_of_pos (nx q i) (show 0 < (rows.length : Int) by omega)
 exact h _ (by omega)
/-- - -/
theorem gn55 (m : Nat) (r : Abs.Rows) {i lo hi : Int} (h0 : 0 ≤ i) (h1 : i ≤ 1000000) (hl : -500000000 ≤ lo) (hh : hi ≤ 500000000) (hlh : lo ≤ hi) :
  ∃ (v i' : Int), i ≤ i' ∧ i' ≤ i + 2 ∧ ∀ (R : Type) (k : Int → Int → Option R), Fn55 (m + 4) r i lo hi k = k v i' := by
 by_cases c : nx r i % 12 = 0
 ·apply Exists.intro
  refine ⟨i + 1 + 1, by omega, by omega, fun R k => ?_⟩
  simp only [Fn55]
  rw [gn34 m r h0 (by omega) (by omega) (by omega), eT c, gn37 m r _ (by omega) (by omega) (by simp) (by simp)]
 ·apply Exists.intro
  refine ⟨i + 1 + 1, by omega, by omega, fun R k => ?_⟩
  simp only [Fn55]
  rw [gn34 m r h0 (by omega) (by omega) (by omega), eF c, gn72 m r (by omega) (by omega) (by omega) (by omega) hlh]
end Go.Proofs.YtngjadgglbkjlaaDoor.Med
end
section
set_option linter.unusedVariables false
set_option linter.unusedSimpArgs false
set_option linter.unusedSectionVars false
namespace Go.Proofs.YtngjadgglbkjlaaDoor.Med
open Go Go.Abs Go.Proofs
set_option linter.unusedVariables false
set_option linter.unusedSimpArgs false
/-! what strings are: prefixes, keys, numbers -/
def D10 : List UInt8 := [48, 49, 50, 51, 52, 53, 54, 55, 56, 57]
def S26 : List UInt8 := [97, 98, 99, 100, 101, 102, 103, 104, 105, 106, 107, 108, 109, 110, 111, 112, 113, 114, 115, 116, 117, 118, 119, 120, 121, 122]
def K38 : List UInt8 := [97, 98, 99, 100, 101, 102, 103, 104, 105, 106, 107, 108, 109, 110, 111, 112, 113, 114, 115, 116, 117, 118, 119, 120, 121, 122, 48, 49, 50, 51, 52, 53, 54, 55, 56, 57, 45, 95]
abbrev ls (s : ByteArray) : List UInt8 := s.data.toList
theorem ls_bs (l : List UInt8) : ls (bs l) = l := by simp [ls, bs]
theorem mem_dropW {b : UInt8} {p : UInt8 → Bool} (hb : p b = false) : ∀ (l : List UInt8), b ∈ l → b ∈ l.dropWhile p
 | [], h => by cases h
 | a :: l, h => by
  rw [List.dropWhile_cons]
  by_cases c : p a = true
  ·rw [if_pos c]
   rcases List.mem_cons.1 h with rfl | h
   ·rw [hb] at c; cases c
   ·exact mem_dropW hb l h
  ·rw [if_neg c]; exact h
theorem dropW_all {p : UInt8 → Bool} : ∀ (l : List UInt8), (∀ b ∈ l, p b = true) → l.dropWhile p = []
 | [], _ => rfl
 | a :: l, h => by
  rw [List.dropWhile_cons, if_pos (h a (by simp))]
  exact dropW_all l fun b hb => h b (by simp [hb])
theorem trim_nil (s cs : List UInt8) : Lib.trimS s cs = [] ↔ ∀ b ∈ s, b ∈ cs := by
 unfold Lib.trimS Lib.trimLeftS Lib.trimRightS
 constructor
 ·intro h b hb
  by_cases c : b ∈ cs
  ·exact c
  ·exfalso
   have hp : (fun x => cs.contains x) b = false := by simpa using c
   have h1 : b ∈ (s.reverse.dropWhile fun x => cs.contains x).reverse := List.mem_reverse.2 (mem_dropW hp _ (List.mem_reverse.2 hb))
   have h2 := mem_dropW hp _ h1
   rw [h] at h2
   cases h2
 ·intro h
  rw [dropW_all s.reverse fun b hb => by simpa using h b (List.mem_reverse.1 hb)]
  rfl
theorem trim_eq (s cs : List UInt8) : ((trimB (bs s) (bs cs)).toList == (bs []).toList) = s.all fun b => decide (b ∈ cs) := by
 show ((bs (Lib.trimS s cs)).toList == (bs []).toList) = _
 rw [bs_toList, bs_toList, Bool.eq_iff_iff]
 simp only [beq_iff_eq, trim_nil, List.all_eq_true, decide_eq_true_eq]
theorem trim_ok (s cs : List UInt8) (hs : s.length ≤ 1000) (hc : cs.length ≤ 1000) (hb : (cs.all fun b => decide (b.toNat < 128)) = true) : trimOk (bs s) (bs cs) = true := by
 unfold trimOk
 rw [bs_size, bs_size, decide_eq_true (by omega), decide_eq_true (by omega)]
 exact hb
def keyB (l : List UInt8) : Bool := decide (1 ≤ l.length) && (decide (l.length ≤ 40) && (decide (97 ≤ (l.getD 0 0).toNat) && (decide ((l.getD 0 0).toNat ≤ 122) && l.all fun b => decide (b ∈ K38))))
theorem fn56 (m : Nat) (l : List UInt8) {R : Type} (k : Bool → Option R) : Fn56 (m + 1) (bs l) k = k (keyB l) := by
 simp only [Fn56, bs_size, bs_at, arr_at]
 unfold keyB
 by_cases h1 : 1 ≤ l.length
 ·rw [dT (by omega), decide_eq_true h1, Bool.true_and]
  by_cases h2 : l.length ≤ 40
  ·rw [dT (by omega), decide_eq_true h2, Bool.true_and, dT (by omega)]
   have e0 : Int.toNat 0 = 0 := rfl
   simp only [e0]
   by_cases h3 : 97 ≤ (l.getD 0 0).toNat
   ·rw [dT (by omega), decide_eq_true h3, Bool.true_and, dT (by omega)]
    by_cases h4 : (l.getD 0 0).toNat ≤ 122
    ·rw [dT (by omega), decide_eq_true h4, Bool.true_and]
     refine Eq.trans (bT (trim_ok l K38 (by omega) (by decide) (by decide))) ?_
     congr 1
     exact trim_eq l K38
    ·rw [dF (by omega), decide_eq_false h4, Bool.false_and]
   ·rw [dF (by omega), decide_eq_false h3, Bool.false_and]
  ·rw [dF (by omega), decide_eq_false h2, Bool.false_and]
 ·rw [dF (by omega), decide_eq_false h1, Bool.false_and]
theorem fn57 (m : Nat) (x lo hi : Int) {R : Type} (k : Bool → Option R) : Fn57 (m + 1) x lo hi k = k (decide (lo ≤ x ∧ x ≤ hi)) := by
 simp only [Fn57]
 by_cases h1 : lo ≤ x
 ·rw [dT h1]; congr 1; simp [h1]
 ·rw [dF h1]; congr 1; simp [h1]
theorem fn48 (m : Nat) (x lo hi : Int) {R : Type} (k : Bool → Option R) : Fn48 (m + 1) x lo hi k = k (decide (lo ≤ x ∧ x ≤ hi)) := by
 simp only [Fn48]
 by_cases h1 : lo ≤ x
 ·rw [dT h1]; congr 1; simp [h1]
 ·rw [dF h1]; congr 1; simp [h1]
theorem fn42 (m : Nat) (l : List UInt8) (c : Int) {R : Type} (k : Int → Option R) : Fn42 (m + 2) (bs l) c k = k (ixI c.toNat.toUInt8 l) := by
 simp only [Fn42, Fn83, idx_bs]
theorem lp49 (m : Nat) (s cs : List UInt8) {R : Type} (k : Bool → Option R) (z : Bool) : ∀ (d n i : Nat), i + d = s.length → d < n → s.length ≤ 100000 →
  Lp49_2 (m + 2) (fun b _ => k b) (fun _ => k true) (bs s) (bs cs) z s.length n i = k ((s.drop i).all fun b => decide (b ∈ cs))
 | _, 0, _, _, h, _ => by omega
 | 0, n + 1, i, h1, h2, h3 => by
  have hi : i = s.length := by omega
  rw [Lp49_2]
  simp only [Lp49_2_step]
  rw [dF (by omega), hi, List.drop_length]
  rfl
 | d + 1, n + 1, i, h1, h2, h3 => by
  have e1 : IntKind.wrap .i64 ((i : Int) + 1) = ((i + 1 : Nat) : Int) := by rw [w64 (by omega) (by omega)]; omega
  have hd : s.drop i = s.getD i 0 :: s.drop (i + 1) := by
   rw [List.drop_eq_getElem_cons (by omega), List.getD_eq_getElem?_getD, List.getElem?_eq_getElem (by omega)]
   rfl
  rw [Lp49_2]
  simp only [Lp49_2_step, bs_size, bs_at, arr_at, e1, show Int.toNat (i : Int) = i by omega]
  rw [dT (by omega), dT (by omega)]
  refine Eq.trans (fn42 m cs ((s.getD i 0).toNat : Int) _) ?_
  have hcc : ((s.getD i 0).toNat : Int).toNat.toUInt8 = s.getD i 0 := by simp
  rw [hcc, hd, List.all_cons]
  by_cases c : s.getD i 0 ∈ cs
  ·have := ixI_nn.2 c
   rw [dF (by omega), decide_eq_true c, Bool.true_and]
   exact lp49 m s cs k z d n (i + 1) (by omega) (by omega) h3
  ·have : ¬ 0 ≤ ixI (s.getD i 0) cs := fun h => c (ixI_nn.1 h)
   rw [dT (by omega), decide_eq_false c]
   rfl
theorem fn49 (m : Nat) (s cs : List UInt8) (hs : s.length ≤ 100) (hm : 100 ≤ m) {R : Type} (k : Bool → Option R) : Fn49 (m + 3) (bs s) (bs cs) k = k (s.all fun b => decide (b ∈ cs)) := by
 simp only [Fn49, bs_size]
 exact lp49 m s cs k false s.length (m + 2) 0 (by omega) (by omega) (by omega)
theorem s26 : ((List.range 256).all fun n => decide (n.toUInt8 ∈ S26) == (decide (97 ≤ n) && decide (n ≤ 122))) = true := by kernel_rfl
theorem s26' (b : UInt8) : b ∈ S26 ↔ 97 ≤ b.toNat ∧ b.toNat ≤ 122 := by
 have h := List.all_eq_true.1 s26 b.toNat (List.mem_range.2 b.toNat_lt)
 have e : b.toNat.toUInt8 = b := by simp
 rw [e] at h
 have h := eq_of_beq h
 rw [← Bool.decide_and] at h
 exact decide_eq_decide.1 h
theorem fn59 (m : Nat) (hm : 100 ≤ m) (l : List UInt8) {R : Type} (k : Bool → Option R) : Fn59 (m + 4) (bs l) k = k (keyB l) := by
 simp only [Fn59, bs_size]
 refine Eq.trans (fn48 (m + 2) _ _ _ _) ?_
 unfold keyB
 by_cases h : 1 ≤ l.length ∧ l.length ≤ 40
 ·rw [decide_eq_true (show (1 : Int) ≤ (l.length : Int) ∧ (l.length : Int) ≤ 40 by omega), decide_eq_true h.1, decide_eq_true h.2, Bool.true_and, Bool.true_and]
  refine Eq.trans (bT rfl) ?_
  rw [dT (by omega)]
  have ht : (bs l).extract 0 (Int.toNat 1) = bs [l.getD 0 0] := by
   rw [bs_ext]
   cases l with
   | nil => simp at h
   | cons a t => rfl
  rw [ht]
  refine Eq.trans (fn49 m [l.getD 0 0] S26 (by simp) hm _) ?_
  have e1 : ([l.getD 0 0].all fun b => decide (b ∈ S26)) = (decide (97 ≤ (l.getD 0 0).toNat) && decide ((l.getD 0 0).toNat ≤ 122)) := by
   rw [List.all_cons, List.all_nil, Bool.and_true, ← Bool.decide_and]
   exact decide_eq_decide.2 (s26' _)
  rw [e1]
  cases h3 : decide (97 ≤ (l.getD 0 0).toNat) with
  | false => rfl
  | true =>
   cases h4 : decide ((l.getD 0 0).toNat ≤ 122) with
   | false => rfl
   | true =>
    refine Eq.trans (bT rfl) ?_
    exact fn49 m l K38 (by omega) hm k
 ·rw [decide_eq_false (show ¬ ((1 : Int) ≤ (l.length : Int) ∧ (l.length : Int) ≤ 40) by omega)]
  refine Eq.trans (bF rfl) ?_
  by_cases h1 : 1 ≤ l.length
  ·rw [decide_eq_true h1, decide_eq_false (show ¬ l.length ≤ 40 by omega)]; rfl
  ·rw [decide_eq_false h1]; rfl
/-! the first fault -/
def ei (l : List Int) : Abs.Rows := l.map fun x => [F.lit (.int .i64 x)]
def nz : List Int → Int
 | [] => 0
 | x :: l => if x ≠ 0 then x else nz l
theorem ei_len (l : List Int) : (ei l).length = l.length := by simp [ei]
theorem ei_fI (l : List Int) (i : Nat) (h : i < l.length) : fI (ei l) i 0 = l.getD i 0 := by
 simp [fI, dropF, Abs.rowAt, List.getD_eq_getElem?_getD, ei, h, F.toInt]
theorem lp10 (m : Nat) (l : List Int) (hl : l.length ≤ 1000) {R : Type} (k : Int → Option R) (a : Abs.Rows) (z : Int) : ∀ (d n i : Nat), i + d = l.length → d < n →
  Lp10_2 m (fun x _ => k x) (fun _ => k 0) a z (ei l) l.length n i = k (nz (l.drop i))
 | _, 0, _, _, h => by omega
 | 0, n + 1, i, h1, h2 => by
  rw [Lp10_2]
  simp only [Lp10_2_step]
  rw [dF (by omega), show i = l.length by omega, List.drop_length]
  rfl
 | d + 1, n + 1, i, h1, h2 => by
  have e1 : IntKind.wrap .i64 ((i : Int) + 1) = ((i + 1 : Nat) : Int) := by rw [w64 (by omega) (by omega)]; omega
  have hd : l.drop i = l.getD i 0 :: l.drop (i + 1) := by
   rw [List.drop_eq_getElem_cons (by omega), List.getD_eq_getElem?_getD, List.getElem?_eq_getElem (by omega)]
   rfl
  rw [Lp10_2]
  simp only [Lp10_2_step, ei_len, e1, show Int.toNat (i : Int) = i by omega]
  rw [dT (by omega), dT (by omega), ei_fI l i (by omega), hd, nz]
  by_cases c : l.getD i 0 = 0
  ·rw [nF c, if_neg (by simpa using c)]
   exact lp10 m l hl k a z d n (i + 1) (by omega) (by omega)
  ·rw [nT c, if_pos c]
theorem fn10 (m : Nat) (l : List Int) (hl : l.length ≤ 50) (hm : 51 ≤ m) {R : Type} (k : Int → Option R) : Fn10 (m + 1) (ei l) k = k (nz l) := by
 simp only [Fn10, ei_len]
 exact lp10 m l (by omega) k (ei l) 0 l.length m 0 (by omega) (by omega)
theorem fn64 (m : Nat) (b : Bool) (e : Int) {R : Type} (k : Int → Option R) : Fn64 (m + 1) b e k = k (if b = true then e else 0) := by
 simp only [Fn64]
 cases b <;> rfl
end Go.Proofs.YtngjadgglbkjlaaDoor.Med
end
section
set_option linter.unusedVariables false
set_option linter.unusedSimpArgs false
set_option linter.unusedSectionVars false
namespace Go.Proofs.YtngjadgglbkjlaaDoor.Med
open Go Go.Abs Go.Proofs
set_option linter.unusedVariables false
set_option linter.unusedSimpArgs false
/-! hours: are they right -/
theorem fn56b (m : Nat) (s : ByteArray) {R : Type} (k : Bool → Option R) : Fn56 (m + 1) s k = k (keyB (ls s)) := (congrArg (fun x => Fn56 (m + 1) x k) (bs_of s)).trans (fn56 m (ls s) k)
theorem fn59b (m : Nat) (hm : 100 ≤ m) (s : ByteArray) {R : Type} (k : Bool → Option R) : Fn59 (m + 4) s k = k (keyB (ls s)) := (congrArg (fun x => Fn59 (m + 4) x k) (bs_of s)).trans (fn59 m hm (ls s) k)
def ordB (a b : ByteArray) : Bool := Op.bytesLess a.toList b.toList || a.toList == b.toList
theorem wM1 {i : Nat} (h : 0 < i) (h2 : i ≤ 1000000) : IntKind.wrap .i64 ((i : Int) - 1) = ((i - 1 : Nat) : Int) := by rw [w64 (by omega) (by omega)]; omega
theorem wP1 {i : Nat} (h2 : i ≤ 1000000) : IntKind.wrap .i64 ((i : Int) + 1) = ((i + 1 : Nat) : Int) := by rw [w64 (by omega) (by omega)]; omega
theorem tN (i : Nat) : Int.toNat (i : Int) = i := by omega
def hrF (r : Abs.Rows) (i : Nat) : Int := if ¬ (1 ≤ fI r i 0 ∧ fI r i 0 ≤ 127) ∨ ¬ (0 ≤ fI r i 1 ∧ fI r i 1 < fI r i 2 ∧ fI r i 2 ≤ 1440) then 1 else 0
def hoF (r : Abs.Rows) (i : Nat) : Int := if ¬ (0 ≤ fI r i 0 ∧ fI r i 0 ≤ 4000) ∨ ((fI r i 1 ≠ 0 ∨ fI r i 2 ≠ 0) ∧ ¬ (0 ≤ fI r i 1 ∧ fI r i 1 < fI r i 2 ∧ fI r i 2 ≤ 1440)) then 1 else if 0 < i ∧ fI r i 0 ≤ fI r (i - 1) 0 then 7 else 0
def tmF (r h : Abs.Rows) : Int := if 50 < r.length then 2 else if fstE (hrF r) r.length 0 ≠ 0 then fstE (hrF r) r.length 0 else if 200 < h.length then 2 else fstE (hoF h) h.length 0
def huF (l : Abs.Rows) (i : Nat) : Int := if keyB (ls (fS l i 0)) = false then 5 else if 0 < i ∧ ordB (fS l i 0) (fS l (i - 1) 0) = true then 7 else if ¬ (-1440 ≤ fI l i 1 ∧ fI l i 1 ≤ 1440) then 1 else tmF (fR l i 2) (fR l i 3)
def husF (l : Abs.Rows) : Int := if 50 < l.length then 2 else fstE (huF l) l.length 0
theorem fn90 (m : Nat) (a b : Int) {R : Type} (k : Bool → Option R) : Fn90 (m + 1) a b k = k (decide (0 ≤ a ∧ a < b ∧ b ≤ 1440)) := by
 simp only [Fn90, Bool.cond_eq_ite]
 grind
section
variable {R : Type} (K : Int → Option R) (kx1 : Int → Option R)
theorem lp58a (m : Nat) (s0 : ByteArray) (a : Int) (r2 r3 : Abs.Rows) (b : Int) (r : Abs.Rows) (hl : r.length ≤ 100000) : ∀ (d n i : Nat), i + d = r.length → d < n →
  Lp58_5 (m + 1) (fun e _ => K e) kx1 s0 a r2 r3 b r r.length n i = if fstE (hrF r) d i = 0 then kx1 r.length else K (fstE (hrF r) d i)
 | _, 0, _, _, h => by omega
 | 0, n + 1, i, h1, h2 => by
  rw [Lp58_5]
  simp only [Lp58_5_step]
  rw [dF (by omega), show i = r.length by omega]
  rfl
 | d + 1, n + 1, i, h1, h2 => by
  have ih := lp58a m s0 a r2 r3 b r hl d n (i + 1) (by omega) (by omega)
  rw [Lp58_5]
  simp only [Lp58_5_step, wP1 (show i ≤ 1000000 by omega), tN, fn57, fn90, fstE, hrF, ih, Bool.cond_eq_ite]
  grind (splits := 40)
theorem lp58b (m : Nat) (s0 : ByteArray) (a : Int) (r2 : Abs.Rows) (b : Int) (r : Abs.Rows) (hl : r.length ≤ 100000) : ∀ (d n i : Nat), i + d = r.length → d < n →
  Lp58_17 (m + 1) (fun e _ => K e) kx1 s0 a r2 r b r r.length n i = if fstE (hoF r) d i = 0 then kx1 r.length else K (fstE (hoF r) d i)
 | _, 0, _, _, h => by omega
 | 0, n + 1, i, h1, h2 => by
  rw [Lp58_17]
  simp only [Lp58_17_step]
  rw [dF (by omega), show i = r.length by omega]
  rfl
 | d + 1, n + 1, i, h1, h2 => by
  have ih := lp58b m s0 a r2 b r hl d n (i + 1) (by omega) (by omega)
  rw [Lp58_17]
  simp only [Lp58_17_step, Jn58_23, wP1 (show i ≤ 1000000 by omega), tN, fn57, fn90, fstE, hoF, ih, Bool.cond_eq_ite]
  by_cases h : 0 < i
  ·simp only [wM1 h (show i ≤ 1000000 by omega), tN]
   grind (splits := 40)
  ·grind (splits := 40)
theorem lp24a (m : Nat) (r0 : Abs.Rows) (a : Int) (s2 s3 : ByteArray) (b : Int) (r5 r6 r7 : Abs.Rows) (c e : Int) (r : Abs.Rows) (hl : r.length ≤ 100000) : ∀ (d n i : Nat), i + d = r.length → d < n →
  Lp24_21 (m + 1) (fun e _ => K e) kx1 r0 a s2 s3 b r5 r6 r7 c e r r.length n i = if fstE (hrF r) d i = 0 then kx1 r.length else K (fstE (hrF r) d i)
 | _, 0, _, _, h => by omega
 | 0, n + 1, i, h1, h2 => by
  rw [Lp24_21]
  simp only [Lp24_21_step]
  rw [dF (by omega), show i = r.length by omega]
  rfl
 | d + 1, n + 1, i, h1, h2 => by
  have ih := lp24a m r0 a s2 s3 b r5 r6 r7 c e r hl d n (i + 1) (by omega) (by omega)
  rw [Lp24_21]
  simp only [Lp24_21_step, wP1 (show i ≤ 1000000 by omega), tN, fn48, fstE, hrF, ih, Bool.cond_eq_ite]
  grind (splits := 40)
theorem lp24b (m : Nat) (r0 : Abs.Rows) (a : Int) (s2 s3 : ByteArray) (b : Int) (r5 r7 : Abs.Rows) (c e : Int) (r : Abs.Rows) (hl : r.length ≤ 100000) : ∀ (d n i : Nat), i + d = r.length → d < n →
  Lp24_33 (m + 1) (fun e _ => K e) kx1 r0 a s2 s3 b r5 r r7 c e r r.length n i = if fstE (hoF r) d i = 0 then kx1 r.length else K (fstE (hoF r) d i)
 | _, 0, _, _, h => by omega
 | 0, n + 1, i, h1, h2 => by
  rw [Lp24_33]
  simp only [Lp24_33_step]
  rw [dF (by omega), show i = r.length by omega]
  rfl
 | d + 1, n + 1, i, h1, h2 => by
  have ih := lp24b m r0 a s2 s3 b r5 r7 c e r hl d n (i + 1) (by omega) (by omega)
  rw [Lp24_33]
  simp only [Lp24_33_step, Jn24_39, wP1 (show i ≤ 1000000 by omega), tN, fn48, fstE, hoF, ih, Bool.cond_eq_ite]
  by_cases h : 0 < i
  ·simp only [wM1 h (show i ≤ 1000000 by omega), tN]
   grind (splits := 40)
  ·grind (splits := 40)
theorem lp58a0 (m : Nat) (s0 : ByteArray) (a : Int) (r2 r3 : Abs.Rows) (b : Int) (r : Abs.Rows) (hl : r.length ≤ 100000) (n : Nat) (hn : r.length < n) :
  Lp58_5 (m + 1) (fun e _ => K e) kx1 s0 a r2 r3 b r r.length n 0 = if fstE (hrF r) r.length 0 = 0 then kx1 r.length else K (fstE (hrF r) r.length 0) := lp58a K kx1 m s0 a r2 r3 b r hl r.length n 0 (by omega) hn
theorem lp58b0 (m : Nat) (s0 : ByteArray) (a : Int) (r2 : Abs.Rows) (b : Int) (r : Abs.Rows) (hl : r.length ≤ 100000) (n : Nat) (hn : r.length < n) :
  Lp58_17 (m + 1) (fun e _ => K e) kx1 s0 a r2 r b r r.length n 0 = if fstE (hoF r) r.length 0 = 0 then kx1 r.length else K (fstE (hoF r) r.length 0) := lp58b K kx1 m s0 a r2 b r hl r.length n 0 (by omega) hn
theorem lp24a0 (m : Nat) (r0 : Abs.Rows) (a : Int) (s2 s3 : ByteArray) (b : Int) (r5 r6 r7 : Abs.Rows) (c e : Int) (r : Abs.Rows) (hl : r.length ≤ 100000) (n : Nat) (hn : r.length < n) :
  Lp24_21 (m + 1) (fun e _ => K e) kx1 r0 a s2 s3 b r5 r6 r7 c e r r.length n 0 = if fstE (hrF r) r.length 0 = 0 then kx1 r.length else K (fstE (hrF r) r.length 0) := lp24a K kx1 m r0 a s2 s3 b r5 r6 r7 c e r hl r.length n 0 (by omega) hn
theorem lp24b0 (m : Nat) (r0 : Abs.Rows) (a : Int) (s2 s3 : ByteArray) (b : Int) (r5 r7 : Abs.Rows) (c e : Int) (r : Abs.Rows) (hl : r.length ≤ 100000) (n : Nat) (hn : r.length < n) :
  Lp24_33 (m + 1) (fun e _ => K e) kx1 r0 a s2 s3 b r5 r r7 c e r r.length n 0 = if fstE (hoF r) r.length 0 = 0 then kx1 r.length else K (fstE (hoF r) r.length 0) := lp24b K kx1 m r0 a s2 s3 b r5 r7 c e r hl r.length n 0 (by omega) hn
end
theorem fn58 (m : Nat) (hm : 300 ≤ m) (s0 : ByteArray) (z : Int) (r h : Abs.Rows) {R : Type} (k : Int → Option R) : Fn58 (m + 2) s0 z r h k = k (tmF r h) := by
 simp only [Fn58]
 unfold tmF
 by_cases h1 : 50 < r.length
 ·rw [dT (by omega), if_pos h1]
 ·rw [dF (by omega), if_neg h1, lp58a0 k _ m s0 z r h 0 r (by omega) (m + 1) (by omega)]
  by_cases h2 : 200 < h.length
  ·simp only [Bool.cond_eq_ite]
   grind (splits := 40)
  ·simp only [lp58b0 k _ m s0 z r 0 h (by omega) (m + 1) (by omega), Bool.cond_eq_ite]
   grind (splits := 40)
def lastK (a : Abs.Rows) (i : Nat) : ByteArray := if i = 0 then ⟨#[]⟩ else fS a (i - 1) 0
theorem ord_nil {s : ByteArray} (h : keyB (ls s) = true) : (Op.bytesLess s.toList (ByteArray.toList ⟨#[]⟩) || s.toList == ByteArray.toList ⟨#[]⟩) = false := by
 have h1 : ls s ≠ [] := by
  intro e
  rw [e] at h
  simp [keyB] at h
 have h2 : (ByteArray.toList ⟨#[]⟩) = [] := bs_toList []
 rw [h2, Lib.toList_data]
 cases hs : s.data.toList with
 | nil => exact (h1 hs).elim
 | cons x l => rfl
section
variable {R : Type} (K : Int → Option R) (kx1 : Int → Option R)
theorem lp23 (m : Nat) (hm : 400 ≤ m) (a : Abs.Rows) (hl : a.length ≤ 1000) (z : Int) : ∀ (d n i : Nat), i + d = a.length → d < n →
  Lp23_5 (m + 2) (fun e _ => K e) kx1 a z a a.length n i = if fstE (huF a) d i = 0 then kx1 a.length else K (fstE (huF a) d i)
 | _, 0, _, _, h => by omega
 | 0, n + 1, i, h1, h2 => by
  rw [Lp23_5]
  simp only [Lp23_5_step]
  rw [dF (by omega), show i = a.length by omega]
  rfl
 | d + 1, n + 1, i, h1, h2 => by
  have ih := lp23 m hm a hl z d n (i + 1) (by omega) (by omega)
  rw [Lp23_5]
  simp only [Lp23_5_step, Jn23_11, Jn23_15, wP1 (show i ≤ 1000000 by omega), tN, fn56b, fn57, fn58 m (show 300 ≤ m by omega), fstE, huF, ih, ordB, Bool.cond_eq_ite]
  by_cases h : 0 < i
  ·simp only [wM1 h (show i ≤ 1000000 by omega), tN]
   grind (splits := 40)
  ·grind (splits := 40)
theorem lp24 (m : Nat) (hm : 400 ≤ m) (a : Abs.Rows) (hl : a.length ≤ 1000) (z : Int) : ∀ (d n i : Nat), i + d = a.length → d < n →
  Lp24_6 (m + 4) (fun e _ _ => K e) (fun _ => kx1) a z a a.length n (lastK a i) i = if fstE (huF a) d i = 0 then kx1 a.length else K (fstE (huF a) d i)
 | _, 0, _, _, h => by omega
 | 0, n + 1, i, h1, h2 => by
  rw [Lp24_6]
  simp only [Lp24_6_step]
  rw [dF (by omega), show i = a.length by omega]
  rfl
 | d + 1, n + 1, i, h1, h2 => by
  have ih := lp24 m hm a hl z d n (i + 1) (by omega) (by omega)
  have hlast : lastK a (i + 1) = fS a i 0 := by unfold lastK; rw [if_neg (by omega)]; rfl
  rw [hlast] at ih
  have ho : keyB (ls (fS a i 0)) = true → (Op.bytesLess (fS a i 0).toList (lastK a i).toList || (fS a i 0).toList == (lastK a i).toList) = (decide (0 < i) && ordB (fS a i 0) (fS a (i - 1) 0)) := by
   intro hk
   unfold lastK
   by_cases h : i = 0
   ·rw [if_pos h, ord_nil hk, decide_eq_false (by omega)]; rfl
   ·rw [if_neg h, decide_eq_true (by omega)]; rfl
  rw [Lp24_6]
  simp only [Lp24_6_step, wP1 (show i ≤ 1000000 by omega), tN, fn59b m (show 100 ≤ m by omega), fn48, fstE, huF, tmF]
  rw [dT (by omega), dT (by omega)]
  by_cases hk : keyB (ls (fS a i 0)) = true
  ·rw [ho hk, ih]
   by_cases h10 : 50 < (fR a i 2).length
   ·simp only [hk, Bool.cond_eq_ite]
    grind (splits := 40)
   ·by_cases h20 : 200 < (fR a i 3).length
    ·simp only [hk, lp24a0 K _ (m + 3) a z (fS a i 0) (fS a i 0) (fI a i 1) (fR a i 2) (fR a i 3) a a.length i (fR a i 2) (by omega) (m + 4) (by omega), Bool.cond_eq_ite]
     grind (splits := 40)
    ·simp only [hk, lp24a0 K _ (m + 3) a z (fS a i 0) (fS a i 0) (fI a i 1) (fR a i 2) (fR a i 3) a a.length i (fR a i 2) (by omega) (m + 4) (by omega),
      lp24b0 K _ (m + 3) a z (fS a i 0) (fS a i 0) (fI a i 1) (fR a i 2) a a.length i (fR a i 3) (by omega) (m + 4) (by omega), Bool.cond_eq_ite]
     grind (splits := 40)
  ·have hk' : keyB (ls (fS a i 0)) = false := by simpa using hk
   simp only [hk']
   rfl
end
theorem fn23 (m : Nat) (hm : 1200 ≤ m) (a : Abs.Rows) {R : Type} (k : Int → Option R) : Fn23 (m + 3) a k = k (husF a) := by
 simp only [Fn23]
 unfold husF
 by_cases h1 : 50 < a.length
 ·rw [dT (by omega), if_pos h1]
 ·rw [dF (by omega), if_neg h1]
  refine Eq.trans (lp23 k _ m (by omega) a (by omega) 0 a.length (m + 2) 0 (by omega) (by omega)) ?_
  by_cases h : fstE (huF a) a.length 0 = 0
  ·rw [if_pos h, h]
  ·rw [if_neg h]
theorem fn24 (m : Nat) (hm : 1200 ≤ m) (a : Abs.Rows) {R : Type} (k : Int → Option R) : Fn24 (m + 5) a k = k (husF a) := by
 simp only [Fn24]
 unfold husF
 by_cases h1 : 50 < a.length
 ·rw [dT (by omega), if_pos h1]
 ·rw [dF (by omega), if_neg h1]
  refine Eq.trans (lp24 k _ m (by omega) a (by omega) 0 a.length (m + 4) 0 (by omega) (by omega)) ?_
  by_cases h : fstE (huF a) a.length 0 = 0
  ·rw [if_pos h, h]
  ·rw [if_neg h]
end Go.Proofs.YtngjadgglbkjlaaDoor.Med
end
section
set_option linter.unusedVariables false
set_option linter.unusedSimpArgs false
set_option linter.unusedSectionVars false
namespace Go.Proofs.YtngjadgglbkjlaaDoor.Med
open Go Go.Abs Go.Proofs
set_option linter.unusedVariables false
set_option linter.unusedSimpArgs false
/-! are hours open -/
theorem flo {x y : Int} (hy : 1 ≤ y) : (Int.tmod x y < 0 → Int.tdiv x y - 1 = x / y) ∧ (¬ Int.tmod x y < 0 → Int.tdiv x y = x / y) ∧ Int.tdiv x y - 1 ≤ x / y ∧ x / y ≤ Int.tdiv x y := by
 have h1 := Int.tdiv_eq_ediv (a := x) (b := y)
 have h2 := Int.tmod_eq_emod (a := x) (b := y)
 have h3 := Int.emod_nonneg x (show y ≠ 0 by omega)
 have h4 := Int.emod_lt_of_pos x (show 0 < y by omega)
 by_cases c : 0 ≤ x ∨ y ∣ x
 ·rw [if_pos c] at h1 h2
  refine ⟨fun h => ?_, fun h => ?_, ?_, ?_⟩ <;> omega
 ·rw [if_neg c] at h1 h2
  have hs : y.sign = 1 := Int.sign_eq_one_of_pos (by omega)
  rw [hs] at h1
  have hn : (y.natAbs : Int) = y := by omega
  refine ⟨fun h => ?_, fun h => ?_, ?_, ?_⟩ <;> omega
theorem fn91 (m : Nat) {x y : Int} (hy : 1 ≤ y) (h0 : -4611686018427387904 ≤ x / y) (h1 : x / y ≤ 4611686018427387904) {R : Type} (k : Int → Option R) : Fn91 (m + 1) x y k = k (x / y) := by
 obtain ⟨a, b, c, d⟩ := flo (x := x) hy
 simp only [Fn91]
 rw [dT (by omega), dT (by omega)]
 by_cases h : Int.tmod x y < 0
 ·rw [dT h, w64 (x := Int.tdiv x y) (by omega) (by omega), w64 (by omega) (by omega), a h]
 ·rw [dF h, w64 (by omega) (by omega), b h]
theorem fn69 (m : Nat) {x y : Int} (hy : 1 ≤ y) (h0 : -4611686018427387904 ≤ x / y) (h1 : x / y ≤ 4611686018427387904) {R : Type} (k : Int → Option R) : Fn69 (m + 1) x y k = k (x / y) := by
 obtain ⟨a, b, c, d⟩ := flo (x := x) hy
 simp only [Fn69]
 rw [dT (by omega)]
 by_cases h : Int.tmod x y < 0
 ·rw [dT h, dT (by omega), w64 (x := Int.tdiv x y) (by omega) (by omega), w64 (by omega) (by omega), a h]
 ·rw [dF h, dT (by omega), w64 (by omega) (by omega), b h]
def dayF (z t : Int) : Int := (t + z * 60000) / 86400000
def minF (z t : Int) : Int := ((t + z * 60000) % 86400000) / 60000
def bitX (a w : Int) : Int := bitsOp IntKind.i64 (BitVec.ofInt 64 (Int.fdiv a ((2 : Int) ^ min (Int.toNat w) 64)) &&& BitVec.ofInt 64 1)
theorem bit01 (v : BitVec 64) : bitsOp IntKind.i64 (v &&& BitVec.ofInt 64 1) = 0 ∨ bitsOp IntKind.i64 (v &&& BitVec.ofInt 64 1) = 1 := by
 have h1 : (v &&& BitVec.ofInt 64 1).toNat = v.toNat % 2 := by
  rw [BitVec.toNat_and]
  have : (BitVec.ofInt 64 1).toNat = 1 := by decide
  rw [this, Nat.and_one_is_mod]
 have h2 : bitsOp IntKind.i64 (v &&& BitVec.ofInt 64 1) = IntKind.wrap .i64 ((v &&& BitVec.ofInt 64 1 : BitVec 64).toNat : Int) := rfl
 rw [h2, h1]
 rcases Nat.mod_two_eq_zero_or_one v.toNat with h | h
 ·left; rw [h]; decide
 ·right; rw [h]; decide
def bitB (a w : Int) : Bool := decide (bitX a w = 1)
theorem bit_ne (a w : Int) : (bitX a w != 0) = bitB a w := by
 unfold bitB
 rcases bit01 (BitVec.ofInt 64 (Int.fdiv a ((2 : Int) ^ min (Int.toNat w) 64))) with h | h
 ·have h : bitX a w = 0 := h
  rw [h]; decide
 ·have h : bitX a w = 1 := h
  rw [h]; decide
theorem bit_eq (a w : Int) : (bitX a w == 1) = bitB a w := by
 unfold bitB
 rw [Bool.eq_iff_iff]; simp
def hoE (h : Abs.Rows) (day mn : Int) : Nat → Nat → Option Bool
 | 0, _ => none
 | d + 1, i => if fI h i 0 = day then some (decide (fI h i 1 ≤ mn ∧ mn < fI h i 2)) else hoE h day mn d (i + 1)
def roE (r : Abs.Rows) (wk mn : Int) : Nat → Nat → Bool
 | 0, _ => false
 | d + 1, i => (bitB (fI r i 0) wk && decide (fI r i 1 ≤ mn ∧ mn < fI r i 2)) || roE r wk mn d (i + 1)
def opB (z : Int) (r h : Abs.Rows) (t : Int) : Bool := match hoE h (dayF z t) (minF z t) h.length 0 with
 | some b => b
 | none => roE r (dayF z t % 7) (minF z t) r.length 0
structure HG (z : Int) (r h : Abs.Rows) : Prop where
 z0 : -1440 ≤ z
 z1 : z ≤ 1440
 rl : r.length ≤ 50
 hl : h.length ≤ 200
 rg : ∀ i, i < r.length → 0 ≤ fI r i 1 ∧ fI r i 1 < fI r i 2 ∧ fI r i 2 ≤ 1440
 hg : ∀ i, i < h.length → 0 ≤ fI h i 1 ∧ fI h i 1 ≤ 1440 ∧ 0 ≤ fI h i 2 ∧ fI h i 2 ≤ 1440
section
variable {R : Type} (K : Bool → Option R) (Z : Option R)
theorem lp62a (m : Nat) (s0 : ByteArray) (a : Int) (r2 r3 : Abs.Rows) (b : Bool) (day mn : Int) (r : Abs.Rows) (hl : r.length ≤ 100000) : ∀ (d n i : Nat), i + d = r.length → d < n →
  Lp62_5 m (fun e _ => K e) (fun _ => Z) s0 a r2 r3 b day mn r r.length n i = (hoE r day mn d i).elim Z K
 | _, 0, _, _, h => by omega
 | 0, n + 1, i, h1, h2 => by
  rw [Lp62_5]
  simp only [Lp62_5_step]
  rw [dF (by omega)]
  rfl
 | d + 1, n + 1, i, h1, h2 => by
  have ih := lp62a m s0 a r2 r3 b day mn r hl d n (i + 1) (by omega) (by omega)
  rw [Lp62_5]
  simp only [Lp62_5_step, wP1 (show i ≤ 1000000 by omega), tN, ih, hoE]
  rw [dT (by omega), dT (by omega)]
  by_cases h : fI r i 0 = day
  ·rw [eT h, if_pos h]
   simp only [Option.elim, Bool.cond_eq_ite]
   grind
  ·rw [eF h, if_neg h]
theorem lp62b (m : Nat) (s0 : ByteArray) (a : Int) (r2 r3 : Abs.Rows) (b : Bool) (wk mn : Int) (hw : 0 ≤ wk) (r : Abs.Rows) (hl : r.length ≤ 100000) : ∀ (d n i : Nat), i + d = r.length → d < n →
  Lp62_15 m (fun e _ => K e) (fun _ => Z) s0 a r2 r3 b mn wk r r.length n i = if roE r wk mn d i = true then K true else Z
 | _, 0, _, _, h => by omega
 | 0, n + 1, i, h1, h2 => by
  rw [Lp62_15]
  simp only [Lp62_15_step]
  rw [dF (by omega)]
  rfl
 | d + 1, n + 1, i, h1, h2 => by
  have ih := lp62b m s0 a r2 r3 b wk mn hw r hl d n (i + 1) (by omega) (by omega)
  rw [Lp62_15]
  simp only [Lp62_15_step, wP1 (show i ≤ 1000000 by omega), tN, ih, roE]
  rw [dT (by omega), dT (by omega), dT hw]
  show (bif bitX (fI r i 0) wk != 0 then _ else _) = _
  rw [bit_ne]
  simp only [Bool.cond_eq_ite]
  grind
theorem lp31 (m : Nat) (s0 : ByteArray) (a : Int) (r2 r3 : Abs.Rows) (b : Bool) (day mn : Int) (r : Abs.Rows) (hl : r.length ≤ 100000) (hg : ∀ i, i < r.length → 0 ≤ fI r i 2 ∧ fI r i 2 ≤ 1440) : ∀ (d n i : Nat), i + d = r.length → d < n →
  Lp31_3 (m + 1) (fun e _ => K e) (fun _ => Z) s0 a r2 r3 b day mn r r.length n i = (hoE r day mn d i).elim Z K
 | _, 0, _, _, h => by omega
 | 0, n + 1, i, h1, h2 => by
  rw [Lp31_3]
  simp only [Lp31_3_step]
  rw [dF (by omega)]
  rfl
 | d + 1, n + 1, i, h1, h2 => by
  have ih := lp31 m s0 a r2 r3 b day mn r hl hg d n (i + 1) (by omega) (by omega)
  have := hg i (by omega)
  rw [Lp31_3]
  simp only [Lp31_3_step, wP1 (show i ≤ 1000000 by omega), tN, ih, hoE, fn48]
  rw [dT (by omega), dT (by omega), w64 (x := fI r i 2 - 1) (by omega) (by omega)]
  by_cases h : fI r i 0 = day
  ·rw [eT h, if_pos h]
   simp only [Option.elim]
   congr 1
   grind
  ·rw [eF h, if_neg h]
end
theorem lp94 (m : Nat) (r : Abs.Rows) (hl : r.length ≤ 100000) (hg : ∀ i, i < r.length → 0 ≤ fI r i 2 ∧ fI r i 2 ≤ 1440) (wk mn z : Int) (hw : 0 ≤ wk) {R : Type} (k : Bool → Option R) : ∀ (d n i : Nat), i + d = r.length → d < n →
  Lp94_2 (m + 2) (fun x _ => k (decide (x ≥ 0))) (fun _ => k (decide ((-1 : Int) ≥ 0))) r wk mn z r.length n i = k (roE r wk mn d i)
 | _, 0, _, _, h => by omega
 | 0, n + 1, i, h1, h2 => by
  rw [Lp94_2]
  simp only [Lp94_2_step]
  rw [dF (by omega)]
  rfl
 | d + 1, n + 1, i, h1, h2 => by
  have ih := lp94 m r hl hg wk mn z hw k d n (i + 1) (by omega) (by omega)
  have := hg i (by omega)
  rw [Lp94_2]
  simp only [Lp94_2_step, Fn71, fn48, wP1 (show i ≤ 1000000 by omega), tN, ih, roE]
  rw [dT (by omega), dT (by omega), dT hw, w64 (x := fI r i 2 - 1) (by omega) (by omega)]
  show (bif bitX (fI r i 0) wk == 1 then _ else _) = _
  rw [bit_eq, show decide ((i : Int) ≥ 0) = true from decide_eq_true (by omega)]
  simp only [Bool.cond_eq_ite]
  grind
theorem fn70 (m : Nat) (hm : 300 ≤ m) (r : Abs.Rows) (hl : r.length ≤ 50) (hg : ∀ i, i < r.length → 0 ≤ fI r i 2 ∧ fI r i 2 ≤ 1440) (wk mn : Int) (hw : 0 ≤ wk) {R : Type} (k : Bool → Option R) : Fn70 (m + 4) r wk mn k = k (roE r wk mn r.length 0) := by
 simp only [Fn70, Fn94]
 exact lp94 m r (by omega) hg wk mn 0 hw k r.length (m + 2) 0 (by omega) (by omega)
theorem fn62 (m : Nat) (hm : 400 ≤ m) (s0 : ByteArray) {z : Int} {r h : Abs.Rows} (g : HG z r h) {t : Int} (h0 : -100000 ≤ t) (h1 : t ≤ 400000000000) {R : Type} (k : Bool → Option R) : Fn62 (m + 2) s0 z r h t k = k (opB z r h t) := by
 have z0 := g.z0
 have z1 := g.z1
 have hl := g.hl
 have rl := g.rl
 simp only [Fn62]
 rw [w64 (x := z * 60000) (by omega) (by omega), w64 (x := t + z * 60000) (by omega) (by omega), fn91 m (by omega) (by omega) (by omega)]
 have e1 : t + z * 60000 - (t + z * 60000) / 86400000 * 86400000 = (t + z * 60000) % 86400000 := by omega
 rw [w64 (x := (t + z * 60000) / 86400000 * 86400000) (by omega) (by omega), e1, w64 (x := (t + z * 60000) % 86400000) (by omega) (by omega), Int.tdiv_eq_ediv_of_nonneg (by omega), w64 (x := (t + z * 60000) % 86400000 / 60000) (by omega) (by omega)]
 refine Eq.trans (lp62a k _ (m + 1) s0 z r h false ((t + z * 60000) / 86400000) ((t + z * 60000) % 86400000 / 60000) h (by omega) h.length (m + 1) 0 (by omega) (by omega)) ?_
 show _ = k (opB z r h t)
 unfold opB
 show (hoE h (dayF z t) (minF z t) h.length 0).elim _ k = _
 cases hoE h (dayF z t) (minF z t) h.length 0 with
 | some b => rfl
 | none =>
  simp only [Option.elim]
  rw [fn91 m (by omega) (by omega) (by omega)]
  have e2 : (t + z * 60000) / 86400000 - 7 * ((t + z * 60000) / 86400000 / 7) = dayF z t % 7 := by unfold dayF; omega
  have e3 : 0 ≤ dayF z t % 7 := by omega
  rw [w64 (x := 7 * ((t + z * 60000) / 86400000 / 7)) (by omega) (by omega), e2, w64 (x := dayF z t % 7) (by omega) (by omega)]
  refine Eq.trans (lp62b k _ (m + 1) s0 z r h false (dayF z t % 7) (minF z t) e3 r (by omega) r.length (m + 1) 0 (by omega) (by omega)) ?_
  cases roE r (dayF z t % 7) (minF z t) r.length 0 <;> rfl
theorem fn68 (m : Nat) {z t : Int} (z0 : -1440 ≤ z) (z1 : z ≤ 1440) (h0 : -100000 ≤ t) (h1 : t ≤ 400000000000) {R : Type} (k : Int → Int → Option R) : Fn68 (m + 2) z t k = k (dayF z t) (minF z t) := by
 simp only [Fn68]
 rw [w64 (x := z * 60000) (by omega) (by omega), w64 (x := t + z * 60000) (by omega) (by omega), fn69 m (by omega) (by omega) (by omega)]
 have e1 : t + z * 60000 - (t + z * 60000) / 86400000 * 86400000 = (t + z * 60000) % 86400000 := by omega
 rw [w64 (x := (t + z * 60000) / 86400000 * 86400000) (by omega) (by omega), e1, w64 (x := (t + z * 60000) % 86400000) (by omega) (by omega), Int.tdiv_eq_ediv_of_nonneg (by omega), w64 (x := (t + z * 60000) % 86400000 / 60000) (by omega) (by omega)]
 rfl
theorem fn31 (m : Nat) (hm : 400 ≤ m) (s0 : ByteArray) {z : Int} {r h : Abs.Rows} (g : HG z r h) {t : Int} (h0 : -100000 ≤ t) (h1 : t ≤ 400000000000) {R : Type} (k : Bool → Option R) : Fn31 (m + 5) s0 z r h t k = k (opB z r h t) := by
 have z0 := g.z0
 have z1 := g.z1
 have hl := g.hl
 have rl := g.rl
 simp only [Fn31]
 rw [fn68 (m + 2) z0 z1 h0 h1]
 refine Eq.trans (lp31 k _ (m + 3) s0 z r h false (dayF z t) (minF z t) h (by omega) (fun i hi => (g.hg i hi).2.2) h.length (m + 4) 0 (by omega) (by omega)) ?_
 unfold opB
 cases hoE h (dayF z t) (minF z t) h.length 0 with
 | some b => rfl
 | none =>
  simp only [Option.elim]
  have e0 : -6000000 ≤ dayF z t ∧ dayF z t ≤ 6000000 := by unfold dayF; omega
  rw [fn69 (m + 3) (by omega) (by omega) (by omega)]
  have e2 : dayF z t - 7 * (dayF z t / 7) = dayF z t % 7 := by omega
  have e3 : 0 ≤ dayF z t % 7 := by omega
  rw [w64 (x := 7 * (dayF z t / 7)) (by omega) (by omega), e2, w64 (x := dayF z t % 7) (by omega) (by omega)]
  exact fn70 m (by omega) r rl (fun i hi => by have := g.rg i hi; omega) _ _ e3 k
end Go.Proofs.YtngjadgglbkjlaaDoor.Med
end
section
set_option linter.unusedVariables false
set_option linter.unusedSimpArgs false
set_option linter.unusedSectionVars false
namespace Go.Proofs.YtngjadgglbkjlaaDoor.Med
open Go Go.Abs Go.Proofs
set_option linter.unusedVariables false
set_option linter.unusedSimpArgs false
/-! the moments at which hours open or close, minute by minute -/
theorem intsR_app (a b : List Int) : intsR (a ++ b) = intsR a ++ intsR b := by simp [intsR]
theorem intsR_len (a : List Int) : (intsR a).length = a.length := by simp [intsR]
theorem intsR_fI (l : List Int) (i : Nat) (h : i < l.length) : fI (intsR l) i 0 = l.getD i 0 := by
 simp [fI, dropF, Abs.rowAt, List.getD_eq_getElem?_getD, intsR, h, F.toInt]
def trE (o : Int → Bool) (to : Int) : Nat → Bool → Int → List Int
 | 0, _, _ => []
 | n + 1, was, t => if t < to then (if o t = was then [] else [t]) ++ trE o to n (o t) (t + (60000 - t % 60000)) else []
theorem trE_len (o : Int → Bool) (to : Int) : ∀ (d : Nat) (b : Bool) (t : Int), (trE o to d b t).length ≤ d
 | 0, _, _ => by simp [trE]
 | d + 1, b, t => by
  have := trE_len o to d (o t) (t + (60000 - t % 60000))
  rw [trE]
  split
  ·rw [List.length_append]
   split <;> simp <;> omega
  ·simp
theorem lp27 (m : Nat) (hm : 400 ≤ m) (s0 : ByteArray) {z : Int} {r h : Abs.Rows} (g : HG z r h) (fr : Int) {to : Int} (hto : to ≤ 346000000000) {R : Type} (K : Abs.Rows → Option R) : ∀ (d n : Nat) (t : Int) (b : Bool) (rs : Abs.Rows), to ≤ (t / 60000 + d) * 60000 → d < n → 0 ≤ t → t ≤ 350000000000 → rs.length + d ≤ 10000000 →
  Lp27_12 (m + 2) (fun r _ _ => K r) s0 z r h fr to n rs b t = K (rs ++ intsR (trE (opB z r h) to d b t))
 | _, 0, t, b, rs, h1, h2, _, _, _ => by omega
 | 0, n + 1, t, b, rs, h1, h2, h3, h4, h5 => by
  rw [Lp27_12]
  simp only [Lp27_12_step]
  rw [dF (by omega)]
  simp [trE, intsR]
 | d + 1, n + 1, t, b, rs, h1, h2, h3, h4, h5 => by
  rw [Lp27_12]
  simp only [Lp27_12_step, trE]
  by_cases c : t < to
  ·rw [dT c, if_pos c, fn62 m hm s0 g (by omega) (by omega), Int.tmod_eq_emod_of_nonneg h3, w64 (x := 60000 - t % 60000) (by omega) (by omega), w64 (x := t + (60000 - t % 60000)) (by omega) (by omega)]
   by_cases e : opB z r h t = b
   ·rw [e]
    have e2 : (!(b == b)) = false := by cases b <;> rfl
    rw [e2, if_pos rfl]
    refine Eq.trans (bF rfl) ?_
    have ih := lp27 m hm s0 g fr hto K d n (t + (60000 - t % 60000)) b rs (by omega) (by omega) (by omega) (by omega) (by omega)
    rw [List.nil_append]
    exact ih
   ·have e2 : (!(opB z r h t == b)) = true := by cases hb : opB z r h t <;> cases b <;> simp_all
    rw [e2, if_neg e]
    refine Eq.trans (bT rfl) ?_
    rw [dT (by simp [rM]; omega)]
    simp only [letV]
    have ih := lp27 m hm s0 g fr hto K d n (t + (60000 - t % 60000)) (opB z r h t) (rs ++ [[F.lit (Value.int IntKind.i64 t)]]) (by omega) (by omega) (by omega) (by omega) (by simp; omega)
    rw [ih, intsR_app, List.append_assoc]
    rfl
  ·rw [dF c, if_neg c]
   simp [intsR]
/-! what is in such a list -/
theorem trE_mem {o : Int → Bool} (hc : ∀ x : Int, 0 ≤ x → o x = o (x / 60000 * 60000)) {to : Int} : ∀ (d : Nat) (b : Bool) (t : Int), 0 ≤ t → t % 60000 = 0 → b = o (t - 1) → to ≤ (t / 60000 + d) * 60000 → ∀ x, x ∈ trE o to d b t ↔ t ≤ x ∧ x < to ∧ x % 60000 = 0 ∧ o x ≠ o (x - 1)
 | 0, b, t, h0, h1, hb, h2, x => by
  simp only [trE, List.not_mem_nil, false_iff]
  rintro ⟨a, c, _⟩
  omega
 | d + 1, b, t, h0, h1, hb, h2, x => by
  rw [trE]
  by_cases c : t < to
  ·have e1 : t + (60000 - t % 60000) = t + 60000 := by omega
   have hw : o t = o (t + 60000 - 1) := by
    rw [hc (t + 60000 - 1) (by omega)]
    congr 1
    omega
   have ih := trE_mem (to := to) hc d (o t) (t + 60000) (by omega) (by omega) hw (by omega) x
   rw [if_pos c, e1, List.mem_append, ih]
   by_cases e : o t = b
   ·rw [if_pos e]
    constructor
    ·rintro (h | ⟨a1, a2, a3, a4⟩)
     ·cases h
     ·exact ⟨by omega, a2, a3, a4⟩
    ·rintro ⟨a1, a2, a3, a4⟩
     right
     refine ⟨?_, a2, a3, a4⟩
     by_cases hx : x = t
     ·exfalso
      subst hx
      exact a4 (e.trans hb)
     ·omega
   ·rw [if_neg e]
    constructor
    ·rintro (h | ⟨a1, a2, a3, a4⟩)
     ·simp at h
      subst h
      exact ⟨by omega, c, h1, fun h => e (h.trans hb.symm)⟩
     ·exact ⟨by omega, a2, a3, a4⟩
    ·rintro ⟨a1, a2, a3, a4⟩
     by_cases hx : x = t
     ·left; simp [hx]
     ·right; exact ⟨by omega, a2, a3, a4⟩
  ·rw [if_neg c]
   simp only [List.not_mem_nil, false_iff]
   rintro ⟨a1, a2, _⟩
   omega
theorem trE_ge (o : Int → Bool) (to : Int) : ∀ (d : Nat) (b : Bool) (t : Int), ∀ x ∈ trE o to d b t, t ≤ x ∧ x < to
 | 0, b, t, x, h => by simp [trE] at h
 | d + 1, b, t, x, h => by
  rw [trE] at h
  split at h
  ·rcases List.mem_append.1 h with h | h
   ·split at h
    ·cases h
    ·simp at h; subst h; omega
   ·have := trE_ge o to d _ _ x h
    have e := Int.emod_nonneg t (show (60000 : Int) ≠ 0 by omega)
    have e2 := Int.emod_lt_of_pos t (show (0 : Int) < 60000 by omega)
    omega
  ·cases h
theorem trE_sorted (o : Int → Bool) (to : Int) : ∀ (d : Nat) (b : Bool) (t : Int), (trE o to d b t).Pairwise (· < ·)
 | 0, b, t => by simp [trE]
 | d + 1, b, t => by
  rw [trE]
  split
  ·rw [List.pairwise_append]
   refine ⟨by split <;> simp, trE_sorted o to d _ _, fun x hx y hy => ?_⟩
   split at hx
   ·cases hx
   ·simp at hx
    subst hx
    have := trE_ge o to d _ _ y hy
    have e2 := Int.emod_lt_of_pos x (show (0 : Int) < 60000 by omega)
    omega
  ·exact .nil
theorem trE_all {o : Int → Bool} (hc : ∀ x : Int, 0 ≤ x → o x = o (x / 60000 * 60000)) {fr to : Int} (h0 : 0 ≤ fr) (d : Nat) (h2 : to ≤ (fr / 60000 + d) * 60000) (x : Int) :
  x ∈ trE o to d false fr ↔ (x = fr ∧ fr < to ∧ o fr = true) ∨ (fr < x ∧ x < to ∧ x % 60000 = 0 ∧ o x ≠ o (x - 1)) := by
 cases d with
 | zero =>
  simp only [trE, List.not_mem_nil, false_iff]
  rintro (⟨_, h, _⟩ | ⟨h1, h3, _⟩) <;> omega
 | succ d =>
  rw [trE]
  by_cases c : fr < to
  ·have hw : o fr = o (fr + (60000 - fr % 60000) - 1) := by
    rw [hc fr h0, hc (fr + (60000 - fr % 60000) - 1) (by omega)]
    congr 1
    omega
   have ih := trE_mem (to := to) hc d (o fr) (fr + (60000 - fr % 60000)) (by omega) (by omega) hw (by omega) x
   rw [if_pos c, List.mem_append, ih]
   constructor
   ·rintro (h | ⟨a1, a2, a3, a4⟩)
    ·split at h
     ·cases h
     ·rename_i e
      simp at h
      left
      exact ⟨h, c, by simpa using e⟩
    ·right; exact ⟨by omega, a2, a3, a4⟩
   ·rintro (⟨a1, a2, a3⟩ | ⟨a1, a2, a3, a4⟩)
    ·left
     rw [if_neg (by rw [a3]; decide)]
     simp [a1]
    ·right; exact ⟨by omega, a2, a3, a4⟩
  ·rw [if_neg c]
   simp only [List.not_mem_nil, false_iff]
   rintro (⟨_, h, _⟩ | ⟨h1, h3, _⟩) <;> omega
/-- - -/
theorem sorted_eq : ∀ {a b : List Int}, a.Pairwise (· < ·) → b.Pairwise (· < ·) → (∀ x, x ∈ a ↔ x ∈ b) → a = b
 | [], [], _, _, _ => rfl
 | [], y :: b, _, _, h => by have := (h y).2 (by simp); cases this
 | x :: a, [], _, _, h => by have := (h x).1 (by simp); cases this
 | x :: a, y :: b, ha, hb, h => by
  rw [List.pairwise_cons] at ha hb
  have hxy : x = y := by
   rcases List.mem_cons.1 ((h x).1 (by simp)) with h1 | h1
   ·exact h1
   ·rcases List.mem_cons.1 ((h y).2 (by simp)) with h2 | h2
    ·exact h2.symm
    ·have := hb.1 x h1
     have := ha.1 y h2
     omega
  subst hxy
  congr 1
  refine sorted_eq ha.2 hb.2 fun z => ?_
  constructor
  ·intro hz
   rcases List.mem_cons.1 ((h z).1 (List.mem_cons_of_mem _ hz)) with h1 | h1
   ·have := ha.1 z hz; omega
   ·exact h1
  ·intro hz
   rcases List.mem_cons.1 ((h z).2 (List.mem_cons_of_mem _ hz)) with h1 | h1
   ·have := hb.1 z hz; omega
   ·exact h1
theorem dayQ (z : Int) (x : Int) : dayF z x = (x / 60000 + z) / 1440 := by unfold dayF; omega
theorem minQ (z : Int) (x : Int) : minF z x = (x / 60000 + z) % 1440 := by unfold minF; omega
theorem opB_const (z : Int) (r h : Abs.Rows) (x : Int) (hx : 0 ≤ x) : opB z r h x = opB z r h (x / 60000 * 60000) := by
 have e : x / 60000 * 60000 / 60000 = x / 60000 := by omega
 unfold opB
 rw [dayQ, minQ, dayQ z (x / 60000 * 60000), minQ z (x / 60000 * 60000), e]
end Go.Proofs.YtngjadgglbkjlaaDoor.Med
end
section
set_option linter.unusedVariables false
set_option linter.unusedSimpArgs false
set_option linter.unusedSectionVars false
namespace Go.Proofs.YtngjadgglbkjlaaDoor.Med
open Go Go.Abs Go.Proofs
set_option linter.unusedVariables false
set_option linter.unusedSimpArgs false
/-! the moments at which hours open or close, day by day -/
/-- - -/
def bdE (r : Abs.Rows) : Nat → Nat → List Int
 | 0, _ => []
 | d + 1, i => fI r i 1 :: fI r i 2 :: bdE r d (i + 1)
theorem bdE_len (r : Abs.Rows) : ∀ (d i : Nat), (bdE r d i).length = 2 * d
 | 0, _ => rfl
 | d + 1, i => by simp [bdE, bdE_len r d (i + 1)]; omega
theorem bdE_mem (r : Abs.Rows) : ∀ (d i : Nat) (x : Int), x ∈ bdE r d i ↔ ∃ j, i ≤ j ∧ j < i + d ∧ (x = fI r j 1 ∨ x = fI r j 2)
 | 0, i, x => by simp [bdE]; intro j h1 h2; omega
 | d + 1, i, x => by
  rw [bdE, List.mem_cons, List.mem_cons, bdE_mem r d (i + 1) x]
  constructor
  ·rintro (h | h | ⟨j, h1, h2, h3⟩)
   ·exact ⟨i, by omega, by omega, .inl h⟩
   ·exact ⟨i, by omega, by omega, .inr h⟩
   ·exact ⟨j, by omega, by omega, h3⟩
  ·rintro ⟨j, h1, h2, h3⟩
   by_cases e : j = i
   ·subst e
    rcases h3 with h3 | h3
    ·exact .inl h3
    ·exact .inr (.inl h3)
   ·exact .inr (.inr ⟨j, by omega, by omega, h3⟩)
section
variable {R : Type} (K : Abs.Rows → Option R)
theorem lp30a (m : Nat) (s0 : ByteArray) (z : Int) (r2 r3 : Abs.Rows) (a b : Int) (r6 : Abs.Rows) (r : Abs.Rows) (hl : r.length ≤ 1000) : ∀ (d n i : Nat) (l : List Int), i + d = r.length → d < n → l.length + 2 * d ≤ 100000 →
  Lp30_6 m (fun r _ => K r) s0 z r2 r3 a b r6 r r.length n (intsR l) i = K (intsR (l ++ bdE r d i))
 | _, 0, _, _, _, h, _ => by omega
 | 0, n + 1, i, l, h1, h2, h3 => by
  rw [Lp30_6]
  simp only [Lp30_6_step]
  rw [dF (by omega), bdE, List.append_nil]
 | d + 1, n + 1, i, l, h1, h2, h3 => by
  have ih := lp30a m s0 z r2 r3 a b r6 r hl d n (i + 1) (l ++ [fI r i 1, fI r i 2]) (by omega) (by omega) (by simp; omega)
  rw [Lp30_6]
  simp only [Lp30_6_step, wP1 (show i ≤ 1000000 by omega), tN]
  rw [dT (by omega), dT (by omega), dT (by simp [rM, intsR_len]; omega)]
  simp only [letV]
  rw [bdE, show l ++ fI r i 1 :: fI r i 2 :: bdE r d (i + 1) = (l ++ [fI r i 1, fI r i 2]) ++ bdE r d (i + 1) by simp, ← ih, intsR_app]
  rfl
theorem lp30b (m : Nat) (s0 : ByteArray) (z : Int) (r2 r3 : Abs.Rows) (a b : Int) (r6 : Abs.Rows) (r : Abs.Rows) (hl : r.length ≤ 1000) : ∀ (d n i : Nat) (l : List Int), i + d = r.length → d < n → l.length + 2 * d ≤ 100000 →
  Lp30_13 m (fun r _ => K r) s0 z r2 r3 a b r6 r r.length n (intsR l) i = K (intsR (l ++ bdE r d i))
 | _, 0, _, _, _, h, _ => by omega
 | 0, n + 1, i, l, h1, h2, h3 => by
  rw [Lp30_13]
  simp only [Lp30_13_step]
  rw [dF (by omega), bdE, List.append_nil]
 | d + 1, n + 1, i, l, h1, h2, h3 => by
  have ih := lp30b m s0 z r2 r3 a b r6 r hl d n (i + 1) (l ++ [fI r i 1, fI r i 2]) (by omega) (by omega) (by simp; omega)
  rw [Lp30_13]
  simp only [Lp30_13_step, wP1 (show i ≤ 1000000 by omega), tN]
  rw [dT (by omega), dT (by omega), dT (by simp [rM, intsR_len]; omega)]
  simp only [letV]
  rw [bdE, show l ++ fI r i 1 :: fI r i 2 :: bdE r d (i + 1) = (l ++ [fI r i 1, fI r i 2]) ++ bdE r d (i + 1) by simp, ← ih, intsR_app]
  rfl
end
/-! the turns of a day -/
def atM (z day x : Int) : Int := day * 86400000 + (x - z) * 60000
def okM (o : Int → Bool) (fr to z day x : Int) : Bool := decide (x < 1440 ∧ fr < atM z day x ∧ atM z day x < to ∧ o (atM z day x) ≠ o (atM z day x - 1))
def dyL (o : Int → Bool) (fr to z day : Int) (l : List Int) : List Int := (l.filter (okM o fr to z day)).map (atM z day)
theorem dyL_len (o : Int → Bool) (fr to z day : Int) (l : List Int) : (dyL o fr to z day l).length ≤ l.length := by
 unfold dyL
 rw [List.length_map]
 exact List.length_filter_le _ _
theorem lp30c (m : Nat) (hm : 500 ≤ m) (s0 : ByteArray) {z : Int} {r h : Abs.Rows} (g : HG z r h) {fr to : Int} (hf : 0 ≤ fr) (hto : to ≤ 346000000000) (a : Int) {day : Int} (hd0 : -10 ≤ day) (hd1 : day ≤ 5000) (S : List Int) (hS : S.length ≤ 1000) (hS2 : ∀ x ∈ S, 0 ≤ x ∧ x ≤ 1440) {R : Type} (K : Abs.Rows → Option R) :
  ∀ (d n i : Nat) (l : List Int), i + d = S.length → d < n → l.length + d ≤ 1000000 →
  Lp30_29 (m + 5) (fun r _ => K r) s0 z r h fr to (intsR S) a day S.length S.length n (intsR l) i = K (intsR (l ++ dyL (opB z r h) fr to z day (S.drop i)))
 | _, 0, _, _, _, h, _ => by omega
 | 0, n + 1, i, l, h1, h2, h3 => by
  rw [Lp30_29]
  simp only [Lp30_29_step]
  rw [dF (by omega), show i = S.length by omega, List.drop_length]
  simp [dyL]
 | d + 1, n + 1, i, l, h1, h2, h3 => by
  have z0 := g.z0
  have z1 := g.z1
  have hx : S.getD i 0 ∈ S := by
   rw [List.getD_eq_getElem?_getD, List.getElem?_eq_getElem (by omega)]
   exact List.getElem_mem _
  have hxb := hS2 _ hx
  have hdr : S.drop i = S.getD i 0 :: S.drop (i + 1) := by
   rw [List.drop_eq_getElem_cons (by omega), List.getD_eq_getElem?_getD, List.getElem?_eq_getElem (by omega)]
   rfl
  have hm0 : (S.getD i 0 - z) * 60000 = atM z day (S.getD i 0) - day * 86400000 := by unfold atM; omega
  rw [Lp30_29]
  simp only [Lp30_29_step, wP1 (show i ≤ 1000000 by omega), tN]
  rw [dT (by omega), dT (by omega), intsR_fI S i (by omega), hdr]
  generalize hxx : S.getD i 0 = x at hxb
  have hat : IntKind.wrap IntKind.i64 (IntKind.wrap IntKind.i64 (day * 86400000) + IntKind.wrap IntKind.i64 (IntKind.wrap IntKind.i64 (x - z) * 60000)) = atM z day x := by
   rw [w64 (x := x - z) (by omega) (by omega), w64 (x := day * 86400000) (by omega) (by omega), w64 (x := (x - z) * 60000) (by omega) (by omega), w64 (by omega) (by omega)]
   rfl
  rw [hat]
  have skip : okM (opB z r h) fr to z day x = false → Lp30_29 (m + 5) (fun r _ => K r) s0 z r h fr to (intsR S) a day S.length S.length n (intsR l) ((i + 1 : Nat) : Int) = K (intsR (l ++ dyL (opB z r h) fr to z day (x :: S.drop (i + 1)))) := by
   intro hok
   rw [lp30c m hm s0 g hf hto a hd0 hd1 S hS hS2 K d n (i + 1) l (by omega) (by omega) (by omega)]
   unfold dyL
   rw [List.filter_cons, hok]
   rfl
  by_cases c1 : x < 1440
  ·rw [dT c1]
   by_cases c2 : fr < atM z day x
   ·rw [dT c2]
    by_cases c3 : atM z day x < to
    ·rw [dT c3, fn31 m (by omega) s0 g (by omega) (by omega), w64 (x := atM z day x - 1) (by omega) (by omega), fn31 m (by omega) s0 g (by omega) (by omega)]
     by_cases e : opB z r h (atM z day x) = opB z r h (atM z day x - 1)
     ·have e2 : (!(opB z r h (atM z day x) == opB z r h (atM z day x - 1))) = false := by rw [e]; cases opB z r h (atM z day x - 1) <;> rfl
      rw [e2]
      refine Eq.trans (bF rfl) (skip ?_)
      unfold okM
      exact decide_eq_false fun hh => hh.2.2.2 e
     ·have e2 : (!(opB z r h (atM z day x) == opB z r h (atM z day x - 1))) = true := by
       cases ha : opB z r h (atM z day x) <;> cases hb : opB z r h (atM z day x - 1) <;> simp_all
      rw [e2]
      refine Eq.trans (bT rfl) ?_
      rw [dT (by simp [rM, intsR_len]; omega)]
      simp only [letV]
      have ih := lp30c m hm s0 g hf hto a hd0 hd1 S hS hS2 K d n (i + 1) (l ++ [atM z day x]) (by omega) (by omega) (by simp; omega)
      rw [intsR_app] at ih
      refine Eq.trans ih ?_
      have hok : okM (opB z r h) fr to z day x = true := decide_eq_true ⟨c1, c2, c3, e⟩
      unfold dyL
      rw [List.filter_cons, hok, List.append_assoc]
      rfl
    ·rw [dF c3]
     exact skip (decide_eq_false fun hh => c3 hh.2.2.1)
   ·rw [dF c2]
    exact skip (decide_eq_false fun hh => c2 hh.2.1)
  ·rw [dF c1]
   exact skip (decide_eq_false fun hh => c1 hh.1)
theorem lp30c0 (m : Nat) (hm : 500 ≤ m) (s0 : ByteArray) {z : Int} {r h : Abs.Rows} (g : HG z r h) {fr to : Int} (hf : 0 ≤ fr) (hto : to ≤ 346000000000) (a : Int) {day : Int} (hd0 : -10 ≤ day) (hd1 : day ≤ 5000) (S : List Int) (hS : S.length ≤ 1000) (hS2 : ∀ x ∈ S, 0 ≤ x ∧ x ≤ 1440) {R : Type} (K : Abs.Rows → Option R)
  (n : Nat) (l : List Int) (hn : S.length < n) (hl : l.length + S.length ≤ 1000000) :
  Lp30_29 (m + 5) (fun r _ => K r) s0 z r h fr to (intsR S) a day S.length S.length n (intsR l) 0 = K (intsR (l ++ dyL (opB z r h) fr to z day S)) := by
 have := lp30c m hm s0 g hf hto a hd0 hd1 S hS hS2 K S.length n 0 l (by omega) hn hl
 rw [List.drop_zero] at this
 exact this
def alE (o : Int → Bool) (fr to z : Int) (S : List Int) : Nat → Int → List Int
 | 0, _ => []
 | d + 1, day => dyL o fr to z day S ++ alE o fr to z S d (day + 1)
theorem lp30d (m : Nat) (hm : 2000 ≤ m) (s0 : ByteArray) {z : Int} {r h : Abs.Rows} (g : HG z r h) {fr to : Int} (hf : 0 ≤ fr) (hto : to ≤ 346000000000) {last : Int} (hlast : last ≤ 4900) (S : List Int) (hS : S.length ≤ 1000) (hS2 : ∀ x ∈ S, 0 ≤ x ∧ x ≤ 1440) {R : Type} (K : Abs.Rows → Option R) :
  ∀ (d n : Nat) (day : Int) (l : List Int), day + d = last + 1 → d < n → -10 ≤ day → l.length + d * 1000 ≤ 900000 →
  Lp30_25 (m + 5) (fun r _ => K r) s0 z r h fr to (intsR S) last n (intsR l) day = K (intsR (l ++ alE (opB z r h) fr to z S d day))
 | _, 0, _, _, _, h, _, _ => by omega
 | 0, n + 1, day, l, h1, h2, h3, h4 => by
  rw [Lp30_25]
  simp only [Lp30_25_step]
  rw [dF (by omega)]
  simp [alE]
 | d + 1, n + 1, day, l, h1, h2, h3, h4 => by
  rw [Lp30_25]
  simp only [Lp30_25_step, intsR_len]
  rw [dT (by omega), w64 (x := day + 1) (by omega) (by omega)]
  have key := lp30c0 m (by omega) s0 g hf hto last h3 (by omega) S hS hS2 (fun rr => Lp30_25 (m + 5) (fun r _ => K r) s0 z r h fr to (intsR S) last n rr (day + 1)) (m + 5) l (by omega) (by omega)
  refine Eq.trans key ?_
  have hl2 := dyL_len (opB z r h) fr to z day S
  rw [lp30d m hm s0 g hf hto hlast S hS hS2 K d n (day + 1) (l ++ dyL (opB z r h) fr to z day S) (by omega) (by omega) (by omega) (by rw [List.length_append]; omega)]
  rw [alE, List.append_assoc]
end Go.Proofs.YtngjadgglbkjlaaDoor.Med
end
section
set_option linter.unusedVariables false
set_option linter.unusedSimpArgs false
set_option linter.unusedSectionVars false
namespace Go.Proofs.YtngjadgglbkjlaaDoor.Med
open Go Go.Abs Go.Proofs
set_option linter.unusedVariables false
set_option linter.unusedSimpArgs false
/-! both answer alike -/
theorem ints_row (l : List Int) : (intsR l).map rowInt = l := by
 rw [intsR, List.map_map]
 exact (List.map_congr_left (fun _ _ => rfl)).trans (List.map_id l)
theorem sort_mem (l : List Int) (x : Int) : x ∈ sortI l ↔ x ∈ l := by simp [sortI]
theorem sort_sorted (l : List Int) : (sortI l).Pairwise (· ≤ ·) := by
 have := List.pairwise_mergeSort (le := fun x y : Int => decide (x ≤ y)) (fun a b c h1 h2 => by simp at h1 h2 ⊢; omega) (fun a b => by simp; omega) l
 exact this.imp fun h => by simpa using h
theorem le_at {l : List Int} (h : l.Pairwise (· ≤ ·)) {i j : Nat} (hij : i ≤ j) (hj : j < l.length) : l.toArray[i]! ≤ l.toArray[j]! := by
 rcases Nat.lt_or_eq_of_le hij with h1 | h1
 ·have := List.pairwise_iff_getElem.1 h i j (by omega) hj h1
  simpa [getElem!_def, hj, show i < l.length by omega] using this
 ·subst h1; exact Int.le_refl _
theorem comp_mem (l : List Int) (x : Int) : x ∈ Lib.compact l ↔ x ∈ l := by
 unfold Lib.compact Lib.compactUpTo
 rw [List.mem_map]
 constructor
 ·rintro ⟨j, h1, rfl⟩
  have hj : j < l.length := by simpa using List.mem_range.1 (List.mem_filter.1 h1).1
  simp [getElem!_def, hj]
 ·intro hx
  have key : ∀ j, j < l.length → ∃ a, a ∈ (List.range l.length).filter (Lib.keeps l.toArray) ∧ l.toArray[a]! = l.toArray[j]! := by
   intro j
   induction j with
   | zero => intro hj; exact ⟨0, List.mem_filter.2 ⟨List.mem_range.2 hj, Lib.keeps_lt_one _ 0 (by omega)⟩, rfl⟩
   | succ j ih =>
    intro hj
    by_cases e : l.toArray[j + 1]! = l.toArray[j]!
    ·obtain ⟨a, h1, h2⟩ := ih (by omega)
     exact ⟨a, h1, h2.trans e.symm⟩
    ·exact ⟨j + 1, List.mem_filter.2 ⟨List.mem_range.2 hj, Lib.keeps_pos (by simpa using e)⟩, rfl⟩
  obtain ⟨j, hj⟩ := List.getElem?_of_mem hx
  have hlt := (List.getElem?_eq_some_iff.1 hj).1
  obtain ⟨a, h1, h2⟩ := key j hlt
  refine ⟨a, h1, h2.trans ?_⟩
  simp [getElem!_def, hj]
theorem comp_sorted {l : List Int} (h : l.Pairwise (· ≤ ·)) : (Lib.compact l).Pairwise (· < ·) := by
 unfold Lib.compact Lib.compactUpTo
 rw [List.pairwise_map]
 have h1 : ((List.range l.length).filter (Lib.keeps l.toArray)).Pairwise (· < ·) := List.Pairwise.filter _ List.pairwise_lt_range
 refine (List.Pairwise.and_mem.1 h1).imp fun {i j} ⟨hi, hj, hij⟩ => ?_
 have hjl : j < l.length := List.mem_range.1 (List.mem_filter.1 hj).1
 have hk := (List.mem_filter.1 hj).2
 have hne : l.toArray[j]! ≠ l.toArray[j - 1]! := by
  intro e
  rw [Lib.keeps_neg (by omega) e] at hk
  cases hk
 have e1 := le_at h (show i ≤ j - 1 by omega) (by omega)
 have e2 := le_at h (show j - 1 ≤ j by omega) hjl
 omega
/-- - -/
def mins (r h : Abs.Rows) : List Int := Lib.compact (sortI ((bdE r r.length 0 ++ bdE h h.length 0) ++ [0]))
theorem mins_sorted (r h : Abs.Rows) : (mins r h).Pairwise (· < ·) := comp_sorted (sort_sorted _)
theorem mins_mem (r h : Abs.Rows) (x : Int) : x ∈ mins r h ↔ (∃ j, j < r.length ∧ (x = fI r j 1 ∨ x = fI r j 2)) ∨ (∃ j, j < h.length ∧ (x = fI h j 1 ∨ x = fI h j 2)) ∨ x = 0 := by
 unfold mins
 rw [comp_mem, sort_mem, List.mem_append, List.mem_append, bdE_mem, bdE_mem]
 simp only [Nat.zero_le, true_and, Nat.zero_add, List.mem_singleton, or_assoc]
theorem mins_len (r h : Abs.Rows) : (mins r h).length ≤ 2 * r.length + 2 * h.length + 1 := by
 have h1 : ∀ l : List Int, (Lib.compact l).length ≤ l.length := fun l => by
  unfold Lib.compact Lib.compactUpTo
  rw [List.length_map]
  have := List.length_filter_le (Lib.keeps l.toArray) (List.range l.length)
  simpa using this
 have h2 : ∀ l : List Int, (sortI l).length = l.length := fun l => by simp [sortI]
 unfold mins
 refine Nat.le_trans (h1 _) ?_
 rw [h2]
 simp [bdE_len]
 omega
theorem mins_rng {z : Int} {r h : Abs.Rows} (g : HG z r h) : ∀ x ∈ mins r h, 0 ≤ x ∧ x ≤ 1440 := by
 intro x hx
 rcases (mins_mem r h x).1 hx with ⟨j, h1, h2⟩ | ⟨j, h1, h2⟩ | h1
 ·have := g.rg j h1; omega
 ·have := g.hg j h1; omega
 ·omega
theorem hoE_same {h : Abs.Rows} {day mn : Int} (hn : ∀ j, j < h.length → mn ≠ fI h j 1 ∧ mn ≠ fI h j 2) : ∀ (d i : Nat), i + d = h.length → hoE h day mn d i = hoE h day (mn - 1) d i
 | 0, i, _ => rfl
 | d + 1, i, hd => by
  rw [hoE, hoE, hoE_same hn d (i + 1) (by omega)]
  have := hn i (by omega)
  congr 2
  apply decide_eq_decide.2
  omega
theorem roE_same {h : Abs.Rows} {wk mn : Int} (hn : ∀ j, j < h.length → mn ≠ fI h j 1 ∧ mn ≠ fI h j 2) : ∀ (d i : Nat), i + d = h.length → roE h wk mn d i = roE h wk (mn - 1) d i
 | 0, i, _ => rfl
 | d + 1, i, hd => by
  rw [roE, roE, roE_same hn d (i + 1) (by omega)]
  have := hn i (by omega)
  congr 2
  apply decide_eq_decide.2
  omega
theorem turn_in {z : Int} {r h : Abs.Rows} {x : Int} (h1 : x % 60000 = 0) (h2 : opB z r h x ≠ opB z r h (x - 1)) : minF z x ∈ mins r h := by
 rw [mins_mem]
 refine Decidable.byContradiction fun hn => h2 ?_
 have n1 : ∀ j, j < r.length → minF z x ≠ fI r j 1 ∧ minF z x ≠ fI r j 2 := fun j hj => ⟨fun e => hn (.inl ⟨j, hj, .inl e⟩), fun e => hn (.inl ⟨j, hj, .inr e⟩)⟩
 have n2 : ∀ j, j < h.length → minF z x ≠ fI h j 1 ∧ minF z x ≠ fI h j 2 := fun j hj => ⟨fun e => hn (.inr (.inl ⟨j, hj, .inl e⟩)), fun e => hn (.inr (.inl ⟨j, hj, .inr e⟩))⟩
 have n3 : minF z x ≠ 0 := fun e => hn (.inr (.inr e))
 have e1 : minF z (x - 1) = minF z x - 1 := by unfold minF at n3 ⊢; omega
 have e2 : dayF z (x - 1) = dayF z x := by unfold minF at n3; unfold dayF; omega
 unfold opB
 rw [e1, e2, hoE_same n2 _ _ (by omega), roE_same n1 _ _ (by omega)]
theorem dyL_mem (o : Int → Bool) (fr to z day : Int) (l : List Int) (x : Int) : x ∈ dyL o fr to z day l ↔ ∃ m ∈ l, okM o fr to z day m = true ∧ x = atM z day m := by
 unfold dyL
 rw [List.mem_map]
 constructor
 ·rintro ⟨m, h1, rfl⟩
  exact ⟨m, (List.mem_filter.1 h1).1, (List.mem_filter.1 h1).2, rfl⟩
 ·rintro ⟨m, h1, h2, rfl⟩
  exact ⟨m, List.mem_filter.2 ⟨h1, h2⟩, rfl⟩
theorem alE_mem (o : Int → Bool) (fr to z : Int) (l : List Int) (x : Int) : ∀ (d : Nat) (day : Int), x ∈ alE o fr to z l d day ↔ ∃ e : Int, day ≤ e ∧ e < day + d ∧ x ∈ dyL o fr to z e l
 | 0, day => by simp [alE]; intro e h1 h2; omega
 | d + 1, day => by
  rw [alE, List.mem_append, alE_mem o fr to z l x d (day + 1)]
  constructor
  ·rintro (h | ⟨e, h1, h2, h3⟩)
   ·exact ⟨day, by omega, by omega, h⟩
   ·exact ⟨e, by omega, by omega, h3⟩
  ·rintro ⟨e, h1, h2, h3⟩
   by_cases c : e = day
   ·subst c; exact .inl h3
   ·exact .inr ⟨e, by omega, by omega, h3⟩
theorem dyL_sorted (o : Int → Bool) (fr to z day : Int) {l : List Int} (h : l.Pairwise (· < ·)) : (dyL o fr to z day l).Pairwise (· < ·) := by
 unfold dyL
 rw [List.pairwise_map]
 refine (List.Pairwise.filter _ h).imp fun {a b} hab => ?_
 unfold atM
 omega
theorem alE_sorted (o : Int → Bool) (fr to z : Int) {l : List Int} (h : l.Pairwise (· < ·)) (h0 : ∀ x ∈ l, 0 ≤ x) : ∀ (d : Nat) (day : Int), (alE o fr to z l d day).Pairwise (· < ·)
 | 0, day => .nil
 | d + 1, day => by
  rw [alE, List.pairwise_append]
  refine ⟨dyL_sorted o fr to z day h, alE_sorted o fr to z h h0 d (day + 1), fun x hx y hy => ?_⟩
  obtain ⟨m, h1, h2, rfl⟩ := (dyL_mem _ _ _ _ _ _ _).1 hx
  obtain ⟨e, h3, h4, h5⟩ := (alE_mem _ _ _ _ _ _ _ _).1 hy
  obtain ⟨m2, h6, h7, rfl⟩ := (dyL_mem _ _ _ _ _ _ _).1 h5
  unfold okM at h2
  have h2 := (of_decide_eq_true h2).1
  have := h0 m2 h6
  unfold atM
  omega
/-- - -/
def refL (z : Int) (r h : Abs.Rows) (fr to : Int) : List Int := (if fr < to ∧ opB z r h fr = true then [fr] else []) ++ alE (opB z r h) fr to z (mins r h) (dayF z to - dayF z fr + 1).toNat (dayF z fr)
theorem both {z : Int} {r h : Abs.Rows} (g : HG z r h) {fr to : Int} (h0 : 0 ≤ fr) (h01 : fr ≤ to) (d : Nat) (hd : to ≤ (fr / 60000 + d) * 60000) : trE (opB z r h) to d false fr = refL z r h fr to := by
 have z0 := g.z0
 have z1 := g.z1
 refine sorted_eq (trE_sorted _ _ _ _ _) ?_ fun x => ?_
 ·unfold refL
  rw [List.pairwise_append]
  refine ⟨by split <;> simp, alE_sorted _ _ _ _ (mins_sorted r h) (fun x hx => (mins_rng g x hx).1) _ _, fun x hx y hy => ?_⟩
  split at hx
  ·simp at hx
   subst hx
   obtain ⟨e, h3, h4, h5⟩ := (alE_mem _ _ _ _ _ _ _ _).1 hy
   obtain ⟨m2, h6, h7, rfl⟩ := (dyL_mem _ _ _ _ _ _ _).1 h5
   unfold okM at h7
   exact (of_decide_eq_true h7).2.1
  ·cases hx
 ·rw [trE_all (opB_const z r h) h0 d hd x]
  unfold refL
  rw [List.mem_append, alE_mem]
  constructor
  ·rintro (⟨a1, a2, a3⟩ | ⟨a1, a2, a3, a4⟩)
   ·left
    rw [if_pos ⟨a2, a3⟩, a1]
    simp
   ·right
    have e0 : x = atM z (dayF z x) (minF z x) := by unfold atM dayF minF; omega
    refine ⟨dayF z x, by unfold dayF; omega, by unfold dayF; omega, (dyL_mem _ _ _ _ _ _ _).2 ⟨minF z x, turn_in a3 a4, ?_, e0⟩⟩
    unfold okM
    rw [← e0]
    exact decide_eq_true ⟨by unfold minF; omega, a1, a2, a4⟩
  ·rintro (h1 | ⟨e, h1, h2, h3⟩)
   ·left
    split at h1
    ·rename_i c
     simp at h1
     exact ⟨h1, c.1, c.2⟩
    ·cases h1
   ·right
    obtain ⟨m, h4, h5, rfl⟩ := (dyL_mem _ _ _ _ _ _ _).1 h3
    unfold okM at h5
    obtain ⟨b1, b2, b3, b4⟩ := of_decide_eq_true h5
    exact ⟨b2, b3, by unfold atM; omega, b4⟩
end Go.Proofs.YtngjadgglbkjlaaDoor.Med
end
section
set_option linter.unusedVariables false
set_option linter.unusedSimpArgs false
set_option linter.unusedSectionVars false
namespace Go.Proofs.YtngjadgglbkjlaaDoor.Med
open Go Go.Abs Go.Proofs
set_option linter.unusedVariables false
set_option linter.unusedSimpArgs false
/-! what the two answer -/
abbrev rowH (s : ByteArray) (z : Int) (r h : Abs.Rows) : Abs.Rows := [[F.lit (Value.string s), F.lit (Value.int IntKind.i64 z), F.lst [LT.int IntKind.i64, LT.int IntKind.i64, LT.int IntKind.i64] r, F.lst [LT.int IntKind.i64, LT.int IntKind.i64, LT.int IntKind.i64] h]]
def oneH (s : ByteArray) (z : Int) (r h : Abs.Rows) : Int := if keyB (ls s) = false then 5 else if ¬ (-1440 ≤ z ∧ z ≤ 1440) then 1 else tmF r h
theorem hus_one (s : ByteArray) (z : Int) (r h : Abs.Rows) : husF (rowH s z r h) = oneH s z r h := by
 have e : huF (rowH s z r h) 0 = oneH s z r h := by
  unfold huF oneH
  rw [if_neg (show ¬ (0 < 0 ∧ _) by omega)]
  rfl
 unfold husF
 rw [if_neg (by simp)]
 show (if huF (rowH s z r h) 0 = 0 then 0 else huF (rowH s z r h) 0) = _
 rw [e]
 split <;> simp_all
theorem good {s : ByteArray} {z : Int} {r h : Abs.Rows} (e : oneH s z r h = 0) : HG z r h := by
 unfold oneH tmF at e
 have c1 : -1440 ≤ z ∧ z ≤ 1440 := by grind (splits := 30)
 have c2 : r.length ≤ 50 := by grind (splits := 30)
 have c3 : fstE (hrF r) r.length 0 = 0 := by grind (splits := 30)
 have c4 : h.length ≤ 200 := by grind (splits := 30)
 have c5 : fstE (hoF h) h.length 0 = 0 := by grind (splits := 30)
 refine ⟨c1.1, c1.2, c2, c4, fun i hi => ?_, fun i hi => ?_⟩
 ·have := fstE_z c3 i (by omega) (by omega)
  unfold hrF at this
  grind
 ·have := fstE_z c5 i (by omega) (by omega)
  unfold hoF at this
  grind (splits := 30)
def momB (x : Int) : Bool := decide (0 ≤ x ∧ x < 345686400000)
theorem fn61 (m : Nat) (x : Int) {R : Type} (k : Bool → Option R) : Fn61 (m + 1) x k = k (momB x) := by
 simp only [Fn61, Bool.cond_eq_ite, momB]
 grind
theorem fn28 (m : Nat) (x : Int) {R : Type} (k : Int → Option R) : Fn28 (m + 3) x k = k (if momB x = false then 1 else 0) := by
 simp only [Fn28, Fn65, fn48, fn64, momB]
 congr 1
 grind
theorem fn26 (m : Nat) (hm : 1200 ≤ m) (s : ByteArray) (z : Int) (r h : Abs.Rows) (t : Int) {R : Type} (k : Bool → Int → Option R) : Fn26 (m + 4) s z r h t k =
  if oneH s z r h ≠ 0 then k false (oneH s z r h) else if momB t = false then k false 1 else k (opB z r h t) 0 := by
 simp only [Fn26]
 refine Eq.trans (fn23 m hm (rowH s z r h) _) ?_
 rw [hus_one]
 by_cases e : oneH s z r h = 0
 ·rw [nF e, if_neg (by simpa using e)]
  refine Eq.trans (fn61 (m + 2) t _) ?_
  cases hb : momB t with
  | false => rfl
  | true =>
   have hb2 : 0 ≤ t ∧ t < 345686400000 := of_decide_eq_true hb
   refine Eq.trans (bF rfl) ?_
   exact fn62 (m + 1) (by omega) s (good e) (by omega) (by omega) _
 ·rw [nT e, if_pos e]
def spF (fr to : Int) : Int := if fr < 0 ∨ fr > to ∨ to > 345686400000 then 1 else if to - fr > 34560000000 then 2 else 0
theorem fn63 (m : Nat) (fr to : Int) {R : Type} (k : Int → Option R) : Fn63 (m + 1) fr to k = k (spF fr to) := by
 simp only [Fn63, Jn63_3, spF]
 by_cases c : fr < 0 ∨ fr > to ∨ to > 345686400000
 ·rw [if_pos c]
  simp only [Bool.cond_eq_ite]
  grind
 ·rw [if_neg c, dF (by omega), dF (by omega), dF (by omega), w64 (by omega) (by omega)]
  simp only [Bool.cond_eq_ite]
  grind
theorem fn29 (m : Nat) (fr to : Int) {R : Type} (k : Int → Option R) : Fn29 (m + 2) fr to 400 k = k (spF fr to) := by
 simp only [Fn29, Jn29_3, fn48, spF]
 by_cases c : fr < 0 ∨ fr > to ∨ to > 345686400000
 ·rw [if_pos c]
  simp only [Bool.cond_eq_ite]
  grind
 ·rw [if_neg c, decide_eq_true (show 0 ≤ fr ∧ fr ≤ to by omega)]
  refine Eq.trans (bF rfl) ?_
  rw [dF (by omega), w64 (x := to - fr) (by omega) (by omega), w64 (x := 400 * 86400000) (by omega) (by omega)]
  simp only [Bool.cond_eq_ite]
  grind
theorem sp_ok {fr to : Int} (h : spF fr to = 0) : 0 ≤ fr ∧ fr ≤ to ∧ to ≤ 345686400000 ∧ to - fr ≤ 34560000000 := by
 unfold spF at h
 grind
theorem fn27 (m : Nat) (hm : 600000 ≤ m) (s : ByteArray) (z : Int) (r h : Abs.Rows) (fr to : Int) {R : Type} (k : Abs.Rows → Int → Option R) : Fn27 (m + 4) s z r h fr to k =
  if oneH s z r h ≠ 0 then k rows0 (oneH s z r h) else if spF fr to ≠ 0 then k rows0 (spF fr to) else k (intsR (refL z r h fr to)) 0 := by
 simp only [Fn27]
 refine Eq.trans (fn23 m (by omega) (rowH s z r h) _) ?_
 rw [hus_one]
 by_cases e : oneH s z r h = 0
 ·rw [nF e, if_neg (by simpa using e)]
  refine Eq.trans (fn63 (m + 2) fr to _) ?_
  by_cases e2 : spF fr to = 0
  ·rw [nF e2, if_neg (by simpa using e2)]
   obtain ⟨q0, q1, q2, q3⟩ := sp_ok e2
   have hd : to ≤ (fr / 60000 + ((to / 60000 - fr / 60000 + 1).toNat : Nat)) * 60000 := by omega
   have hd2 : (to / 60000 - fr / 60000 + 1).toNat ≤ 576010 := by omega
   rw [← both (good e) q0 q1 _ hd]
   refine Eq.trans (lp27 (m + 1) (by omega) s (good e) fr (by omega) (fun r => k r 0) (to / 60000 - fr / 60000 + 1).toNat (m + 3) fr false rows0 hd (by omega) q0 (by omega) (by simp [rows0]; omega)) ?_
   rfl
  ·rw [nT e2, if_pos e2]
 ·rw [nT e, if_pos e]
theorem sortOk_of {rs : Abs.Rows} (h0 : 0 < rs.length) (h1 : rs.length ≤ 1000000) : sortOk rs = true := by
 unfold sortOk
 rw [decide_eq_true h0, decide_eq_true (by rw [rM]; omega)]
 rfl
theorem jn30 (m : Nat) (hm : 3000 ≤ m) (s : ByteArray) {z : Int} {r h : Abs.Rows} (g : HG z r h) {fr to : Int} (q0 : 0 ≤ fr) (q1 : fr ≤ to) (q2 : to ≤ 345686400000) (q3 : to - fr ≤ 34560000000) (r6 : Abs.Rows) (l : List Int) (hl : l.length ≤ 1) {R : Type} (K : Abs.Rows → Option R) :
  Jn30_3 (m + 5) K s z r h fr to r6 (intsR l) = K (intsR (l ++ alE (opB z r h) fr to z (mins r h) (dayF z to - dayF z fr + 1).toNat (dayF z fr))) := by
 have z0 := g.z0
 have z1 := g.z1
 have rl := g.rl
 have hl2 := g.hl
 simp only [Jn30_3]
 refine Eq.trans (lp30a _ (m + 5) s z r h fr to (intsR l) r (by omega) r.length (m + 5) 0 [] (by omega) (by omega) (by simp; omega)) ?_
 rw [List.nil_append]
 refine Eq.trans (lp30b _ (m + 5) s z r h fr to (intsR l) h (by omega) h.length (m + 5) 0 (bdE r r.length 0) (by omega) (by omega) (by rw [bdE_len]; omega)) ?_
 have hlen : (bdE r r.length 0 ++ bdE h h.length 0).length ≤ 1000 := by rw [List.length_append, bdE_len, bdE_len]; omega
 rw [dT (by rw [intsR_len, rM]; simp; simp at hlen; omega)]
 simp only [letV]
 have e1 : intsR (bdE r r.length 0 ++ bdE h h.length 0) ++ [[F.lit (Value.int IntKind.i64 0)]] = intsR ((bdE r r.length 0 ++ bdE h h.length 0) ++ [0]) := (intsR_app _ [0]).symm
 rw [e1]
 have e2 : sortR (intsR ((bdE r r.length 0 ++ bdE h h.length 0) ++ [0])) = intsR (sortI ((bdE r r.length 0 ++ bdE h h.length 0) ++ [0])) := by unfold sortR; rw [ints_row]
 have e3 : compR (intsR (sortI ((bdE r r.length 0 ++ bdE h h.length 0) ++ [0]))) = intsR (mins r h) := by unfold compR mins; rw [ints_row]
 have hsl : ∀ l : List Int, (sortI l).length = l.length := fun l => by simp [sortI]
 rw [e2, e3, bT (sortOk_of (by rw [intsR_len]; simp; omega) (by rw [intsR_len]; simp; simp at hlen; omega)), bT (sortOk_of (by rw [intsR_len, hsl]; simp; omega) (by rw [intsR_len, hsl]; simp; simp at hlen; omega)),
  fn68 (m + 3) z0 z1 (by omega) (by omega), fn68 (m + 3) z0 z1 (by omega) (by omega)]
 have d0 : -2 ≤ dayF z fr := by unfold dayF; omega
 have d1 : dayF z to ≤ 4100 := by unfold dayF; omega
 have d2 : dayF z fr ≤ dayF z to := by unfold dayF; omega
 have d3 : dayF z to - dayF z fr ≤ 401 := by unfold dayF; omega
 refine lp30d m (by omega) s g q0 (by omega) (by omega) (mins r h) (by have := mins_len r h; omega) (mins_rng g) K (dayF z to - dayF z fr + 1).toNat (m + 5) (dayF z fr) l (by omega) (by omega) (by omega) (by omega)
theorem fn30 (m : Nat) (hm : 3000 ≤ m) (s : ByteArray) {z : Int} {r h : Abs.Rows} (g : HG z r h) {fr to : Int} (q0 : 0 ≤ fr) (q1 : fr ≤ to) (q2 : to ≤ 345686400000) (q3 : to - fr ≤ 34560000000) {R : Type} (k : Abs.Rows → Option R) :
  Fn30 (m + 6) s z r h fr to k = k (intsR (refL z r h fr to)) := by
 simp only [Fn30]
 unfold refL
 by_cases c : fr < to
 ·rw [dT c, fn31 m (by omega) s g (by omega) (by omega)]
  cases hb : opB z r h fr with
  | true =>
   rw [if_pos ⟨c, rfl⟩]
   refine Eq.trans (bT rfl) ?_
   exact jn30 m hm s g q0 q1 q2 q3 rows0 [fr] (by simp) k
  | false =>
   rw [if_neg (by simp)]
   refine Eq.trans (bF rfl) ?_
   exact jn30 m hm s g q0 q1 q2 q3 rows0 [] (by simp) k
 ·rw [dF c, if_neg (fun hh => c hh.1)]
  exact jn30 m hm s g q0 q1 q2 q3 rows0 [] (by simp) k
theorem fn32 (m : Nat) (x : Abs.Rows) (hx : x.length ≤ 600000) (hm : 600000 < m) {R : Type} (k : Bool → Option R) : Fn32 (m + 1) x x k = k true := by
 have lp : ∀ (d n i : Nat), i + d = x.length → d < n → Lp32_5 m (fun b _ => k b) (fun _ => k true) x x false x.length n i = k true := by
  intro d
  induction d with
  | zero =>
   intro n i h1 h2
   cases n with
   | zero => omega
   | succ n =>
    rw [Lp32_5]
    simp only [Lp32_5_step]
    rw [dF (by omega)]
  | succ d ih =>
   intro n i h1 h2
   cases n with
   | zero => omega
   | succ n =>
    rw [Lp32_5]
    simp only [Lp32_5_step, wP1 (show i ≤ 1000000 by omega), tN]
    rw [dT (by omega), dT (by omega), dT (by omega), nF rfl]
    exact ih n (i + 1) (by omega) (by omega)
 simp only [Fn32]
 rw [nF rfl]
 exact lp x.length m 0 (by omega) (by omega)
theorem fn12 (m : Nat) {R : Type} (k : Bool → Option R) : Fn12 (m + 60) k = k true := by kernel_rfl
end Go.Proofs.YtngjadgglbkjlaaDoor.Med
end
section
set_option linter.unusedVariables false
set_option linter.unusedSimpArgs false
set_option linter.unusedSectionVars false
namespace Go.Proofs.YtngjadgglbkjlaaDoor.Med
open Go Go.Abs Go.Proofs
set_option linter.unusedVariables false
set_option linter.unusedSimpArgs false
/-! what is drawn: hours, a moment, a window -/
theorem beqT (n : Nat) {α : Type} {a b : α} : (bif Nat.beq n n then a else b) = a := by rw [Nat.beq_refl]; rfl
theorem rowAt_app (r : Abs.Rows) (x : List F) (i : Nat) : Abs.rowAt (r ++ [x]) i = if i < r.length then Abs.rowAt r i else if i = r.length then x else [] := by
 unfold Abs.rowAt
 by_cases h : i < r.length
 ·rw [if_pos h, List.getD_eq_getElem?_getD, List.getElem?_append_left h, ← List.getD_eq_getElem?_getD]
 ·rw [if_neg h, List.getD_eq_getElem?_getD, List.getElem?_append_right (by omega)]
  by_cases h2 : i = r.length
  ·rw [if_pos h2, h2, Nat.sub_self]; rfl
  ·rw [if_neg h2, List.getElem?_eq_none (by simp; omega)]; rfl
def HOk (r : Abs.Rows) : Prop := ∀ i, (fR r i 2).length ≤ 10 ∧ (fR r i 3).length ≤ 10
theorem hok_nil : HOk rows0 := fun i => by simp [fR, Abs.rowAt, rows0, dropF, F.toRows, default, instInhabitedF.default]
theorem hok_app {r : Abs.Rows} (h : HOk r) {x1 x2 : F} {ts1 : List LT} {sk : Abs.Rows} {ts2 : List LT} {pa : Abs.Rows} (h1 : sk.length ≤ 10) (h2 : pa.length ≤ 10) : HOk (r ++ [[x1, x2, .lst ts1 sk, .lst ts2 pa]]) := by
 intro i
 have hi := h i
 unfold fR at hi ⊢
 rw [rowAt_app]
 by_cases c : i < r.length
 ·rw [if_pos c]; exact hi
 ·rw [if_neg c]
  by_cases c2 : i = r.length
  ·rw [if_pos c2]; exact ⟨h1, h2⟩
  ·rw [if_neg c2]
   simp [dropF, F.toRows, default, instInhabitedF.default]
theorem lp54a (m : Nat) (r0 : Abs.Rows) (s1 : ByteArray) (a : Int) (r3 r4 : Abs.Rows) (b c : Int) (N : Nat) (hN : N ≤ 10) (q : Abs.Rows) : ∀ (d n i : Nat) (r : Abs.Rows) (t : Int), i + d = N → d < n → 0 ≤ t → t + 3 * d ≤ 100000 → r.length + d ≤ 1000 →
  ∃ (r' : Abs.Rows) (t' : Int), r'.length ≤ r.length + d ∧ t ≤ t' ∧ t' ≤ t + 3 * d ∧ ∀ (R : Type) (k : Abs.Rows → Int → Int → Option R), Lp54_9 (m + 3) k r0 s1 a r3 r4 b c N q n r i t = k r' N t'
 | _, 0, _, _, _, _, h, _, _, _ => by omega
 | 0, n + 1, i, r, t, h1, h2, h3, h4, h5 => by
  refine ⟨r, t, by omega, by omega, by omega, fun R k => ?_⟩
  rw [Lp54_9]
  simp only [Lp54_9_step]
  rw [dF (by omega), show i = N by omega]
 | d + 1, n + 1, i, r, t, h1, h2, h3, h4, h5 => by
  have key : ∃ x : List F, ∀ (R : Type) (k : Abs.Rows → Int → Int → Option R), Lp54_9 (m + 3) k r0 s1 a r3 r4 b c N q (n + 1) r i t = Lp54_9 (m + 3) k r0 s1 a r3 r4 b c N q n (r ++ [x]) ((i + 1 : Nat) : Int) (t + 1 + 1 + 1) := ⟨_, fun R k => by
   rw [Lp54_9]
   simp only [Lp54_9_step, wP1 (show i ≤ 1000000 by omega)]
   rw [dT (by omega), gn37 m q _ (by omega) (by omega) (by simp) (by simp), gn37 m q _ (by omega) (by omega) (by simp) (by simp), gn37 m q _ (by omega) (by omega) (by simp) (by simp), dT (by simp [rM]; omega)]
   all_goals rfl⟩
  obtain ⟨x, hx⟩ := key
  obtain ⟨r', t', k1, k2, k3, k4⟩ := lp54a m r0 s1 a r3 r4 b c N hN q d n (i + 1) (r ++ [x]) (t + 1 + 1 + 1) (by omega) (by omega) (by omega) (by omega) (by simp; omega)
  refine ⟨r', t', by simp at k1; omega, by omega, by omega, fun R k => ?_⟩
  rw [hx]
  exact k4 R k
theorem lp54b (m : Nat) (r0 : Abs.Rows) (s1 : ByteArray) (a : Int) (r3 r4 : Abs.Rows) (b c : Int) (P q : Abs.Rows) (hP : P.length ≤ 10) : ∀ (d n i : Nat) (r : Abs.Rows) (t : Int), i + d = P.length → d < n → 0 ≤ t → t + 4 * d ≤ 100000 → r.length + d ≤ 1000 →
  ∃ (r' : Abs.Rows) (t' : Int), r'.length ≤ r.length + d ∧ t ≤ t' ∧ t' ≤ t + 4 * d ∧ ∀ (R : Type) (k : Abs.Rows → Int → Int → Option R), Lp54_16 (m + 3) k r0 s1 a r3 r4 b c P P.length q n r i t = k r' P.length t'
 | _, 0, _, _, _, _, h, _, _, _ => by omega
 | 0, n + 1, i, r, t, h1, h2, h3, h4, h5 => by
  refine ⟨r, t, by omega, by omega, by omega, fun R k => ?_⟩
  rw [Lp54_16]
  simp only [Lp54_16_step]
  rw [dF (by omega), show i = P.length by omega]
 | d + 1, n + 1, i, r, t, h1, h2, h3, h4, h5 => by
  have hi : i ≤ 1000000 := by omega
  by_cases c0 : nx q t % 3 = 0
  ·have key : ∃ (x : List F) (t' : Int), t ≤ t' ∧ t' ≤ t + 4 ∧ ∀ (R : Type) (k : Abs.Rows → Int → Int → Option R), Lp54_16 (m + 3) k r0 s1 a r3 r4 b c P P.length q (n + 1) r i t = Lp54_16 (m + 3) k r0 s1 a r3 r4 b c P P.length q n (r ++ [x]) ((i + 1 : Nat) : Int) t' := by
    by_cases c1 : nx q (t + 1) % 2 = 0
    ·exact ⟨_, t + 1 + 1 + 1 + 1, by omega, by omega, fun R k => by
      rw [Lp54_16]
      simp only [Lp54_16_step, wP1 hi, tN]
      rw [dT (by omega), dT (by omega), gn34 m q h3 (by omega) (by omega) (by omega), beq_iff_eq.2 c0]
      refine Eq.trans (bF rfl) ?_
      rw [gn34 m q (by omega) (by omega) (by omega) (by omega), beq_iff_eq.2 c1]
      refine Eq.trans (bT rfl) ?_
      rw [gn37 m q _ (by omega) (by omega) (by simp) (by simp), gn37 m q _ (by omega) (by omega) (by simp) (by simp), dT (by simp [rM]; omega)]
      all_goals rfl⟩
    ·exact ⟨_, t + 1 + 1, by omega, by omega, fun R k => by
      rw [Lp54_16]
      simp only [Lp54_16_step, wP1 hi, tN]
      rw [dT (by omega), dT (by omega), gn34 m q h3 (by omega) (by omega) (by omega), beq_iff_eq.2 c0]
      refine Eq.trans (bF rfl) ?_
      rw [gn34 m q (by omega) (by omega) (by omega) (by omega), beq_false_of_ne c1]
      refine Eq.trans (bF rfl) ?_
      rw [dT (by simp [rM]; omega)]
      all_goals rfl⟩
   obtain ⟨x, t2, e1, e2, hx⟩ := key
   obtain ⟨r', t', k1, k2, k3, k4⟩ := lp54b m r0 s1 a r3 r4 b c P q hP d n (i + 1) (r ++ [x]) t2 (by omega) (by omega) (by omega) (by omega) (by simp; omega)
   refine ⟨r', t', by simp at k1; omega, by omega, by omega, fun R k => ?_⟩
   rw [hx]
   exact k4 R k
  ·obtain ⟨r', t', k1, k2, k3, k4⟩ := lp54b m r0 s1 a r3 r4 b c P q hP d n (i + 1) r (t + 1) (by omega) (by omega) (by omega) (by omega) (by omega)
   refine ⟨r', t', by omega, by omega, by omega, fun R k => ?_⟩
   rw [Lp54_16]
   simp only [Lp54_16_step, wP1 hi, tN]
   rw [dT (by omega), dT (by omega), gn34 m q h3 (by omega) (by omega) (by omega), beq_false_of_ne c0]
   exact k4 R k
theorem lp54 (m : Nat) (hm : 30 ≤ m) (P q : Abs.Rows) (hP : P.length ≤ 10) : ∀ (d n i : Nat) (r : Abs.Rows) (t : Int), i + d = P.length → d < n → 0 ≤ t → t + 20 * d ≤ 10000 → r.length + d ≤ 900 → HOk r →
  ∃ (r' : Abs.Rows) (t' : Int), HOk r' ∧ r'.length = r.length + d ∧ t ≤ t' ∧ t' ≤ t + 20 * d ∧ ∀ (R : Type) (k : Abs.Rows → Int → Int → Option R), Lp54_3 (m + 3) k P P.length q n r i t = k r' P.length t'
 | _, 0, _, _, _, _, h, _, _, _, _ => by omega
 | 0, n + 1, i, r, t, h1, h2, h3, h4, h5, hA => by
  refine ⟨r, t, hA, by omega, by omega, by omega, fun R k => ?_⟩
  rw [Lp54_3]
  simp only [Lp54_3_step]
  rw [dF (by omega), show i = P.length by omega]
 | d + 1, n + 1, i, r, t, h1, h2, h3, h4, h5, hA => by
  have hi : i ≤ 1000000 := by omega
  have e1 := Int.emod_nonneg (nx q (t + 1)) (show (2 : Int) - 0 + 1 ≠ 0 by omega)
  have e2 := Int.emod_lt_of_pos (nx q (t + 1)) (show (0 : Int) < 2 - 0 + 1 by omega)
  obtain ⟨N, hN⟩ := Int.eq_ofNat_of_zero_le (show 0 ≤ 0 + nx q (t + 1) % ((2 : Int) - 0 + 1) by omega)
  obtain ⟨ra, t1, a1, a2, a3, a4⟩ := lp54a m r (fS P i 0) (pk [[F.lit (Value.int IntKind.i64 0)], [F.lit (Value.int IntKind.i64 0)], [F.lit (Value.int IntKind.i64 60)], [F.lit (Value.int IntKind.i64 (-90))], [F.lit (Value.int IntKind.i64 1440)]] q t) rows0 P P.length i N (by omega) q N (m + 3) 0 rows0 (t + 1 + 1) (by omega) (by omega) (by omega) (by omega) (by simp [rows0]; omega)
  obtain ⟨rb, t2, b1, b2, b3, b4⟩ := lp54b m r (fS P i 0) (pk [[F.lit (Value.int IntKind.i64 0)], [F.lit (Value.int IntKind.i64 0)], [F.lit (Value.int IntKind.i64 60)], [F.lit (Value.int IntKind.i64 (-90))], [F.lit (Value.int IntKind.i64 1440)]] q t) ra P P.length i [[F.lit (Value.int IntKind.i64 0)], [F.lit (Value.int IntKind.i64 2)], [F.lit (Value.int IntKind.i64 3)]] q (by simp) 3 (m + 3) 0 rows0 t1 (by simp) (by omega) (by omega) (by omega) (by simp [rows0])
  simp only [rows0, List.length_nil] at a1 b1
  have hok := hok_app (x1 := F.lit (Value.string (fS P i 0))) (x2 := F.lit (Value.int IntKind.i64 (pk [[F.lit (Value.int IntKind.i64 0)], [F.lit (Value.int IntKind.i64 0)], [F.lit (Value.int IntKind.i64 60)], [F.lit (Value.int IntKind.i64 (-90))], [F.lit (Value.int IntKind.i64 1440)]] q t))) (ts1 := [LT.int IntKind.i64, LT.int IntKind.i64, LT.int IntKind.i64]) (ts2 := [LT.int IntKind.i64, LT.int IntKind.i64, LT.int IntKind.i64]) hA (show ra.length ≤ 10 by omega) (show rb.length ≤ 10 by omega)
  obtain ⟨r', t', k0, k1, k2, k3, k4⟩ := lp54 m hm P q hP d n (i + 1) _ t2 (by omega) (by omega) (by omega) (by omega) (by simp; omega) hok
  refine ⟨r', t', k0, by simp at k1; omega, by omega, by omega, fun R k => ?_⟩
  rw [Lp54_3]
  simp only [Lp54_3_step, wP1 hi, tN]
  rw [dT (by omega), dT (by omega), gn37 m q _ (by omega) (by omega) (by simp) (by simp), gn72 m q (by omega) (by omega) (by omega) (by omega) (by omega), hN]
  refine Eq.trans (a4 R _) ?_
  refine Eq.trans (b4 R _) ?_
  rw [dT (by simp [rM]; omega)]
  exact k4 R k
theorem fn54 (m : Nat) (hm : 30 ≤ m) (q : Abs.Rows) {t : Int} (h0 : 0 ≤ t) (h1 : t ≤ 5000) :
  ∃ (r : Abs.Rows) (t' : Int), HOk r ∧ r.length = 2 ∧ t ≤ t' ∧ t' ≤ t + 40 ∧ ∀ (R : Type) (k : Abs.Rows → Int → Option R), Fn54 (m + 4) q t k = k r t' := by
 obtain ⟨r, t', k0, k1, k2, k3, k4⟩ := lp54 m hm [[F.lit (Value.string { data := #[104, 97] })], [F.lit (Value.string { data := #[104, 98] })]] q (by simp) 2 (m + 3) 0 rows0 t (by simp) (by omega) h0 (by omega) (by simp [rows0]) hok_nil
 simp only [rows0, List.length_nil] at k1
 refine ⟨r, t', k0, by omega, k2, by omega, fun R k => ?_⟩
 simp only [Fn54]
 exact k4 R _
theorem stR_len (ts : List LT) (r : Abs.Rows) (i j : Nat) (ys : List F) : (stR ts r i j ys).length = r.length := by simp [stR]
abbrev tsH : List LT := [LT.str, LT.int IntKind.i64, LT.lst [LT.int IntKind.i64, LT.int IntKind.i64, LT.int IntKind.i64], LT.lst [LT.int IntKind.i64, LT.int IntKind.i64, LT.int IntKind.i64]]
theorem fn20 (m : Nat) (hm : 30 ≤ m) (q : Abs.Rows) {t : Int} (h0 : 0 ≤ t) (h1 : t ≤ 5000) :
  ∃ (r : Abs.Rows) (t' : Int), r.length = 2 ∧ t ≤ t' ∧ t' ≤ t + 60 ∧ ∀ (R : Type) (k : Abs.Rows → Int → Option R), Fn20 (m + 5) q t k = k r t' := by
 obtain ⟨r, t1, k0, k1, k2, k3, k4⟩ := fn54 m hm q h0 h1
 by_cases c : nx q t1 % 10 = 0
 ·have e1 := Int.emod_nonneg (nx q (t1 + 1)) (show (2 : Int) ≠ 0 by omega)
  have e2 := Int.emod_lt_of_pos (nx q (t1 + 1)) (show 0 < (2 : Int) by omega)
  have base : ∀ (R : Type) (k : Abs.Rows → Int → Option R), Fn20 (m + 5) q t k = _ := fun R k => by
   simp only [Fn20]
   rw [k4, gn34 (m + 1) q (by omega) (by omega) (by omega) (by omega), beq_iff_eq.2 c, bT rfl, gn25 (m + 2) q (by omega) (by omega) (by omega) (by omega), dT ⟨e1, by omega⟩, gn25 (m + 2) q (by omega) (by omega) (by omega) (by omega)]
  have key : ∃ (i j : Nat) (ys : List F) (t' : Int), t1 ≤ t' ∧ t' ≤ t1 + 10 ∧ ∀ (R : Type) (k : Abs.Rows → Int → Option R), Fn20 (m + 5) q t k = k (stR tsH r i j ys) t' := by
   by_cases c0 : nx q (t1 + 1 + 1) % 4 = 0
   ·exact ⟨_, _, _, t1 + 1 + 1 + 1 + 1, by omega, by omega, fun R k => by
     refine (base R k).trans ?_
     rw [eT c0, gn35 (m + 1) q _ (by omega) (by omega) (by simp) (by simp)]
     all_goals rfl⟩
   by_cases c1 : nx q (t1 + 1 + 1) % 4 = 1
   ·obtain ⟨v, t2, g1, g2, g3⟩ := gn55 m q (i := t1 + 1 + 1 + 1) (lo := -1440) (hi := 1440) (by omega) (by omega) (by omega) (by omega) (by omega)
    exact ⟨_, _, _, t2, by omega, by omega, fun R k => by
     refine (base R k).trans ?_
     rw [eF c0, eT c1]
     refine Eq.trans (g3 R _) ?_
     all_goals rfl⟩
   by_cases c2 : nx q (t1 + 1 + 1) % 4 = 2
   ·obtain ⟨v, t2, g1, g2, g3⟩ := gn55 m q (i := t1 + 1 + 1 + 1) (lo := 1) (hi := 127) (by omega) (by omega) (by omega) (by omega) (by omega)
    obtain ⟨v2, t3, g4, g5, g6⟩ := gn55 m q (i := t2) (lo := 0) (hi := 1440) (by omega) (by omega) (by omega) (by omega) (by omega)
    obtain ⟨v3, t4, g7, g8, g9⟩ := gn55 m q (i := t3) (lo := 0) (hi := 1440) (by omega) (by omega) (by omega) (by omega) (by omega)
    exact ⟨_, _, _, t4, by omega, by omega, fun R k => by
     refine (base R k).trans ?_
     rw [eF c0, eF c1, eT c2]
     refine Eq.trans (g3 R _) (Eq.trans (g6 R _) (Eq.trans (g9 R _) ?_))
     have := (k0 (nx q (t1 + 1) % 2).toNat).1
     rw [dT (by simp [rM]; omega)]
     simp only [letV]
     rw [beqT]
     all_goals rfl⟩
   ·obtain ⟨v, t2, g1, g2, g3⟩ := gn55 m q (i := t1 + 1 + 1 + 1) (lo := 0) (hi := 4000) (by omega) (by omega) (by omega) (by omega) (by omega)
    obtain ⟨v2, t3, g4, g5, g6⟩ := gn55 m q (i := t2) (lo := 0) (hi := 1440) (by omega) (by omega) (by omega) (by omega) (by omega)
    obtain ⟨v3, t4, g7, g8, g9⟩ := gn55 m q (i := t3) (lo := 0) (hi := 1440) (by omega) (by omega) (by omega) (by omega) (by omega)
    exact ⟨_, _, _, t4, by omega, by omega, fun R k => by
     refine (base R k).trans ?_
     rw [eF c0, eF c1, eF c2]
     refine Eq.trans (g3 R _) (Eq.trans (g6 R _) (Eq.trans (g9 R _) ?_))
     have := (k0 (nx q (t1 + 1) % 2).toNat).2
     rw [dT (by simp [rM]; omega)]
     simp only [letV]
     rw [beqT]
     all_goals rfl⟩
  obtain ⟨i, j, ys, t', g1, g2, g3⟩ := key
  exact ⟨_, t', (stR_len _ _ _ _ _).trans k1, by omega, by omega, g3⟩
 ·refine ⟨r, t1 + 1, k1, by omega, by omega, fun R k => ?_⟩
  simp only [Fn20]
  rw [k4, gn34 (m + 1) q (by omega) (by omega) (by omega) (by omega), beq_false_of_ne c]
  rfl
theorem fn21 (m : Nat) (q : Abs.Rows) {t : Int} (h0 : 0 ≤ t) (h1 : t ≤ 5000) : ∃ (v : Int), ∀ (R : Type) (k : Int → Int → Option R), Fn21 (m + 4) q t k = k v (t + 1 + 1 + 1) := ⟨_, fun R k => by
 simp only [Fn21]
 rw [gn37 m q _ (by omega) (by omega) (by simp) (by simp), gn37 m q _ (by omega) (by omega) (by simp) (by simp), gn37 m q _ (by omega) (by omega) (by simp) (by simp)]⟩
theorem jn22 (m : Nat) (q : Abs.Rows) (a b c d : Int) {t : Int} (h0 : 0 ≤ t) (h1 : t ≤ 5000) : ∃ (v w x y t' : Int), t ≤ t' ∧ t' ≤ t + 5 ∧ ∀ (R : Type) (k : Int → Int → Int → Int → Int → Option R), Jn22_3 (m + 4) k a b c d q t = k v w x y t' := by
 by_cases e : nx q t % 20 = 0
 ·obtain ⟨v, t2, g1, g2, g3⟩ := gn55 m q (i := t + 1) (lo := 0) (hi := 100) (by omega) (by omega) (by omega) (by omega) (by omega)
  exact ⟨_, _, _, _, t2 + 1, by omega, by omega, fun R k => by
   simp only [Jn22_3]
   rw [gn34 (m + 1) q (by omega) (by omega) (by omega) (by omega), beq_iff_eq.2 e]
   refine Eq.trans (bT rfl) ?_
   refine Eq.trans (g3 R _) ?_
   rw [gn37 (m + 1) q _ (by omega) (by omega) (by simp) (by simp)]⟩
 ·exact ⟨c, d, c, d, t + 1, by omega, by omega, fun R k => by
   simp only [Jn22_3]
   rw [gn34 (m + 1) q (by omega) (by omega) (by omega) (by omega), beq_false_of_ne e]
   rfl⟩
theorem fn22 (m : Nat) (q : Abs.Rows) {t : Int} (h0 : 0 ≤ t) (h1 : t ≤ 4000) : ∃ (v w t' : Int), t ≤ t' ∧ t' ≤ t + 20 ∧ ∀ (R : Type) (k : Int → Int → Int → Option R), Fn22 (m + 5) q t k = k v w t' := by
 have base : ∀ (R : Type) (k : Int → Int → Int → Option R), Fn22 (m + 5) q t k = _ := fun R k => by
  simp only [Fn22]
  rw [gn37 (m + 1) q _ (by omega) (by omega) (by simp) (by simp), gn37 (m + 1) q _ (by omega) (by omega) (by simp) (by simp)]
 generalize pk _ q t = a at base
 generalize pk _ q (t + 1) = b at base
 by_cases c : a > b
 ·by_cases e : nx q (t + 1 + 1) % 3 = 0
  ·obtain ⟨v, w, x, y, t', g1, g2, g3⟩ := jn22 m q 0 0 a b (t := t + 1 + 1 + 1) (by omega) (by omega)
   refine ⟨v, w, t', by omega, by omega, fun R k => (base R k).trans ?_⟩
   rw [dT c, gn34 (m + 1) q (by omega) (by omega) (by omega) (by omega), beq_iff_eq.2 e]
   exact (bF rfl).trans (g3 R _)
  ·obtain ⟨v, w, x, y, t', g1, g2, g3⟩ := jn22 m q 0 0 0 b (t := t + 1 + 1 + 1) (by omega) (by omega)
   refine ⟨v, w, t', by omega, by omega, fun R k => (base R k).trans ?_⟩
   rw [dT c, gn34 (m + 1) q (by omega) (by omega) (by omega) (by omega), beq_false_of_ne e]
   exact (bT rfl).trans (g3 R _)
 ·obtain ⟨v, w, x, y, t', g1, g2, g3⟩ := jn22 m q 0 0 a b (t := t + 1 + 1) (by omega) (by omega)
  refine ⟨v, w, t', by omega, by omega, fun R k => (base R k).trans ?_⟩
  rw [dF c]
  exact g3 R _
end Go.Proofs.YtngjadgglbkjlaaDoor.Med
end
section
set_option linter.unusedVariables false
set_option linter.unusedSimpArgs false
set_option linter.unusedSectionVars false
namespace Go.Proofs.YtngjadgglbkjlaaDoor.Med
open Go Go.Abs Go.Proofs
set_option linter.unusedVariables false
set_option linter.unusedSimpArgs false
/-! the law -/
theorem nz2 (m : Nat) (hm : 60 ≤ m) (a b : Int) {R : Type} (k : Int → Option R) : Fn10 (m + 1) [[F.lit (Value.int IntKind.i64 a)], [F.lit (Value.int IntKind.i64 b)]] k = k (if a ≠ 0 then a else b) := by
 refine Eq.trans (fn10 m [a, b] (by simp) (by omega) k) ?_
 congr 1
 simp only [nz]
 grind
theorem refL_len {z : Int} {r h : Abs.Rows} (g : HG z r h) {fr to : Int} (h0 : 0 ≤ fr) (h01 : fr ≤ to) (h2 : to - fr ≤ 34560000000) : (refL z r h fr to).length ≤ 600000 := by
 have hd : to ≤ (fr / 60000 + ((to / 60000 - fr / 60000 + 1).toNat : Nat)) * 60000 := by omega
 rw [← both g h0 h01 _ hd]
 exact Nat.le_trans (trE_len _ _ _ _ _) (by omega)
theorem jn5 (m : Nat) (hm : 3000 ≤ m) (b0 : Bool) (at_ : Int) (s : ByteArray) (z : Int) (r h : Abs.Rows) (b6 : Bool) (e : Int) (l : Abs.Rows) (f : Int) (i13 : Int) (hl : l.length ≤ 600000) (hm2 : 600100 ≤ m)
  (hb : (e = 0 → oneH s z r h = 0 ∧ momB at_ = true ∧ b6 = opB z r h at_) ∧ (e ≠ 0 → b6 = false)) {R : Type} (k : Bool → Option R) : Jn5_13 (m + 60) k b0 at_ s z r h b6 e l f e f l i13 = k true := by
 have fin : (bif f == f then (Fn32 (m + 60) l l (fun b15 => bif b15 then (Fn12 (m + 60) (fun b16 => k b16)) else (k false))) else (k false)) = k true := by
  rw [eT rfl]
  refine Eq.trans (fn32 (m + 59) l hl (by omega) _) ?_
  exact (bT rfl).trans (fn12 m _)
 simp only [Jn5_13]
 rw [eT rfl]
 by_cases c : e = 0
 ·rw [eT c]
  obtain ⟨h1, h2, h3⟩ := hb.1 c
  have h2' : 0 ≤ at_ ∧ at_ < 345686400000 := of_decide_eq_true h2
  refine Eq.trans (fn31 (m + 55) (by omega) s (good h1) (by omega) (by omega) _) ?_
  rw [h3]
  have e2 : (opB z r h at_ == opB z r h at_) = true := by simp
  rw [e2]
  exact (bT rfl).trans fin
 ·rw [eF c, hb.2 c]
  exact (bT rfl).trans fin
theorem fn5 (m : Nat) (q : Abs.Rows) {R : Type} (k : Bool → Option R) : Fn5 (m + 700000) q k = k true := by
 obtain ⟨r, t1, k1, k2, k3, k4⟩ := fn20 (m + 699994) (by omega) q (t := 0) (by omega) (by omega)
 obtain ⟨a, ha⟩ := fn21 (m + 699995) q (t := t1) (by omega) (by omega)
 obtain ⟨v, w, t2, j1, j2, j3⟩ := fn22 (m + 699994) q (t := t1 + 1 + 1 + 1) (by omega) (by omega)
 have e1 := Int.emod_nonneg (nx q t2) (show (r.length : Int) ≠ 0 by omega)
 have e2 := Int.emod_lt_of_pos (nx q t2) (show 0 < (r.length : Int) by omega)
 simp only [Fn5]
 refine Eq.trans (k4 R _) ?_
 refine Eq.trans (ha R _) ?_
 refine Eq.trans (j3 R _) ?_
 refine Eq.trans (fn23 (m + 699996) (by omega) r _) ?_
 refine Eq.trans (fn24 (m + 699994) (by omega) r _) ?_
 rw [nF rfl, gn25 (m + 699997) q (by omega) (by omega) (by omega) (by omega), dT ⟨e1, e2⟩]
 generalize (nx q t2 % (r.length : Int)).toNat = i
 generalize fS r i 0 = s
 generalize fI r i 1 = z
 generalize fR r i 2 = ro
 generalize fR r i 3 = ho
 refine Eq.trans (fn26 (m + 699995) (by omega) s z ro ho a _) ?_
 -- what comes behind the two calls
 have tail : ∀ (b12 : Bool) (i13 : Int) (r14 : Abs.Rows) (i15 : Int),
   i13 = (if oneH s z ro ho ≠ 0 then oneH s z ro ho else if momB a = false then 1 else 0) → i15 = (if oneH s z ro ho ≠ 0 then oneH s z ro ho else spF v w) →
   r14 = (if oneH s z ro ho ≠ 0 then rows0 else if spF v w ≠ 0 then rows0 else intsR (refL z ro ho v w)) →
   ((i13 = 0 → oneH s z ro ho = 0 ∧ momB a = true ∧ b12 = opB z ro ho a) ∧ (i13 ≠ 0 → b12 = false)) →
   (Fn24 (m + 699999) (rowH s z ro ho) fun i16 => Fn28 (m + 699999) a fun i17 => Fn10 (m + 699999) [[F.lit (Value.int IntKind.i64 i16)], [F.lit (Value.int IntKind.i64 i17)]] fun i18 => Fn29 (m + 699999) v w 400 fun i19 => Fn10 (m + 699999) [[F.lit (Value.int IntKind.i64 i16)], [F.lit (Value.int IntKind.i64 i19)]] fun i20 =>
    bif i20 == 0 then Fn30 (m + 699999) s z ro ho v w fun r21 => Jn5_13 (m + 699999) (fun b22 => k b22) false a s z ro ho b12 i13 r14 i15 i18 i20 r21 i15 else Jn5_13 (m + 699999) (fun b23 => k b23) false a s z ro ho b12 i13 r14 i15 i18 i20 rows0 i15) = k true := by
  intro b12 i13 r14 i15 h13 h15 h14 hb
  refine Eq.trans (fn24 (m + 699994) (by omega) (rowH s z ro ho) _) ?_
  rw [hus_one]
  refine Eq.trans (fn28 (m + 699996) a _) ?_
  refine Eq.trans (nz2 (m + 699998) (by omega) _ _ _) ?_
  refine Eq.trans (fn29 (m + 699997) v w _) ?_
  refine Eq.trans (nz2 (m + 699998) (by omega) _ _ _) ?_
  rw [← h13, ← h15]
  by_cases c : i15 = 0
  ·rw [eT c]
   have hx : oneH s z ro ho = 0 := by
    refine Decidable.byContradiction fun hn => ?_
    rw [if_pos hn] at h15
    exact hn (h15.symm.trans c)
   have hs : spF v w = 0 := by
    rw [if_neg (by simpa using hx)] at h15
    exact h15.symm.trans c
   obtain ⟨q0, q1, q2, q3⟩ := sp_ok hs
   refine Eq.trans (fn30 (m + 699993) (by omega) s (good hx) q0 q1 q2 q3 _) ?_
   rw [if_neg (by simpa using hx), if_neg (by simpa using hs)] at h14
   rw [h14]
   exact jn5 (m + 699939) (by omega) false a s z ro ho b12 i13 (intsR (refL z ro ho v w)) i15 i15 (by rw [intsR_len]; exact refL_len (good hx) q0 q1 q3) (by omega) hb _
  ·rw [eF c]
   have h14' : r14 = rows0 := by
    rw [h14]
    by_cases hx : oneH s z ro ho = 0
    ·rw [if_neg (by simpa using hx)] at h15 ⊢
     rw [if_pos (fun e => c (h15.trans e))]
    ·rw [if_pos hx]
   rw [h14']
   exact jn5 (m + 699939) (by omega) false a s z ro ho b12 i13 rows0 i15 i15 (by simp [rows0]) (by omega) hb _
 have t27 : ∀ (b12 : Bool) (i13 : Int), i13 = (if oneH s z ro ho ≠ 0 then oneH s z ro ho else if momB a = false then 1 else 0) →
   ((i13 = 0 → oneH s z ro ho = 0 ∧ momB a = true ∧ b12 = opB z ro ho a) ∧ (i13 ≠ 0 → b12 = false)) →
   (Fn27 (m + 699999) s z ro ho v w fun r14 i15 => Fn24 (m + 699999) (rowH s z ro ho) fun i16 => Fn28 (m + 699999) a fun i17 => Fn10 (m + 699999) [[F.lit (Value.int IntKind.i64 i16)], [F.lit (Value.int IntKind.i64 i17)]] fun i18 => Fn29 (m + 699999) v w 400 fun i19 => Fn10 (m + 699999) [[F.lit (Value.int IntKind.i64 i16)], [F.lit (Value.int IntKind.i64 i19)]] fun i20 =>
    bif i20 == 0 then Fn30 (m + 699999) s z ro ho v w fun r21 => Jn5_13 (m + 699999) (fun b22 => k b22) false a s z ro ho b12 i13 r14 i15 i18 i20 r21 i15 else Jn5_13 (m + 699999) (fun b23 => k b23) false a s z ro ho b12 i13 r14 i15 i18 i20 rows0 i15) = k true := by
  intro b12 i13 h13 hb
  refine Eq.trans (fn27 (m + 699995) (by omega) s z ro ho v w _) ?_
  by_cases hx : oneH s z ro ho = 0
  ·rw [if_neg (by simpa using hx)]
   by_cases hs : spF v w = 0
   ·rw [if_neg (by simpa using hs)]
    exact tail b12 i13 _ 0 h13 (by rw [if_neg (by simpa using hx), hs]) (by rw [if_neg (by simpa using hx), if_neg (by simpa using hs)]) hb
   ·rw [if_pos hs]
    exact tail b12 i13 _ _ h13 (by rw [if_neg (by simpa using hx)]) (by rw [if_neg (by simpa using hx), if_pos hs]) hb
  ·rw [if_pos hx]
   exact tail b12 i13 _ _ h13 (by rw [if_pos hx]) (by rw [if_pos hx]) hb
 by_cases hx : oneH s z ro ho = 0
 ·rw [if_neg (by simpa using hx)]
  cases hb : momB a with
  | false =>
   rw [if_pos rfl]
   exact t27 false 1 (by rw [if_neg (by simpa using hx), hb]; rfl) ⟨fun e => by omega, fun _ => rfl⟩
  | true =>
   rw [if_neg (by decide)]
   exact t27 _ 0 (by rw [if_neg (by simpa using hx), hb]; rfl) ⟨fun _ => ⟨hx, hb, rfl⟩, fun e => by omega⟩
 ·rw [if_pos hx]
  exact t27 false _ (by rw [if_pos hx]) ⟨fun e => (hx e).elim, fun _ => rfl⟩
end Go.Proofs.YtngjadgglbkjlaaDoor.Med
end
section
set_option linter.unusedVariables false
set_option linter.unusedSimpArgs false
set_option linter.unusedSectionVars false
namespace Go.Proofs.YtngjadgglbkjlaaDoor.Med
open Go Go.Abs Go.Proofs Go.RowKit
def tabZ : List Int := [0, 1, 28, 2, 29, 14, 24, 3, 30, 22, 20, 15, 25, 17, 4, 8, 31, 27, 13, 23, 21, 19, 16, 7, 26, 12, 18, 6, 11, 5, 10, 9]
theorem fn5_ok (rows : Abs.Rows) (m : Nat) (h : ∀ (R : Type) (k : Bool → Option R), Fn5 m rows k = k true) : FnOk Tryd.prog 5 [.f (.lst [.int .i64] rows)] (vBool true) [.undef] := by
 refine law_of (okT54 m) fun R k => ?_
 exact h R _
theorem glob5 {w : World} (hg : ∀ i, i < tabZ.length → w.cell? ⟨0, i, none⟩ = some (.int .u8 (tabZ.getD i 0))) : GlobOk fun b => w.heap[b]? := fun g ts rows e => by
 match g, e with
 | 0, e =>
  cases e
  exact glob_ints (by decide) hg
 | g + 1, e => cases e
theorem walk5 (w : World) (a : Option Addr) (len cap : Nat) (zs : List Int) (h : IsInts .i64 w a len cap zs) (hg : ∀ i, i < tabZ.length → w.cell? ⟨0, i, none⟩ = some (.int .u8 (tabZ.getD i 0))) :
  Calls Tryd.prog 5 #[.slice a len cap] w fun e w' => e = .returned (.bool true) ∧ Below w.heap.size w w' := by
 obtain ⟨body, hb⟩ : ∃ b, Tryd.f5.body = some b := ⟨_, rfl⟩
 exact law_calls Tryd.func5 (by kernel_rfl) hb h (glob5 hg) (fn5_ok _ (0 + 700000) fun R k => fn5 0 _ k)
end Go.Proofs.YtngjadgglbkjlaaDoor.Med
end
