/- A part of the proofs of the seat YtcoplddcbedeoaaDoor: no statement of the seat stands here. -/
import Derived.Lib.Strings
import Derived.Lib.Bytealg
import Derived.Test.YtcoplddcbedeoaaDoorMedTyped1
import Derived.Test.YtcoplddcbedeoaaDoorAbsC
section
set_option linter.unusedVariables false
set_option linter.unusedSimpArgs false
set_option linter.unusedSectionVars false
namespace Go.Proofs.YtcoplddcbedeoaaDoor.Med
open Go Go.Abs Go.Proofs
set_option linter.unusedVariables false
set_option linter.unusedSimpArgs false
section
variable {α : Type} {a b : α}
theorem dT {p : Prop} [Decidable p] (h : p) : (bif decide p then a else b) = a := by rw [decide_eq_true h]; rfl
theorem dF {p : Prop} [Decidable p] (h : ¬p) : (bif decide p then a else b) = b := by rw [decide_eq_false h]; rfl
theorem eT {x y : Int} (h : x = y) : (bif x == y then a else b) = a := by simp [h]
theorem nT {x y : Int} (h : ¬ x = y) : (bif x != y then a else b) = a := by rw [bne_iff_ne.2 h]; rfl
theorem nF {x y : Int} (h : x = y) : (bif x != y then a else b) = b := by subst h; rw [bne_self_eq_false]; rfl
theorem eF {x y : Int} (h : ¬ x = y) : (bif x == y then a else b) = b := by rw [beq_false_of_ne h]; rfl
theorem andC {p q : Bool} : (bif p && q then a else b) = bif p then (bif q then a else b) else b := by cases p <;> rfl
theorem orC {p q : Bool} : (bif p || q then a else b) = bif p then a else (bif q then a else b) := by cases p <;> rfl
theorem notC {p : Bool} : (bif !p then a else b) = bif p then b else a := by cases p <;> rfl
theorem bT {c : Bool} (h : c = true) : (bif c then a else b) = a := by subst h; rfl
theorem bF {c : Bool} (h : c = false) : (bif c then a else b) = b := by subst h; rfl
end
theorem w64 {x : Int} (h0 : -9223372036854775808 ≤ x) (h1 : x < 9223372036854775808) : IntKind.wrap .i64 x = x := by
  rw [IntKind.wrap_i64]; omega
theorem w64b (x : Int) : -9223372036854775808 ≤ IntKind.wrap .i64 x ∧ IntKind.wrap .i64 x < 9223372036854775808 := by
  rw [IntKind.wrap_i64]; omega
theorem w8 {x : Int} (h0 : 0 ≤ x) (h1 : x < 256) : IntKind.wrap .u8 x = x := by
  rw [IntKind.wrap_u8]; omega
theorem w8b (x : Int) : 0 ≤ IntKind.wrap .u8 x ∧ IntKind.wrap .u8 x < 256 := by
  rw [IntKind.wrap_u8]; omega
theorem rM : rowMax = 1073741824 := rfl
theorem tm_pos {x y : Int} (h : 0 ≤ x) : Int.tmod x y = x % y := Int.tmod_eq_emod_of_nonneg h
theorem td_pos {x y : Int} (h : 0 ≤ x) : Int.tdiv x y = x / y := Int.tdiv_eq_ediv_of_nonneg h
/-- a row of one whole number -/
theorem stR1 (t : LT) (r : Abs.Rows) (i : Nat) (x : F) : stR [t] r i 0 [x] = r.set i [x] := rfl
theorem fI_set {r : Abs.Rows} {i : Nat} {k : IntKind} {n : Int} (h : i < r.length) : fI (r.set i [F.lit (.int k n)]) i 0 = n := by
  simp [fI, dropF, Abs.rowAt, List.getD_eq_getElem?_getD, h, F.toInt]
theorem fI_set_ne {r : Abs.Rows} {i j : Nat} {x : List F} (h : i ≠ j) : fI (r.set i x) j 0 = fI r j 0 := by
  simp [fI, dropF, Abs.rowAt, List.getD_eq_getElem?_getD, List.getElem?_set_ne h]
theorem fI_app {r : Abs.Rows} {k : IntKind} {n : Int} : fI (r ++ [[F.lit (.int k n)]]) r.length 0 = n := by
  simp [fI, dropF, Abs.rowAt, List.getD_eq_getElem?_getD, F.toInt]
theorem fI_app_lt {r s : Abs.Rows} {i : Nat} (h : i < r.length) : fI (r ++ s) i 0 = fI r i 0 := by
  simp [fI, dropF, Abs.rowAt, List.getD_eq_getElem?_getD, List.getElem?_append_left h]
/-! lists that are made place by place -/
def mk (t : IntKind) (g : Nat → Int) (n : Nat) : Abs.Rows := (List.range n).map fun j => [F.lit (.int t (g j))]
theorem mk_len (t : IntKind) (g : Nat → Int) (n : Nat) : (mk t g n).length = n := by simp [mk]
theorem mk_succ (t : IntKind) (g : Nat → Int) (n : Nat) : mk t g (n + 1) = mk t g n ++ [[F.lit (.int t (g n))]] := by simp [mk, List.range_succ]
theorem mk_set (t : IntKind) (g : Nat → Int) (n d : Nat) (z : List F) : (mk t g n ++ List.replicate (d + 1) z).set n [F.lit (.int t (g n))] = mk t g (n + 1) ++ List.replicate d z := by
  rw [mk_succ, List.set_append_right _ _ (by simp [mk_len]), mk_len, Nat.sub_self, List.replicate_succ, List.set_cons_zero]
  simp
theorem mk_fI (t : IntKind) (g : Nat → Int) {n i : Nat} (h : i < n) : fI (mk t g n) i 0 = g i := by
  simp [fI, dropF, Abs.rowAt, List.getD_eq_getElem?_getD, mk, h, F.toInt]
def Byt (x : Int) : Prop := 0 ≤ x ∧ x < 256
end Go.Proofs.YtcoplddcbedeoaaDoor.Med
end
section
set_option linter.unusedVariables false
set_option linter.unusedSimpArgs false
set_option linter.unusedSectionVars false
namespace Go.Proofs.YtcoplddcbedeoaaDoor.Med
open Go Go.Abs Go.Proofs
set_option linter.unusedVariables false
set_option linter.unusedSimpArgs false
/-! strings as lists of bytes -/
abbrev bs (l : List UInt8) : ByteArray := ⟨l.toArray⟩
theorem bs_of (s : ByteArray) : s = bs s.data.toList := (Lib.mk_data s).symm
theorem bs_size (l : List UInt8) : (bs l).size = l.length := by simp [bs, ByteArray.size]
theorem bs_toList (l : List UInt8) : (bs l).toList = l := by rw [Lib.toList_data]
theorem bs_at (l : List UInt8) (i : Nat) : Array.getD (bs l).data i (0 : UInt8) = l.getD i 0 := by
  simp [bs, Array.getD_eq_getD_getElem?, List.getD_eq_getElem?_getD]
theorem arr_at (l : List UInt8) (i : Nat) : Array.getD l.toArray i (0 : UInt8) = l.getD i 0 := bs_at l i
theorem bs_ext (l : List UInt8) (a b : Nat) : (bs l).extract a b = bs ((l.drop a).take (b - a)) := Lib.extract_eq _ _ _
theorem bs_drop (l : List UInt8) (a : Nat) : (bs l).extract a (bs l).size = bs (l.drop a) := by
  rw [bs_ext, bs_size, List.take_of_length_le (by simp)]
theorem bs_take (l : List UInt8) (b : Nat) : (bs l).extract 0 b = bs (l.take b) := by rw [bs_ext]; simp
theorem bs_app (a b : List UInt8) : bs a ++ bs b = bs (a ++ b) := by
  apply ByteArray.ext
  simp [bs]
/-- where a byte is first -/
def ixB (b : UInt8) : List UInt8 → Option Nat
  | [] => none
  | x :: l => if x = b then some 0 else (ixB b l).map (· + 1)
theorem find_ix (b : UInt8) : ∀ (l : List UInt8), (List.range l.length).find? (fun i => l.getD i 0 == b) = ixB b l
  | [] => rfl
  | x :: l => by
    rw [List.length_cons, List.range_succ_eq_map, List.find?_cons]
    simp only [List.getD_cons_zero, ixB]
    by_cases h : x = b
    · simp [h]
    · have h' : (x == b) = false := by simpa using h
      rw [h', if_neg h, List.find?_map]
      have := find_ix b l
      have e : ((fun i => (x :: l).getD i 0 == b) ∘ Nat.succ) = fun i => l.getD i 0 == b := by funext i; simp
      rw [e, this]
theorem bs_get (l : List UInt8) (i : Nat) : (bs l)[i]! = l.getD i 0 := by
  by_cases h : i < l.length
  · have h' : i < (bs l).size := by rw [bs_size]; exact h
    rw [getElem!_pos (bs l) i h', List.getD_eq_getElem?_getD, List.getElem?_eq_getElem h]
    show (bs l).data[i] = _
    simp [bs]
  · have h' : ¬ i < (bs l).size := by rw [bs_size]; exact h
    rw [getElem!_neg (bs l) i h', List.getD_eq_getElem?_getD, List.getElem?_eq_none (by omega)]
    rfl
def ixI (b : UInt8) (l : List UInt8) : Int := match ixB b l with
  | some i => i
  | none => -1
theorem idx_bs (l : List UInt8) (c : Int) : idxByte (bs l) c = ixI c.toNat.toUInt8 l := by
  unfold idxByte ixI
  have : (fun i => (bs l)[i]! == c.toNat.toUInt8) = fun i => l.getD i 0 == c.toNat.toUInt8 := by funext i; rw [bs_get]
  rw [this, bs_size, find_ix]
  cases ixB c.toNat.toUInt8 l <;> rfl
theorem ixB_lt {b : UInt8} : ∀ {l : List UInt8} {i : Nat}, ixB b l = some i → i < l.length ∧ l.getD i 0 = b ∧ b ∉ l.take i
  | [], _, h => by cases h
  | x :: l, i, h => by
    simp only [ixB] at h
    split at h
    · cases h; rename_i hx; exact ⟨by simp, by simpa using hx, by simp⟩
    · rename_i hx
      simp only [Option.map_eq_some_iff] at h
      obtain ⟨j, hj, rfl⟩ := h
      obtain ⟨h1, h2, h3⟩ := ixB_lt hj
      refine ⟨by simp; omega, by simpa using h2, ?_⟩
      simp only [List.take_succ_cons, List.mem_cons, not_or]
      exact ⟨fun e => hx e.symm, h3⟩
theorem ixB_none {b : UInt8} : ∀ {l : List UInt8}, ixB b l = none ↔ b ∉ l
  | [] => by simp [ixB]
  | x :: l => by
    simp only [ixB]
    split
    · rename_i h; simp [h]
    · rename_i h
      simp only [Option.map_eq_none_iff, List.mem_cons, not_or]
      rw [ixB_none]
      exact ⟨fun e => ⟨fun e2 => h e2.symm, e⟩, fun e => e.2⟩
theorem ixI_nn {b : UInt8} {l : List UInt8} : 0 ≤ ixI b l ↔ b ∈ l := by
  unfold ixI
  cases h : ixB b l with
  | none => simp; exact ixB_none.1 h
  | some i =>
    obtain ⟨h1, h2, _⟩ := ixB_lt h
    simp only [Int.natCast_nonneg, true_iff]
    rw [← h2, List.getD_eq_getElem?_getD, List.getElem?_eq_getElem h1]
    exact List.getElem_mem h1
theorem lT {x y : List UInt8} (h : x = y) {α : Type} {a b : α} : (bif x == y then a else b) = a := by simp [h]
theorem lF {x y : List UInt8} (h : ¬ x = y) {α : Type} {a b : α} : (bif x == y then a else b) = b := by
  rw [beq_false_of_ne h]; rfl
theorem lnT {x y : List UInt8} (h : ¬ x = y) {α : Type} {a b : α} : (bif !(x == y) then a else b) = a := by
  rw [beq_false_of_ne h]; rfl
theorem lnF {x y : List UInt8} (h : x = y) {α : Type} {a b : α} : (bif !(x == y) then a else b) = b := by simp [h]
end Go.Proofs.YtcoplddcbedeoaaDoor.Med
end
section
set_option linter.unusedVariables false
set_option linter.unusedSimpArgs false
set_option linter.unusedSectionVars false
namespace Go.Proofs.YtcoplddcbedeoaaDoor.Med
open Go Go.Abs Go.Proofs
set_option linter.unusedVariables false
set_option linter.unusedSimpArgs false
/-! the order of strings -/
theorem bytesLess_dec : ∀ (x y : List UInt8), Op.bytesLess x y = decide (x < y)
  | [], [] => by simp [Op.bytesLess]
  | _ :: _, [] => by simp [Op.bytesLess]
  | [], _ :: _ => by simp [Op.bytesLess]
  | a :: x, b :: y => by
    rw [Op.bytesLess, bytesLess_dec x y]
    simp only [List.cons_lt_cons_iff]
    by_cases h1 : a < b <;> by_cases h2 : a = b <;> by_cases h3 : x < y <;> simp [h1, h2, h3]
def cmS (a b : List UInt8) : Int := Lib.compareBytes a b
theorem cmpB_bs (a b : List UInt8) : cmpB (bs a) (bs b) = cmS a b := rfl
theorem u8_irr (a : UInt8) : ¬ a < a := UInt8.lt_irrefl a
theorem cmS_lt : ∀ (a b : List UInt8), cmS a b < 0 ↔ a < b
  | [], [] => by simp [cmS, Lib.compareBytes]
  | _ :: _, [] => by simp [cmS, Lib.compareBytes]
  | [], _ :: _ => by simp [cmS, Lib.compareBytes]
  | a :: x, b :: y => by
    have ih := cmS_lt x y
    unfold cmS at ih ⊢
    rw [Lib.compareBytes, List.cons_lt_cons_iff]
    by_cases h1 : a < b
    · simp [h1]
    · by_cases h2 : b < a
      · have h3 : a ≠ b := fun e => u8_irr b (e ▸ h2)
        simp [h1, h2, h3]
      · have h3 : a = b := UInt8.le_antisymm (UInt8.not_lt.1 h2) (UInt8.not_lt.1 h1)
        simp [h1, h2, h3, ih]
theorem cmS_eq : ∀ (a b : List UInt8), cmS a b = 0 ↔ a = b
  | [], [] => by simp [cmS, Lib.compareBytes]
  | _ :: _, [] => by simp [cmS, Lib.compareBytes]
  | [], _ :: _ => by simp [cmS, Lib.compareBytes]
  | a :: x, b :: y => by
    have ih := cmS_eq x y
    unfold cmS at ih ⊢
    rw [Lib.compareBytes, List.cons.injEq]
    by_cases h1 : a < b
    · have h3 : a ≠ b := fun e => u8_irr b (e ▸ h1)
      simp [h1, h3]
    · by_cases h2 : b < a
      · have h3 : a ≠ b := fun e => u8_irr b (e ▸ h2)
        simp [h1, h2, h3]
      · have h3 : a = b := UInt8.le_antisymm (UInt8.not_lt.1 h2) (UInt8.not_lt.1 h1)
        simp [h1, h2, h3, ih]
theorem lt_irr (a : List UInt8) : ¬ a < a := List.lt_irrefl a
theorem lt_tr {a b c : List UInt8} (h : a < b) (h2 : b < c) : a < c := List.lt_trans h h2
theorem lt_tri (a b : List UInt8) : a < b ∨ a = b ∨ b < a := by
  rcases Int.lt_trichotomy (cmS a b) 0 with h | h | h
  · exact .inl ((cmS_lt a b).1 h)
  · exact .inr (.inl ((cmS_eq a b).1 h))
  · by_cases c : b < a
    · exact .inr (.inr c)
    · exact .inl (by
        have := List.not_lt.1 c
        rcases List.le_iff_lt_or_eq.1 this with h1 | h1
        · exact h1
        · subst h1; rw [(cmS_eq a a).2 rfl] at h; omega)
/-! the first fault of a loop -/
def fstE (f : Nat → Int) : Nat → Nat → Int
  | 0, _ => 0
  | d + 1, i => if f i = 0 then fstE f d (i + 1) else f i
theorem fstE_z {f : Nat → Int} : ∀ {d i : Nat}, fstE f d i = 0 → ∀ j, i ≤ j → j < i + d → f j = 0
  | 0, i, _, j, h1, h2 => by omega
  | d + 1, i, h, j, h1, h2 => by
    rw [fstE] at h
    split at h
    · rename_i c
      by_cases e : j = i
      · subst e; exact c
      · exact fstE_z h j (by omega) (by omega)
    · rename_i c; exact (c h).elim
end Go.Proofs.YtcoplddcbedeoaaDoor.Med
end
section
set_option linter.unusedVariables false
set_option linter.unusedSimpArgs false
set_option linter.unusedSectionVars false
namespace Go.Proofs.YtcoplddcbedeoaaDoor.Med
open Go Go.Abs Go.Proofs
set_option linter.unusedVariables false
set_option linter.unusedSimpArgs false
theorem gn40 (m : Nat) {x y : Int} (hy : 1 ≤ y) (hy2 : y ≤ 1099511627776) {R : Type} {k : Int → Option R} : Fn40 (m + 1) x y k = k (x % y) := by
  have h2 : Int.tmod x y = x % y ∨ (Int.tmod x y + y = x % y ∧ Int.tmod x y < 0 ∧ -y < Int.tmod x y) := by
    by_cases h : 0 ≤ x
    · exact .inl (Int.tmod_eq_emod_of_nonneg h)
    · have h3 := Int.tmod_eq_emod (a := x) (b := y)
      have h4 := Int.emod_nonneg x (show y ≠ 0 by omega)
      have h5 := Int.emod_lt_of_pos x (show 0 < y by omega)
      by_cases hd : y ∣ x
      · left; rw [h3]; simp [hd]
      · right
        have h6 : Int.tmod x y = x % y - y := by
          rw [h3, if_neg (by simp; exact ⟨by omega, hd⟩)]
          omega
        have h7 : x % y ≠ 0 := fun h => hd (Int.dvd_of_emod_eq_zero h)
        omega
  have h4 := Int.emod_nonneg x (show y ≠ 0 by omega)
  simp only [Fn40]
  rw [dF (by omega), dT (by omega)]
  rcases h2 with h2 | ⟨h2, h3, h5⟩
  · rw [dF (by omega), h2]
  · rw [dT h3, w64 (by omega) (by omega), h2]
def nx (r : Abs.Rows) (i : Int) : Int := if (r.length : Int) = 0 then IntKind.wrap .i64 ((i + 1) * 7919) else
  IntKind.wrap IntKind.i64 (fI r (Int.toNat (Int.tmod i (r.length : Int))) 0 % 1073741824 + IntKind.wrap IntKind.i64 (IntKind.wrap IntKind.i64 (Int.tdiv i (r.length : Int)) * IntKind.wrap IntKind.i64 (7919 + Int.tmod i (r.length : Int))))
theorem gn24 (m : Nat) (r : Abs.Rows) {i n : Int} (h0 : 0 ≤ i) (h1 : i ≤ 1099511627776) (hn : 1 ≤ n) (hn2 : n ≤ 1099511627776) {R : Type} {k : Int → Int → Option R} :
    Fn24 (m + 2) r i n k = k (nx r i % n) (i + 1) := by
  have e1 : IntKind.wrap .i64 (i + 1) = i + 1 := w64 (by omega) (by omega)
  have e2 : IntKind.wrap .i64 (i + 1 - 1) = i := by rw [show i + 1 - 1 = i by omega]; exact w64 (by omega) (by omega)
  by_cases hr : (r.length : Int) = 0
  · simp only [Fn24, e1, nx, hr, if_true]
    rw [eT rfl, gn40 m hn hn2]
  · have hm1 : 0 ≤ Int.tmod i (r.length : Int) := Int.tmod_nonneg _ h0
    have hm2 : Int.tmod i (r.length : Int) < (r.length : Int) := Int.tmod_lt_of_pos _ (by omega)
    simp only [Fn24, e1, e2, nx, if_neg hr]
    rw [eF hr, dT hr, dT hr, dT ⟨hm1, hm2⟩, gn40 m (by omega) (by omega), gn40 m hn hn2]
    try rfl
theorem gn23 (m : Nat) (r : Abs.Rows) {i n : Int} (h0 : 0 ≤ i) (h1 : i ≤ 1099511627776) (hn : 1 ≤ n) (hn2 : n ≤ 1099511627776) {R : Type} {k : Bool → Int → Option R} :
    Fn23 (m + 3) r i n k = k (nx r i % n == 0) (i + 1) := by
  simp only [Fn23]
  rw [gn24 m r h0 h1 hn hn2]
/-- one of some numbers -/
def pk (rows q : Abs.Rows) (i : Int) : Int := fI rows (nx q i % (rows.length : Int)).toNat 0
theorem gn7 (m : Nat) (r : Abs.Rows) {i : Int} (rows : Abs.Rows) (h0 : 0 ≤ i) (h1 : i ≤ 1099511627776) (hn : 1 ≤ (rows.length : Int)) (hn2 : (rows.length : Int) ≤ 1099511627776) {R : Type} {k : Int → Int → Option R} :
    Fn7 (m + 3) r i rows k = k (pk rows r i) (i + 1) := by
  have h4 := Int.emod_nonneg (nx r i) (show (rows.length : Int) ≠ 0 by omega)
  have h5 := Int.emod_lt_of_pos (nx r i) (show 0 < (rows.length : Int) by omega)
  simp only [Fn7]
  rw [gn24 m r h0 h1 hn hn2, dT ⟨h4, h5⟩]
  rfl
/-- each of some numbers is so: the one that is drawn is so -/
theorem pk_all {P : Int → Prop} (rows q : Abs.Rows) (i : Int) (h0 : 0 < rows.length) (h : ∀ j, j < rows.length → P (fI rows j 0)) : P (pk rows q i) := by
  have h4 := Int.emod_nonneg (nx q i) (show (rows.length : Int) ≠ 0 by omega)
  have h5 := Int.emod_lt_of_pos (nx q i) (show 0 < (rows.length : Int) by omega)
  exact h _ (by omega)
theorem gn41 (m : Nat) (r : Abs.Rows) {i lo hi : Int} (h0 : 0 ≤ i) (h1 : i ≤ 1099511627776) (hl : -500000000000 ≤ lo) (hh : hi ≤ 500000000000) (hlh : lo ≤ hi) {R : Type} {k : Int → Int → Option R} :
    Fn41 (m + 3) r i lo hi k = k (lo + nx r i % (hi - lo + 1)) (i + 1) := by
  have h4 := Int.emod_nonneg (nx r i) (show hi - lo + 1 ≠ 0 by omega)
  have h5 := Int.emod_lt_of_pos (nx r i) (show 0 < hi - lo + 1 by omega)
  simp only [Fn41]
  rw [dF (by omega), w64 (x := hi - lo) (by omega) (by omega), w64 (x := hi - lo + 1) (by omega) (by omega), gn24 m r h0 h1 (by omega) (by omega), w64 (by omega) (by omega)]
/-- one of some strings -/
def pkS (rows q : Abs.Rows) (i : Int) : ByteArray := fS rows (nx q i % (rows.length : Int)).toNat 0
theorem gn26 (m : Nat) (r : Abs.Rows) {i : Int} (rows : Abs.Rows) (h0 : 0 ≤ i) (h1 : i ≤ 1099511627776) (hn : 1 ≤ (rows.length : Int)) (hn2 : (rows.length : Int) ≤ 1099511627776) {R : Type} {k : ByteArray → Int → Option R} :
    Fn26 (m + 3) r i rows k = k (pkS rows r i) (i + 1) := by
  have h4 := Int.emod_nonneg (nx r i) (show (rows.length : Int) ≠ 0 by omega)
  have h5 := Int.emod_lt_of_pos (nx r i) (show 0 < (rows.length : Int) by omega)
  simp only [Fn26]
  rw [gn24 m r h0 h1 hn hn2, dT ⟨h4, h5⟩]
  rfl
theorem pkS_all {P : ByteArray → Prop} (rows q : Abs.Rows) (i : Int) (h0 : 0 < rows.length) (h : ∀ j, j < rows.length → P (fS rows j 0)) : P (pkS rows q i) := by
  have h4 := Int.emod_nonneg (nx q i) (show (rows.length : Int) ≠ 0 by omega)
  have h5 := Int.emod_lt_of_pos (nx q i) (show 0 < (rows.length : Int) by omega)
  exact h _ (by omega)
/-- a number that is odd at times -/
theorem gn25 (m : Nat) (r : Abs.Rows) {i lo hi : Int} (h0 : 0 ≤ i) (h1 : i ≤ 1000000) (hl : -500000000 ≤ lo) (hh : hi ≤ 500000000) (hlh : lo ≤ hi) :
    ∃ (v i' : Int), i ≤ i' ∧ i' ≤ i + 2 ∧ ∀ (R : Type) (k : Int → Int → Option R), Fn25 (m + 4) r i lo hi k = k v i' := by
  by_cases c : nx r i % 12 = 0
  · apply Exists.intro
    refine ⟨i + 1 + 1, by omega, by omega, fun R k => ?_⟩
    simp only [Fn25]
    rw [gn23 m r h0 (by omega) (by omega) (by omega), eT c, gn7 m r _ (by omega) (by omega) (by simp) (by simp)]
  · apply Exists.intro
    refine ⟨i + 1 + 1, by omega, by omega, fun R k => ?_⟩
    simp only [Fn25]
    rw [gn23 m r h0 (by omega) (by omega) (by omega), eF c, gn41 m r (by omega) (by omega) (by omega) (by omega) hlh]
end Go.Proofs.YtcoplddcbedeoaaDoor.Med
end
section
set_option linter.unusedVariables false
set_option linter.unusedSimpArgs false
set_option linter.unusedSectionVars false
namespace Go.Proofs.YtcoplddcbedeoaaDoor.Med
open Go Go.Abs Go.Proofs
set_option linter.unusedVariables false
set_option linter.unusedSimpArgs false
/-! what strings are: prefixes, keys, numbers -/
def D10 : List UInt8 := [48, 49, 50, 51, 52, 53, 54, 55, 56, 57]
def S26 : List UInt8 := [97, 98, 99, 100, 101, 102, 103, 104, 105, 106, 107, 108, 109, 110, 111, 112, 113, 114, 115, 116, 117, 118, 119, 120, 121, 122]
def K38 : List UInt8 := [97, 98, 99, 100, 101, 102, 103, 104, 105, 106, 107, 108, 109, 110, 111, 112, 113, 114, 115, 116, 117, 118, 119, 120, 121, 122, 48, 49, 50, 51, 52, 53, 54, 55, 56, 57, 45, 95]
abbrev ls (s : ByteArray) : List UInt8 := s.data.toList
theorem ls_bs (l : List UInt8) : ls (bs l) = l := by simp [ls, bs]
theorem mem_dropW {b : UInt8} {p : UInt8 → Bool} (hb : p b = false) : ∀ (l : List UInt8), b ∈ l → b ∈ l.dropWhile p
  | [], h => by cases h
  | a :: l, h => by
    rw [List.dropWhile_cons]
    by_cases c : p a = true
    · rw [if_pos c]
      rcases List.mem_cons.1 h with rfl | h
      · rw [hb] at c; cases c
      · exact mem_dropW hb l h
    · rw [if_neg c]; exact h
theorem dropW_all {p : UInt8 → Bool} : ∀ (l : List UInt8), (∀ b ∈ l, p b = true) → l.dropWhile p = []
  | [], _ => rfl
  | a :: l, h => by
    rw [List.dropWhile_cons, if_pos (h a (by simp))]
    exact dropW_all l fun b hb => h b (by simp [hb])
theorem trim_nil (s cs : List UInt8) : Lib.trimS s cs = [] ↔ ∀ b ∈ s, b ∈ cs := by
  unfold Lib.trimS Lib.trimLeftS Lib.trimRightS
  constructor
  · intro h b hb
    by_cases c : b ∈ cs
    · exact c
    · exfalso
      have hp : (fun x => cs.contains x) b = false := by simpa using c
      have h1 : b ∈ (s.reverse.dropWhile fun x => cs.contains x).reverse := List.mem_reverse.2 (mem_dropW hp _ (List.mem_reverse.2 hb))
      have h2 := mem_dropW hp _ h1
      rw [h] at h2
      cases h2
  · intro h
    rw [dropW_all s.reverse fun b hb => by simpa using h b (List.mem_reverse.1 hb)]
    rfl
theorem trim_eq (s cs : List UInt8) : ((trimB (bs s) (bs cs)).toList == (bs []).toList) = s.all fun b => decide (b ∈ cs) := by
  show ((bs (Lib.trimS s cs)).toList == (bs []).toList) = _
  rw [bs_toList, bs_toList, Bool.eq_iff_iff]
  simp only [beq_iff_eq, trim_nil, List.all_eq_true, decide_eq_true_eq]
theorem trim_ok (s cs : List UInt8) (hs : s.length ≤ 1000) (hc : cs.length ≤ 1000) (hb : (cs.all fun b => decide (b.toNat < 128)) = true) : trimOk (bs s) (bs cs) = true := by
  unfold trimOk
  rw [bs_size, bs_size, decide_eq_true (by omega), decide_eq_true (by omega)]
  exact hb
theorem fn52 (m : Nat) (l : List UInt8) {R : Type} (k : Bool → Option R) : Fn52 (m + 1) (bs l) (bs [43]) k = k (decide (l.head? = some 43)) := by
  simp only [Fn52, bs_size]
  cases l with
  | nil => rw [dF (by simp)]; rfl
  | cons a t =>
    rw [dT (by simp; omega), dT (by simp; omega)]
    congr 1
    rw [bs_ext, bs_toList, bs_toList, Bool.eq_iff_iff]
    simp
theorem fn33 (m : Nat) (l : List UInt8) {R : Type} (k : ByteArray → Bool → Option R) : Fn33 (m + 3) (bs l) (bs [43]) k = if l.head? = some 43 then k (bs l.tail) true else k (bs l) false := by
  simp only [Fn33, Fn46]
  refine Eq.trans (fn52 m l _) ?_
  by_cases h : l.head? = some 43
  · rw [if_pos h, decide_eq_true h]
    cases l with
    | nil => cases h
    | cons a t =>
      refine Eq.trans (bF rfl) ?_
      simp only [bs_size]
      rw [dT (by simp; omega)]
      congr 1
      rw [bs_ext]
      simp
      all_goals rfl
  · rw [if_neg h, decide_eq_false h]; rfl
def prefB (l : List UInt8) : Bool := decide (l = []) || (decide (l.head? = some 43) && (decide (l.tail.length ≤ 15) && l.tail.all fun b => decide (b ∈ D10)))
theorem fn37 (m : Nat) (l : List UInt8) {R : Type} (k : Bool → Option R) : Fn37 (m + 4) (bs l) k = k (prefB l) := by
  simp only [Fn37]
  refine Eq.trans (fn33 m l _) ?_
  unfold prefB
  have hn : ((bs l).toList == (bs []).toList) = decide (l = []) := by rw [bs_toList, bs_toList, Bool.eq_iff_iff]; simp
  by_cases h0 : l = []
  · subst h0
    rw [if_neg (by simp), decide_eq_true (rfl : ([] : List UInt8) = []), Bool.true_or]
    exact bT (hn.trans (decide_eq_true rfl))
  · have hn' : ((bs l).toList == ({ data := #[] } : ByteArray).toList) = false := by
      refine Eq.trans hn ?_
      exact decide_eq_false h0
    by_cases h : l.head? = some 43
    · rw [if_pos h, bF hn', decide_eq_false h0, decide_eq_true h, Bool.false_or, Bool.true_and]
      refine Eq.trans (bT rfl) ?_
      rw [bs_size]
      by_cases h2 : l.tail.length ≤ 15
      · rw [dT (by omega), decide_eq_true h2, Bool.true_and]
        refine Eq.trans (bT (trim_ok l.tail D10 (by omega) (by decide) (by decide))) ?_
        congr 1
        exact trim_eq l.tail D10
      · rw [dF (by omega), decide_eq_false h2, Bool.false_and]
    · rw [if_neg h, bF hn', decide_eq_false h0, decide_eq_false h]
      rfl
def keyB (l : List UInt8) : Bool := decide (1 ≤ l.length) && (decide (l.length ≤ 40) && (decide (97 ≤ (l.getD 0 0).toNat) && (decide ((l.getD 0 0).toNat ≤ 122) && l.all fun b => decide (b ∈ K38))))
theorem fn38 (m : Nat) (l : List UInt8) {R : Type} (k : Bool → Option R) : Fn38 (m + 1) (bs l) k = k (keyB l) := by
  simp only [Fn38, bs_size, bs_at, arr_at]
  unfold keyB
  by_cases h1 : 1 ≤ l.length
  · rw [dT (by omega), decide_eq_true h1, Bool.true_and]
    by_cases h2 : l.length ≤ 40
    · rw [dT (by omega), decide_eq_true h2, Bool.true_and, dT (by omega)]
      have e0 : Int.toNat 0 = 0 := rfl
      simp only [e0]
      by_cases h3 : 97 ≤ (l.getD 0 0).toNat
      · rw [dT (by omega), decide_eq_true h3, Bool.true_and, dT (by omega)]
        by_cases h4 : (l.getD 0 0).toNat ≤ 122
        · rw [dT (by omega), decide_eq_true h4, Bool.true_and]
          refine Eq.trans (bT (trim_ok l K38 (by omega) (by decide) (by decide))) ?_
          congr 1
          exact trim_eq l K38
        · rw [dF (by omega), decide_eq_false h4, Bool.false_and]
      · rw [dF (by omega), decide_eq_false h3, Bool.false_and]
    · rw [dF (by omega), decide_eq_false h2, Bool.false_and]
  · rw [dF (by omega), decide_eq_false h1, Bool.false_and]
theorem fn30 (m : Nat) (x lo hi : Int) {R : Type} (k : Bool → Option R) : Fn30 (m + 1) x lo hi k = k (decide (lo ≤ x ∧ x ≤ hi)) := by
  simp only [Fn30]
  by_cases h1 : lo ≤ x
  · rw [dT h1]; congr 1; simp [h1]
  · rw [dF h1]; congr 1; simp [h1]
theorem fn34 (m : Nat) (x lo hi : Int) {R : Type} (k : Bool → Option R) : Fn34 (m + 1) x lo hi k = k (decide (lo ≤ x ∧ x ≤ hi)) := by
  simp only [Fn34]
  by_cases h1 : lo ≤ x
  · rw [dT h1]; congr 1; simp [h1]
  · rw [dF h1]; congr 1; simp [h1]
theorem fn47 (m : Nat) (l : List UInt8) (c : Int) {R : Type} (k : Int → Option R) : Fn47 (m + 2) (bs l) c k = k (ixI c.toNat.toUInt8 l) := by
  simp only [Fn47, Fn53, idx_bs]
theorem lp35 (m : Nat) (s cs : List UInt8) {R : Type} (k : Bool → Option R) (z : Bool) : ∀ (d n i : Nat), i + d = s.length → d < n → s.length ≤ 100000 →
    Lp35_2 (m + 2) (fun b _ => k b) (fun _ => k true) (bs s) (bs cs) z s.length n i = k ((s.drop i).all fun b => decide (b ∈ cs))
  | _, 0, _, _, h, _ => by omega
  | 0, n + 1, i, h1, h2, h3 => by
    have hi : i = s.length := by omega
    rw [Lp35_2]
    simp only [Lp35_2_step]
    rw [dF (by omega), hi, List.drop_length]
    rfl
  | d + 1, n + 1, i, h1, h2, h3 => by
    have e1 : IntKind.wrap .i64 ((i : Int) + 1) = ((i + 1 : Nat) : Int) := by rw [w64 (by omega) (by omega)]; omega
    have hd : s.drop i = s.getD i 0 :: s.drop (i + 1) := by
      rw [List.drop_eq_getElem_cons (by omega), List.getD_eq_getElem?_getD, List.getElem?_eq_getElem (by omega)]
      rfl
    rw [Lp35_2]
    simp only [Lp35_2_step, bs_size, bs_at, arr_at, e1, show Int.toNat (i : Int) = i by omega]
    rw [dT (by omega), dT (by omega)]
    refine Eq.trans (fn47 m cs ((s.getD i 0).toNat : Int) _) ?_
    have hcc : ((s.getD i 0).toNat : Int).toNat.toUInt8 = s.getD i 0 := by simp
    rw [hcc, hd, List.all_cons]
    by_cases c : s.getD i 0 ∈ cs
    · have := ixI_nn.2 c
      rw [dF (by omega), decide_eq_true c, Bool.true_and]
      exact lp35 m s cs k z d n (i + 1) (by omega) (by omega) h3
    · have : ¬ 0 ≤ ixI (s.getD i 0) cs := fun h => c (ixI_nn.1 h)
      rw [dT (by omega), decide_eq_false c]
      rfl
theorem fn35 (m : Nat) (s cs : List UInt8) (hs : s.length ≤ 100) (hm : 100 ≤ m) {R : Type} (k : Bool → Option R) : Fn35 (m + 3) (bs s) (bs cs) k = k (s.all fun b => decide (b ∈ cs)) := by
  simp only [Fn35, bs_size]
  exact lp35 m s cs k false s.length (m + 2) 0 (by omega) (by omega) (by omega)
theorem s26 : ((List.range 256).all fun n => decide (n.toUInt8 ∈ S26) == (decide (97 ≤ n) && decide (n ≤ 122))) = true := by kernel_rfl
theorem s26' (b : UInt8) : b ∈ S26 ↔ 97 ≤ b.toNat ∧ b.toNat ≤ 122 := by
  have h := List.all_eq_true.1 s26 b.toNat (List.mem_range.2 b.toNat_lt)
  have e : b.toNat.toUInt8 = b := by simp
  rw [e] at h
  have h := eq_of_beq h
  rw [← Bool.decide_and] at h
  exact decide_eq_decide.1 h
theorem fn36 (m : Nat) (hm : 100 ≤ m) (l : List UInt8) {R : Type} (k : Bool → Option R) : Fn36 (m + 4) (bs l) k = k (keyB l) := by
  simp only [Fn36, bs_size]
  refine Eq.trans (fn34 (m + 2) _ _ _ _) ?_
  unfold keyB
  by_cases h : 1 ≤ l.length ∧ l.length ≤ 40
  · rw [decide_eq_true (show (1 : Int) ≤ (l.length : Int) ∧ (l.length : Int) ≤ 40 by omega), decide_eq_true h.1, decide_eq_true h.2, Bool.true_and, Bool.true_and]
    refine Eq.trans (bT rfl) ?_
    rw [dT (by omega)]
    have ht : (bs l).extract 0 (Int.toNat 1) = bs [l.getD 0 0] := by
      rw [bs_ext]
      cases l with
      | nil => simp at h
      | cons a t => rfl
    rw [ht]
    refine Eq.trans (fn35 m [l.getD 0 0] S26 (by simp) hm _) ?_
    have e1 : ([l.getD 0 0].all fun b => decide (b ∈ S26)) = (decide (97 ≤ (l.getD 0 0).toNat) && decide ((l.getD 0 0).toNat ≤ 122)) := by
      rw [List.all_cons, List.all_nil, Bool.and_true, ← Bool.decide_and]
      exact decide_eq_decide.2 (s26' _)
    rw [e1]
    cases h3 : decide (97 ≤ (l.getD 0 0).toNat) with
    | false => rfl
    | true =>
      cases h4 : decide ((l.getD 0 0).toNat ≤ 122) with
      | false => rfl
      | true =>
        refine Eq.trans (bT rfl) ?_
        exact fn35 m l K38 (by omega) hm k
  · rw [decide_eq_false (show ¬ ((1 : Int) ≤ (l.length : Int) ∧ (l.length : Int) ≤ 40) by omega)]
    refine Eq.trans (bF rfl) ?_
    by_cases h1 : 1 ≤ l.length
    · rw [decide_eq_true h1, decide_eq_false (show ¬ l.length ≤ 40 by omega)]; rfl
    · rw [decide_eq_false h1]; rfl
def numB (l : List UInt8) : Bool := decide (l.head? = some 43) && (decide (4 ≤ l.tail.length ∧ l.tail.length ≤ 15) && ((l.tail.all fun b => decide (b ∈ D10)) && decide ((l.tail.getD 0 0).toNat ≠ 48)))
theorem fn28 (m : Nat) (l : List UInt8) {R : Type} (k : Bool → Option R) : Fn28 (m + 4) (bs l) k = k (numB l) := by
  simp only [Fn28]
  refine Eq.trans (fn33 m l _) ?_
  unfold numB
  by_cases h : l.head? = some 43
  · rw [if_pos h, decide_eq_true h, Bool.true_and]
    refine Eq.trans (bT rfl) ?_
    simp only [Fn42, bs_size, bs_at, arr_at]
    by_cases h1 : 4 ≤ l.tail.length
    · rw [dT (by omega)]
      by_cases h2 : l.tail.length ≤ 15
      · rw [dT (by omega), decide_eq_true (show 4 ≤ l.tail.length ∧ l.tail.length ≤ 15 from ⟨h1, h2⟩), Bool.true_and]
        simp only [Fn50]
        refine Eq.trans (bT (trim_ok l.tail D10 (by omega) (by decide) (by decide))) ?_
        rw [show (ByteArray.toList (trimB (bs l.tail) { data := #[48, 49, 50, 51, 52, 53, 54, 55, 56, 57] }) == ByteArray.toList { data := #[] }) = (l.tail.all fun b => decide (b ∈ D10)) from trim_eq l.tail D10]
        cases hA : l.tail.all fun b => decide (b ∈ D10) with
        | false => rfl
        | true =>
          refine Eq.trans (bT rfl) ?_
          rw [dT (by omega), Bool.true_and]
          congr 1
          rw [Bool.eq_iff_iff]
          simp only [bne_iff_ne, decide_eq_true_eq, show Int.toNat 0 = 0 from rfl]
          omega
      · rw [dF (by omega), decide_eq_false (show ¬ (4 ≤ l.tail.length ∧ l.tail.length ≤ 15) by omega)]; rfl
    · rw [dF (by omega), decide_eq_false (show ¬ (4 ≤ l.tail.length ∧ l.tail.length ≤ 15) by omega)]; rfl
  · rw [if_neg h, decide_eq_false h]; rfl
theorem fn12 (m : Nat) (hm : 100 ≤ m) (l : List UInt8) {R : Type} (k : Bool → Option R) : Fn12 (m + 4) (bs l) k = k (numB l) := by
  simp only [Fn12]
  refine Eq.trans (fn33 m l _) ?_
  unfold numB
  by_cases h : l.head? = some 43
  · rw [if_pos h, decide_eq_true h, Bool.true_and]
    refine Eq.trans (bT rfl) ?_
    simp only [bs_size, bs_at, arr_at]
    refine Eq.trans (fn34 (m + 2) _ _ _ _) ?_
    by_cases h1 : 4 ≤ l.tail.length ∧ l.tail.length ≤ 15
    · rw [decide_eq_true (show (4 : Int) ≤ (l.tail.length : Int) ∧ (l.tail.length : Int) ≤ 15 by omega), decide_eq_true h1, Bool.true_and]
      refine Eq.trans (bT rfl) ?_
      refine Eq.trans (fn35 m l.tail D10 (by omega) hm _) ?_
      cases hA : l.tail.all fun b => decide (b ∈ D10) with
      | false => rfl
      | true =>
        refine Eq.trans (bT rfl) ?_
        rw [dT (by omega), Bool.true_and]
        congr 1
        rw [Bool.eq_iff_iff]
        simp only [bne_iff_ne, decide_eq_true_eq, show Int.toNat 0 = 0 from rfl]
        omega
    · rw [decide_eq_false (show ¬ ((4 : Int) ≤ (l.tail.length : Int) ∧ (l.tail.length : Int) ≤ 15) by omega), decide_eq_false h1]; rfl
  · rw [if_neg h, decide_eq_false h]; rfl
/-! the first fault -/
def ei (l : List Int) : Abs.Rows := l.map fun x => [F.lit (.int .i64 x)]
def nz : List Int → Int
  | [] => 0
  | x :: l => if x ≠ 0 then x else nz l
theorem ei_len (l : List Int) : (ei l).length = l.length := by simp [ei]
theorem ei_fI (l : List Int) (i : Nat) (h : i < l.length) : fI (ei l) i 0 = l.getD i 0 := by
  simp [fI, dropF, Abs.rowAt, List.getD_eq_getElem?_getD, ei, h, F.toInt]
theorem lp13 (m : Nat) (l : List Int) (hl : l.length ≤ 1000) {R : Type} (k : Int → Option R) (a : Abs.Rows) (z : Int) : ∀ (d n i : Nat), i + d = l.length → d < n →
    Lp13_2 m (fun x _ => k x) (fun _ => k 0) a z (ei l) l.length n i = k (nz (l.drop i))
  | _, 0, _, _, h => by omega
  | 0, n + 1, i, h1, h2 => by
    rw [Lp13_2]
    simp only [Lp13_2_step]
    rw [dF (by omega), show i = l.length by omega, List.drop_length]
    rfl
  | d + 1, n + 1, i, h1, h2 => by
    have e1 : IntKind.wrap .i64 ((i : Int) + 1) = ((i + 1 : Nat) : Int) := by rw [w64 (by omega) (by omega)]; omega
    have hd : l.drop i = l.getD i 0 :: l.drop (i + 1) := by
      rw [List.drop_eq_getElem_cons (by omega), List.getD_eq_getElem?_getD, List.getElem?_eq_getElem (by omega)]
      rfl
    rw [Lp13_2]
    simp only [Lp13_2_step, ei_len, e1, show Int.toNat (i : Int) = i by omega]
    rw [dT (by omega), dT (by omega), ei_fI l i (by omega), hd, nz]
    by_cases c : l.getD i 0 = 0
    · rw [nF c, if_neg (by simpa using c)]
      exact lp13 m l hl k a z d n (i + 1) (by omega) (by omega)
    · rw [nT c, if_pos c]
theorem fn13 (m : Nat) (l : List Int) (hl : l.length ≤ 50) (hm : 51 ≤ m) {R : Type} (k : Int → Option R) : Fn13 (m + 1) (ei l) k = k (nz l) := by
  simp only [Fn13, ei_len]
  exact lp13 m l (by omega) k (ei l) 0 l.length m 0 (by omega) (by omega)
theorem fn11 (m : Nat) (b : Bool) (e : Int) {R : Type} (k : Int → Option R) : Fn11 (m + 1) b e k = k (if b = true then e else 0) := by
  simp only [Fn11]
  cases b <;> rfl
end Go.Proofs.YtcoplddcbedeoaaDoor.Med
end
section
set_option linter.unusedVariables false
set_option linter.unusedSimpArgs false
set_option linter.unusedSectionVars false
namespace Go.Proofs.YtcoplddcbedeoaaDoor.Med
open Go Go.Abs Go.Proofs
set_option linter.unusedVariables false
set_option linter.unusedSimpArgs false
/-! is a tariff right -/
theorem fn37b (m : Nat) (s : ByteArray) {R : Type} (k : Bool → Option R) : Fn37 (m + 4) s k = k (prefB (ls s)) := (congrArg (fun x => Fn37 (m + 4) x k) (bs_of s)).trans (fn37 m (ls s) k)
theorem fn38b (m : Nat) (s : ByteArray) {R : Type} (k : Bool → Option R) : Fn38 (m + 1) s k = k (keyB (ls s)) := (congrArg (fun x => Fn38 (m + 1) x k) (bs_of s)).trans (fn38 m (ls s) k)
theorem fn36b (m : Nat) (hm : 100 ≤ m) (s : ByteArray) {R : Type} (k : Bool → Option R) : Fn36 (m + 4) s k = k (keyB (ls s)) := (congrArg (fun x => Fn36 (m + 4) x k) (bs_of s)).trans (fn36 m hm (ls s) k)
theorem fn28b (m : Nat) (s : ByteArray) {R : Type} (k : Bool → Option R) : Fn28 (m + 4) s k = k (numB (ls s)) := (congrArg (fun x => Fn28 (m + 4) x k) (bs_of s)).trans (fn28 m (ls s) k)
theorem fn12b (m : Nat) (hm : 100 ≤ m) (s : ByteArray) {R : Type} (k : Bool → Option R) : Fn12 (m + 4) s k = k (numB (ls s)) := (congrArg (fun x => Fn12 (m + 4) x k) (bs_of s)).trans (fn12 m hm (ls s) k)
theorem fn33b (m : Nat) (s : ByteArray) {R : Type} (k : ByteArray → Bool → Option R) : Fn33 (m + 3) s (bs [43]) k = if (ls s).head? = some 43 then k (bs (ls s).tail) true else k s false := by
  refine Eq.trans (congrArg (fun x => Fn33 (m + 3) x (bs [43]) k) (bs_of s)) ?_
  refine Eq.trans (fn33 m (ls s) k) ?_
  rw [← bs_of s]
def ordB (a b : ByteArray) : Bool := Op.bytesLess a.toList b.toList || a.toList == b.toList
def rngP (a b c d : Int) : Prop := (0 ≤ a ∧ a ≤ 1000000) ∧ (0 ≤ d ∧ d ≤ 1000000) ∧ (0 ≤ b ∧ b ≤ 86400000) ∧ (1 ≤ c ∧ c ≤ 86400000)
instance (a b c d : Int) : Decidable (rngP a b c d) := by unfold rngP; infer_instance
def clF (r : Abs.Rows) (i : Nat) : Int := if prefB (ls (fS r i 0)) = false then 3 else if keyB (ls (fS r i 1)) = false then 5 else
  if ¬ rngP (fI r i 2) (fI r i 3) (fI r i 4) (fI r i 5) then 1 else if 0 < i ∧ ordB (fS r i 0) (fS r (i - 1) 0) = true then 7 else 0
def inF (r : Abs.Rows) (i : Nat) : Int := if keyB (ls (fS r i 0)) = false then 5 else if 0 < i ∧ ordB (fS r i 0) (fS r (i - 1) 0) = true then 7 else 0
def tarF (r : Abs.Rows) (free : Int) (ins : Abs.Rows) : Int := if 200 < r.length then 2 else if fstE (clF r) r.length 0 ≠ 0 then fstE (clF r) r.length 0 else
  if ¬ (0 ≤ free ∧ free ≤ 2592000000) then 1 else if 200 < ins.length then 2 else fstE (inF ins) ins.length 0
theorem wM1 {i : Nat} (h : 0 < i) (h2 : i ≤ 1000000) : IntKind.wrap .i64 ((i : Int) - 1) = ((i - 1 : Nat) : Int) := by rw [w64 (by omega) (by omega)]; omega
theorem wP1 {i : Nat} (h2 : i ≤ 1000000) : IntKind.wrap .i64 ((i : Int) + 1) = ((i + 1 : Nat) : Int) := by rw [w64 (by omega) (by omega)]; omega
theorem tN (i : Nat) : Int.toNat (i : Int) = i := by omega
theorem jn16 (m : Nat) {R : Type} (K : Int → Option R) (Z : Option R) (r : Abs.Rows) (f : Int) (q : Abs.Rows) (z : Int) (i : Nat) (hi : i < r.length) (hl : r.length ≤ 100000) (s1 s2 : ByteArray) (a1 a2 a3 a4 : Int) (r2 : Abs.Rows) (z1 z2 : Int) (b : Bool) :
    Jn16_13 m (fun e _ => K e) (fun _ => Z) r f q z i s1 s2 a1 a2 a3 a4 r2 z1 z2 b = if b = true then K 1 else if 0 < i ∧ ordB s1 (fS r (i - 1) 0) = true then K 7 else Z := by
  simp only [Jn16_13]
  cases b with
  | true => rfl
  | false =>
    refine Eq.trans (bF rfl) ?_
    rw [if_neg (by decide)]
    by_cases h : 0 < i
    · rw [dT (by omega), wM1 h (by omega), dT (by omega), tN]
      show (bif ordB s1 (fS r (i - 1) 0) then _ else _) = _
      cases ho : ordB s1 (fS r (i - 1) 0) with
      | true => rw [if_pos ⟨h, rfl⟩]; rfl
      | false => rw [if_neg (by simp)]; rfl
    · rw [dF (by omega), if_neg (by omega)]
theorem jn14 (m : Nat) {R : Type} (K : Int → Option R) (Z : Option R) (r : Abs.Rows) (f : Int) (q : Abs.Rows) (z : Int) (i : Nat) (hi : i < r.length) (hl : r.length ≤ 100000) (s1 s2 : ByteArray) (a1 a2 a3 a4 : Int) (r2 : Abs.Rows) (z1 z2 : Int) (b : Bool) :
    Jn14_14 m (fun e _ => K e) (fun _ => Z) r f q z i s1 s2 a1 a2 a3 a4 r2 z1 z2 b = if b = true then K 1 else if 0 < i ∧ ordB s1 (fS r (i - 1) 0) = true then K 7 else Z := by
  simp only [Jn14_14]
  cases b with
  | true => rfl
  | false =>
    refine Eq.trans (bF rfl) ?_
    rw [if_neg (by decide)]
    by_cases h : 0 < i
    · rw [dT (by omega), wM1 h (by omega), dT (by omega), tN]
      show (bif ordB s1 (fS r (i - 1) 0) then _ else _) = _
      cases ho : ordB s1 (fS r (i - 1) 0) with
      | true => rw [if_pos ⟨h, rfl⟩]; rfl
      | false => rw [if_neg (by simp)]; rfl
    · rw [dF (by omega), if_neg (by omega)]
theorem fstE_step {f : Nat → Int} {d i : Nat} {R : Type} {A : Option R} {K : Int → Option R} : (if fstE f (d + 1) i = 0 then A else K (fstE f (d + 1) i)) = if f i = 0 then (if fstE f d (i + 1) = 0 then A else K (fstE f d (i + 1))) else K (f i) := by
  rw [fstE]
  by_cases h : f i = 0
  · rw [if_pos h, if_pos h]
  · rw [if_neg h, if_neg h, if_neg h]
section
variable {r : Abs.Rows} {i : Nat}
theorem cl3 (h : prefB (ls (fS r i 0)) = false) : clF r i = 3 := by unfold clF; rw [if_pos h]
theorem cl5 (h : prefB (ls (fS r i 0)) = true) (h2 : keyB (ls (fS r i 1)) = false) : clF r i = 5 := by unfold clF; rw [if_neg (by rw [h]; decide), if_pos h2]
theorem cl1 (h : prefB (ls (fS r i 0)) = true) (h2 : keyB (ls (fS r i 1)) = true) (h3 : ¬ rngP (fI r i 2) (fI r i 3) (fI r i 4) (fI r i 5)) : clF r i = 1 := by unfold clF; rw [if_neg (by rw [h]; decide), if_neg (by rw [h2]; decide), if_pos h3]
theorem cl7 (h : prefB (ls (fS r i 0)) = true) (h2 : keyB (ls (fS r i 1)) = true) (h3 : rngP (fI r i 2) (fI r i 3) (fI r i 4) (fI r i 5)) (h4 : 0 < i ∧ ordB (fS r i 0) (fS r (i - 1) 0) = true) : clF r i = 7 := by
  unfold clF; rw [if_neg (by rw [h]; decide), if_neg (by rw [h2]; decide), if_neg (not_not_intro h3), if_pos h4]
theorem cl0 (h : prefB (ls (fS r i 0)) = true) (h2 : keyB (ls (fS r i 1)) = true) (h3 : rngP (fI r i 2) (fI r i 3) (fI r i 4) (fI r i 5)) (h4 : ¬ (0 < i ∧ ordB (fS r i 0) (fS r (i - 1) 0) = true)) : clF r i = 0 := by
  unfold clF; rw [if_neg (by rw [h]; decide), if_neg (by rw [h2]; decide), if_neg (not_not_intro h3), if_neg h4]
theorem in5 (h2 : keyB (ls (fS r i 0)) = false) : inF r i = 5 := by unfold inF; rw [if_pos h2]
theorem in7 (h2 : keyB (ls (fS r i 0)) = true) (h4 : 0 < i ∧ ordB (fS r i 0) (fS r (i - 1) 0) = true) : inF r i = 7 := by unfold inF; rw [if_neg (by rw [h2]; decide), if_pos h4]
theorem in0 (h2 : keyB (ls (fS r i 0)) = true) (h4 : ¬ (0 < i ∧ ordB (fS r i 0) (fS r (i - 1) 0) = true)) : inF r i = 0 := by unfold inF; rw [if_neg (by rw [h2]; decide), if_neg h4]
end
theorem lp16 (m : Nat) (r : Abs.Rows) (hl : r.length ≤ 100000) (f : Int) (q : Abs.Rows) (z : Int) {R : Type} (K : Int → Option R) (kx1 : Int → Option R) : ∀ (d n i : Nat), i + d = r.length → d < n →
    Lp16_5 (m + 4) (fun e _ => K e) kx1 r f q z r r.length n i = if fstE (clF r) d i = 0 then kx1 r.length else K (fstE (clF r) d i)
  | _, 0, _, _, h => by omega
  | 0, n + 1, i, h1, h2 => by
    rw [Lp16_5]
    simp only [Lp16_5_step]
    rw [dF (by omega), show i = r.length by omega]
    rfl
  | d + 1, n + 1, i, h1, h2 => by
    have ih := lp16 m r hl f q z K kx1 d n (i + 1) (by omega) (by omega)
    have hj := fun (b : Bool) => jn16 (m + 4) K (Lp16_5 (m + 4) (fun e _ => K e) kx1 r f q z r r.length n ((i + 1 : Nat) : Int)) r f q z i (by omega) hl (fS r i 0) (fS r i 1) (fI r i 2) (fI r i 3) (fI r i 4) (fI r i 5) r r.length i b
    rw [Lp16_5]
    simp only [Lp16_5_step, wP1 (show i ≤ 1000000 by omega), tN]
    rw [dT (by omega), dT (by omega), fstE_step, ← ih]
    refine Eq.trans (fn37b m _ _) ?_
    cases c1 : prefB (ls (fS r i 0)) with
    | false => rw [cl3 c1]; rfl
    | true =>
      refine Eq.trans (bF rfl) ?_
      refine Eq.trans (fn38b (m + 3) _ _) ?_
      cases c2 : keyB (ls (fS r i 1)) with
      | false => rw [cl5 c1 c2]; rfl
      | true =>
        refine Eq.trans (bF rfl) ?_
        have bad : ¬ rngP (fI r i 2) (fI r i 3) (fI r i 4) (fI r i 5) → Jn16_13 (m + 4) (fun e _ => K e) (fun _ => Lp16_5 (m + 4) (fun e _ => K e) kx1 r f q z r r.length n ((i + 1 : Nat) : Int)) r f q z i (fS r i 0) (fS r i 1) (fI r i 2) (fI r i 3) (fI r i 4) (fI r i 5) r r.length i true =
            if clF r i = 0 then Lp16_5 (m + 4) (fun e _ => K e) kx1 r f q z r r.length n ((i + 1 : Nat) : Int) else K (clF r i) := by
          intro c
          rw [hj, cl1 c1 c2 c]; rfl
        refine Eq.trans (fn30 (m + 3) _ _ _ _) ?_
        by_cases p1 : 0 ≤ fI r i 2 ∧ fI r i 2 ≤ 1000000
        · rw [decide_eq_true p1]
          refine Eq.trans (bF rfl) ?_
          refine Eq.trans (fn30 (m + 3) _ _ _ _) ?_
          by_cases p2 : 0 ≤ fI r i 5 ∧ fI r i 5 ≤ 1000000
          · rw [decide_eq_true p2]
            refine Eq.trans (bF rfl) ?_
            refine Eq.trans (fn30 (m + 3) _ _ _ _) ?_
            by_cases p3 : 0 ≤ fI r i 3 ∧ fI r i 3 ≤ 86400000
            · rw [decide_eq_true p3]
              refine Eq.trans (bF rfl) ?_
              refine Eq.trans (fn30 (m + 3) _ _ _ _) ?_
              by_cases p4 : 1 ≤ fI r i 4 ∧ fI r i 4 ≤ 86400000
              · rw [decide_eq_true p4]
                refine Eq.trans (hj _) ?_
                rw [if_neg (by decide)]
                have c : rngP (fI r i 2) (fI r i 3) (fI r i 4) (fI r i 5) := ⟨p1, p2, p3, p4⟩
                by_cases c3 : 0 < i ∧ ordB (fS r i 0) (fS r (i - 1) 0) = true
                · rw [if_pos c3, cl7 c1 c2 c c3]; rfl
                · rw [if_neg c3, cl0 c1 c2 c c3]; rfl
              · rw [decide_eq_false p4]
                exact bad fun h => p4 h.2.2.2
            · rw [decide_eq_false p3]
              exact (bT rfl).trans (bad fun h => p3 h.2.2.1)
          · rw [decide_eq_false p2]
            exact (bT rfl).trans (bad fun h => p2 h.2.1)
        · rw [decide_eq_false p1]
          exact (bT rfl).trans (bad fun h => p1 h.1)
theorem lp16i (m : Nat) (r q : Abs.Rows) (hl : r.length ≤ 100000) (f : Int) (z : Int) {R : Type} (K : Int → Option R) (kx1 : Int → Option R) : ∀ (d n i : Nat), i + d = r.length → d < n →
    Lp16_26 (m + 4) (fun e _ => K e) kx1 q f r z r r.length n i = if fstE (inF r) d i = 0 then kx1 r.length else K (fstE (inF r) d i)
  | _, 0, _, _, h => by omega
  | 0, n + 1, i, h1, h2 => by
    rw [Lp16_26]
    simp only [Lp16_26_step]
    rw [dF (by omega), show i = r.length by omega]
    rfl
  | d + 1, n + 1, i, h1, h2 => by
    have ih := lp16i m r q hl f z K kx1 d n (i + 1) (by omega) (by omega)
    rw [Lp16_26]
    simp only [Lp16_26_step, wP1 (show i ≤ 1000000 by omega), tN]
    rw [dT (by omega), dT (by omega), fstE_step, ← ih]
    refine Eq.trans (fn38b (m + 3) _ _) ?_
    cases c2 : keyB (ls (fS r i 0)) with
    | false => rw [in5 c2]; rfl
    | true =>
      refine Eq.trans (bF rfl) ?_
      by_cases h : 0 < i
      · rw [dT (by omega), wM1 h (by omega), dT (by omega), tN]
        show (bif ordB (fS r i 0) (fS r (i - 1) 0) then _ else _) = _
        cases ho : ordB (fS r i 0) (fS r (i - 1) 0) with
        | true => rw [in7 c2 ⟨h, ho⟩]; rfl
        | false => rw [in0 c2 (by rw [ho]; simp)]; rfl
      · rw [dF (by omega), in0 c2 (by omega)]; rfl
theorem fn16 (m : Nat) (hm : 300 ≤ m) (r : Abs.Rows) (f : Int) (q : Abs.Rows) {R : Type} (k : Int → Option R) : Fn16 (m + 5) r f q k = k (tarF r f q) := by
  simp only [Fn16]
  unfold tarF
  by_cases h1 : 200 < r.length
  · rw [dT (by omega), if_pos h1]
  · rw [dF (by omega), if_neg h1]
    refine Eq.trans (lp16 m r (by omega) f q 0 k _ r.length (m + 4) 0 (by omega) (by omega)) ?_
    by_cases h2 : fstE (clF r) r.length 0 = 0
    · rw [if_pos h2, if_neg (not_not_intro h2)]
      refine Eq.trans (fn30 (m + 3) _ _ _ _) ?_
      by_cases h3 : 0 ≤ f ∧ f ≤ 2592000000
      · rw [decide_eq_true h3, if_neg (not_not_intro h3)]
        refine Eq.trans (bF rfl) ?_
        by_cases h4 : 200 < q.length
        · rw [dT (by omega), if_pos h4]
        · rw [dF (by omega), if_neg h4]
          refine Eq.trans (lp16i m q r (by omega) f 0 k _ q.length (m + 4) 0 (by omega) (by omega)) ?_
          by_cases h5 : fstE (inF q) q.length 0 = 0
          · rw [if_pos h5, h5]
          · rw [if_neg h5]
      · rw [decide_eq_false h3, if_pos h3]; rfl
    · rw [if_neg h2, if_pos h2]
end Go.Proofs.YtcoplddcbedeoaaDoor.Med
end
section
set_option linter.unusedVariables false
set_option linter.unusedSimpArgs false
set_option linter.unusedSectionVars false
namespace Go.Proofs.YtcoplddcbedeoaaDoor.Med
open Go Go.Abs Go.Proofs
set_option linter.unusedVariables false
set_option linter.unusedSimpArgs false
/-! the reference: is a tariff right -/
theorem jn14b (m : Nat) (hm : 100 ≤ m) {R : Type} (K : Int → Option R) (Z : Option R) (r : Abs.Rows) (f : Int) (q : Abs.Rows) (z : Int) (i : Nat) (hi : i < r.length) (hl : r.length ≤ 100000) (s1 s2 : ByteArray) (a1 a2 a3 a4 : Int) (r2 : Abs.Rows) (z1 z2 : Int) (b : Bool) :
    Jn14_10 (m + 4) (fun e _ => K e) (fun e => K e) Z r f q z i s1 s2 a1 a2 a3 a4 r2 z1 z2 b = if b = true then K 3 else if keyB (ls s2) = false then K 5 else if ¬ rngP a1 a2 a3 a4 then K 1 else if 0 < i ∧ ordB s1 (fS r (i - 1) 0) = true then K 7 else Z := by
  simp only [Jn14_10]
  cases b with
  | true => rfl
  | false =>
    refine Eq.trans (bF rfl) ?_
    rw [if_neg (by decide)]
    refine Eq.trans (fn36b m hm _ _) ?_
    cases c2 : keyB (ls s2) with
    | false => rfl
    | true =>
      refine Eq.trans (bF rfl) ?_
      rw [if_neg (by decide)]
      have hj := fun (b : Bool) => jn14 (m + 4) K Z r f q z i hi hl s1 s2 a1 a2 a3 a4 r2 z1 z2 b
      refine Eq.trans (fn34 (m + 3) _ _ _ _) ?_
      by_cases p1 : 0 ≤ a1 ∧ a1 ≤ 1000000
      · rw [decide_eq_true p1]
        refine Eq.trans (bF rfl) ?_
        refine Eq.trans (fn34 (m + 3) _ _ _ _) ?_
        by_cases p2 : 0 ≤ a4 ∧ a4 ≤ 1000000
        · rw [decide_eq_true p2]
          refine Eq.trans (bF rfl) ?_
          refine Eq.trans (fn34 (m + 3) _ _ _ _) ?_
          by_cases p3 : 0 ≤ a2 ∧ a2 ≤ 86400000
          · rw [decide_eq_true p3]
            refine Eq.trans (bF rfl) ?_
            refine Eq.trans (fn34 (m + 3) _ _ _ _) ?_
            refine Eq.trans (hj _) ?_
            by_cases p4 : 1 ≤ a3 ∧ a3 ≤ 86400000
            · rw [decide_eq_true p4, if_neg (by decide), if_neg (not_not_intro (show rngP a1 a2 a3 a4 from ⟨p1, p2, p3, p4⟩))]
            · rw [decide_eq_false p4, if_pos (show (!false) = true from rfl), if_pos (fun h : rngP a1 a2 a3 a4 => p4 h.2.2.2)]
          · rw [decide_eq_false p3, if_pos (fun h : rngP a1 a2 a3 a4 => p3 h.2.2.1)]
            exact (bT rfl).trans ((hj true).trans (if_pos rfl))
        · rw [decide_eq_false p2, if_pos (fun h : rngP a1 a2 a3 a4 => p2 h.2.1)]
          exact (bT rfl).trans ((hj true).trans (if_pos rfl))
      · rw [decide_eq_false p1, if_pos (fun h : rngP a1 a2 a3 a4 => p1 h.1)]
        exact (bT rfl).trans ((hj true).trans (if_pos rfl))
theorem lp14 (m : Nat) (hm : 100 ≤ m) (r : Abs.Rows) (hl : r.length ≤ 100000) (f : Int) (q : Abs.Rows) (z : Int) {R : Type} (K : Int → Option R) (kx1 : Int → Option R) : ∀ (d n i : Nat), i + d = r.length → d < n →
    Lp14_5 (m + 4) (fun e _ => K e) kx1 r f q z r r.length n i = if fstE (clF r) d i = 0 then kx1 r.length else K (fstE (clF r) d i)
  | _, 0, _, _, h => by omega
  | 0, n + 1, i, h1, h2 => by
    rw [Lp14_5]
    simp only [Lp14_5_step]
    rw [dF (by omega), show i = r.length by omega]
    rfl
  | d + 1, n + 1, i, h1, h2 => by
    have ih := lp14 m hm r hl f q z K kx1 d n (i + 1) (by omega) (by omega)
    have hj := fun (b : Bool) => jn14b m hm K (Lp14_5 (m + 4) (fun e _ => K e) kx1 r f q z r r.length n ((i + 1 : Nat) : Int)) r f q z i (by omega) hl (fS r i 0) (fS r i 1) (fI r i 2) (fI r i 3) (fI r i 4) (fI r i 5) r r.length i b
    rw [Lp14_5]
    simp only [Lp14_5_step, wP1 (show i ≤ 1000000 by omega), tN]
    rw [dT (by omega), dT (by omega)]
    refine Eq.trans (fn33b (m + 1) _ _) ?_
    have main : ∀ b : Bool, (b = !prefB (ls (fS r i 0))) → Jn14_10 (m + 4) (fun e _ => K e) (fun e => K e) (Lp14_5 (m + 4) (fun e _ => K e) kx1 r f q z r r.length n ((i + 1 : Nat) : Int)) r f q z i (fS r i 0) (fS r i 1) (fI r i 2) (fI r i 3) (fI r i 4) (fI r i 5) r r.length i b =
        if fstE (clF r) (d + 1) i = 0 then kx1 r.length else K (fstE (clF r) (d + 1) i) := by
      intro b hb
      rw [hj, hb, fstE_step, ← ih]
      cases c1 : prefB (ls (fS r i 0)) with
      | false => rw [cl3 c1]; rfl
      | true =>
        cases c2 : keyB (ls (fS r i 1)) with
        | false => rw [cl5 c1 c2]; rfl
        | true =>
          rw [if_neg (by decide), if_neg (by decide)]
          by_cases c : rngP (fI r i 2) (fI r i 3) (fI r i 4) (fI r i 5)
          · rw [if_neg (not_not_intro c)]
            by_cases c3 : 0 < i ∧ ordB (fS r i 0) (fS r (i - 1) 0) = true
            · rw [if_pos c3, cl7 c1 c2 c c3]; rfl
            · rw [if_neg c3, cl0 c1 c2 c c3]; rfl
          · rw [if_pos c, cl1 c1 c2 c]; rfl
    have hn : ((fS r i 0).toList == (bs []).toList) = decide (ls (fS r i 0) = []) := by
      rw [bs_toList, Lib.toList_data, Bool.eq_iff_iff]; simp
    have hpe : prefB (ls (fS r i 0)) = (decide (ls (fS r i 0) = []) || (decide ((ls (fS r i 0)).head? = some 43) && (decide ((ls (fS r i 0)).tail.length ≤ 15) && (ls (fS r i 0)).tail.all fun b => decide (b ∈ D10)))) := rfl
    by_cases h0 : ls (fS r i 0) = []
    · have hh : (ls (fS r i 0)).head? ≠ some 43 := by rw [h0]; simp
      rw [if_neg hh]
      have hn' : (!((fS r i 0).toList == ({ data := #[] } : ByteArray).toList)) = false := by rw [show ((fS r i 0).toList == ({ data := #[] } : ByteArray).toList) = _ from hn, decide_eq_true h0]; rfl
      refine Eq.trans (bF hn') ?_
      exact main false (by rw [hpe, decide_eq_true h0]; rfl)
    · have hn' : (!((fS r i 0).toList == ({ data := #[] } : ByteArray).toList)) = true := by rw [show ((fS r i 0).toList == ({ data := #[] } : ByteArray).toList) = _ from hn, decide_eq_false h0]; rfl
      by_cases h : (ls (fS r i 0)).head? = some 43
      · rw [if_pos h]
        refine Eq.trans (bT hn') ?_
        refine Eq.trans (bF rfl) ?_
        rw [bs_size]
        by_cases h2 : (ls (fS r i 0)).tail.length ≤ 15
        · rw [dF (by omega)]
          refine Eq.trans (fn35 (m + 1) _ D10 (by omega) (by omega) _) ?_
          exact main _ (by rw [hpe, decide_eq_false h0, decide_eq_true h, decide_eq_true h2]; rfl)
        · rw [dT (by omega)]
          exact main true (by rw [hpe, decide_eq_false h0, decide_eq_true h, decide_eq_false h2]; rfl)
      · rw [if_neg h]
        refine Eq.trans (bT hn') ?_
        refine Eq.trans (bT rfl) ?_
        exact main true (by rw [hpe, decide_eq_false h0, decide_eq_false h]; rfl)
theorem lp14i (m : Nat) (hm : 100 ≤ m) (r q : Abs.Rows) (hl : r.length ≤ 100000) (f : Int) (z : Int) {R : Type} (K : Int → Option R) (kx1 : Int → Option R) : ∀ (d n i : Nat), i + d = r.length → d < n →
    Lp14_26 (m + 4) (fun e _ => K e) kx1 q f r z r r.length n i = if fstE (inF r) d i = 0 then kx1 r.length else K (fstE (inF r) d i)
  | _, 0, _, _, h => by omega
  | 0, n + 1, i, h1, h2 => by
    rw [Lp14_26]
    simp only [Lp14_26_step]
    rw [dF (by omega), show i = r.length by omega]
    rfl
  | d + 1, n + 1, i, h1, h2 => by
    have ih := lp14i m hm r q hl f z K kx1 d n (i + 1) (by omega) (by omega)
    rw [Lp14_26]
    simp only [Lp14_26_step, wP1 (show i ≤ 1000000 by omega), tN]
    rw [dT (by omega), dT (by omega), fstE_step, ← ih]
    refine Eq.trans (fn36b m hm _ _) ?_
    cases c2 : keyB (ls (fS r i 0)) with
    | false => rw [in5 c2]; rfl
    | true =>
      refine Eq.trans (bF rfl) ?_
      by_cases h : 0 < i
      · rw [dT (by omega), wM1 h (by omega), dT (by omega), tN]
        show (bif ordB (fS r i 0) (fS r (i - 1) 0) then _ else _) = _
        cases ho : ordB (fS r i 0) (fS r (i - 1) 0) with
        | true => rw [in7 c2 ⟨h, ho⟩]; rfl
        | false => rw [in0 c2 (by rw [ho]; simp)]; rfl
      · rw [dF (by omega), in0 c2 (by omega)]; rfl
theorem fn14 (m : Nat) (hm : 300 ≤ m) (r : Abs.Rows) (f : Int) (q : Abs.Rows) {R : Type} (k : Int → Option R) : Fn14 (m + 5) r f q k = k (tarF r f q) := by
  simp only [Fn14]
  unfold tarF
  by_cases h1 : 200 < r.length
  · rw [dT (by omega), if_pos h1]
  · rw [dF (by omega), if_neg h1]
    refine Eq.trans (lp14 m (by omega) r (by omega) f q 0 k _ r.length (m + 4) 0 (by omega) (by omega)) ?_
    by_cases h2 : fstE (clF r) r.length 0 = 0
    · rw [if_pos h2, if_neg (not_not_intro h2)]
      refine Eq.trans (fn34 (m + 3) _ _ _ _) ?_
      by_cases h3 : 0 ≤ f ∧ f ≤ 2592000000
      · rw [decide_eq_true h3, if_neg (not_not_intro h3)]
        refine Eq.trans (bF rfl) ?_
        by_cases h4 : 200 < q.length
        · rw [dT (by omega), if_pos h4]
        · rw [dF (by omega), if_neg h4]
          refine Eq.trans (lp14i m (by omega) q r (by omega) f 0 k _ q.length (m + 4) 0 (by omega) (by omega)) ?_
          by_cases h5 : fstE (inF q) q.length 0 = 0
          · rw [if_pos h5, h5]
          · rw [if_neg h5]
      · rw [decide_eq_false h3, if_pos h3]; rfl
    · rw [if_neg h2, if_pos h2]
end Go.Proofs.YtcoplddcbedeoaaDoor.Med
end
section
set_option linter.unusedVariables false
set_option linter.unusedSimpArgs false
set_option linter.unusedSectionVars false
namespace Go.Proofs.YtcoplddcbedeoaaDoor.Med
open Go Go.Abs Go.Proofs
set_option linter.unusedVariables false
set_option linter.unusedSimpArgs false
/-! the class of a number -/
/-- the first place of a string among the prefixes -/
def fxF (r : Abs.Rows) (t : List UInt8) : Nat → Nat → Option Nat
  | 0, _ => none
  | d + 1, i => if ls (fS r i 0) = t then some i else fxF r t d (i + 1)
theorem fx_some {r : Abs.Rows} {t : List UInt8} {e : Nat} (he : ls (fS r e 0) = t) : ∀ (d i : Nat), i ≤ e → e < i + d → (∀ a, i ≤ a → a < e → ls (fS r a 0) ≠ t) → fxF r t d i = some e
  | 0, i, h1, h2, _ => by omega
  | d + 1, i, h1, h2, h3 => by
    rw [fxF]
    by_cases c : i = e
    · subst c; rw [if_pos he]
    · rw [if_neg (h3 i (by omega) (by omega))]
      exact fx_some he d (i + 1) (by omega) (by omega) fun a h4 h5 => h3 a (by omega) h5
theorem fx_none {r : Abs.Rows} {t : List UInt8} : ∀ (d i : Nat), (∀ a, i ≤ a → a < i + d → ls (fS r a 0) ≠ t) → fxF r t d i = none
  | 0, i, _ => rfl
  | d + 1, i, h => by
    rw [fxF, if_neg (h i (by omega) (by omega))]
    exact fx_none d (i + 1) fun a h4 h5 => h a (by omega) (by omega)
theorem fx_lt {r : Abs.Rows} {t : List UInt8} {e : Nat} : ∀ (d i : Nat), fxF r t d i = some e → i ≤ e ∧ e < i + d
  | 0, i, h => by cases h
  | d + 1, i, h => by
    rw [fxF] at h
    split at h
    · cases h; omega
    · have := fx_lt d (i + 1) h; omega
def clsF (r : Abs.Rows) (l : List UInt8) : Nat → Option Nat
  | 0 => fxF r (l.take 0) r.length 0
  | n + 1 => match fxF r (l.take (n + 1)) r.length 0 with
    | some j => some j
    | none => clsF r l n
def apC {R : Type} (r : Abs.Rows) (o : Option Nat) (k : ByteArray → ByteArray → Int → Int → Int → Int → Bool → Option R) : Option R := match o with
  | some j => k (fS r j 0) (fS r j 1) (fI r j 2) (fI r j 3) (fI r j 4) (fI r j 5) true
  | none => k ⟨#[]⟩ ⟨#[]⟩ 0 0 0 0 false
def SortP (r : Abs.Rows) : Prop := ∀ a b, a < b → b < r.length → ls (fS r a 0) < ls (fS r b 0)
theorem ordB_lt {a b : ByteArray} (h : ordB a b = false) : ls b < ls a := by
  unfold ordB at h
  rw [bytesLess_dec, Lib.toList_data, Lib.toList_data, Bool.or_eq_false_iff] at h
  rcases lt_tri (ls a) (ls b) with c | c | c
  · have := of_decide_eq_false h.1; exact (this c).elim
  · have := h.2; rw [show a.data.toList = b.data.toList from c, beq_self_eq_true] at this; cases this
  · exact c
theorem sort_of {r : Abs.Rows} (h : ∀ j, j < r.length → clF r j = 0) : SortP r := by
  have step : ∀ j, 0 < j → j < r.length → ls (fS r (j - 1) 0) < ls (fS r j 0) := by
    intro j h0 h1
    have := h j h1
    unfold clF at this
    apply ordB_lt
    cases c : ordB (fS r j 0) (fS r (j - 1) 0) with
    | false => rfl
    | true =>
      exfalso
      split at this
      · omega
      · split at this
        · omega
        · split at this
          · omega
          · rw [if_pos ⟨h0, c⟩] at this; omega
  intro a b hab hb
  obtain ⟨d, rfl⟩ : ∃ d, b = a + 1 + d := ⟨b - (a + 1), by omega⟩
  clear hab
  induction d with
  | zero => exact step (a + 1) (by omega) hb
  | succ d ih => exact lt_tr (ih (by omega)) (step (a + 1 + (d + 1)) (by omega) hb)
theorem hmid {i j : Nat} (h : i + j ≤ 1000000) : IntKind.wrap IntKind.i64 (Int.fdiv (IntKind.wrap IntKind.u64 (IntKind.wrap IntKind.i64 ((i : Int) + (j : Int)))) ((2 : Int) ^ min (Int.toNat (1 : Int)) (64 : Nat))) = (((i + j) / 2 : Nat) : Int) := by
  rw [w64 (x := (i : Int) + j) (by omega) (by omega), IntKind.wrap_u64]
  have e : ((i : Int) + (j : Int)) % 18446744073709551616 = (i : Int) + j := by omega
  have e2 : ((2 : Int) ^ min (Int.toNat (1 : Int)) (64 : Nat)) = 2 := by decide
  first
    | rw [e, e2]
    | skip
  rw [Int.fdiv_eq_ediv_of_nonneg _ (by omega), w64 (by omega) (by omega)]
  omega
theorem lp43 (m : Nat) (r : Abs.Rows) (hl : r.length ≤ 100000) (hs : SortP r) (t : List UInt8) (z : Int) {R : Type} (K : Int → Int → Option R) : ∀ (d n i j : Nat), j - i ≤ d → d < n → i ≤ j → j ≤ r.length →
    (∀ a, a < i → ls (fS r a 0) < t) → (∀ a, j ≤ a → a < r.length → ¬ ls (fS r a 0) < t) →
    ∃ e : Nat, e ≤ r.length ∧ (∀ a, a < e → ls (fS r a 0) < t) ∧ (∀ a, e ≤ a → a < r.length → ¬ ls (fS r a 0) < t) ∧ Lp43_3 (m + 1) K r (bs t) z n i j = K e e
  | _, 0, _, _, _, h, _, _, _, _ => by omega
  | d, n + 1, i, j, h1, h2, h3, h4, h5, h6 => by
    by_cases c : i < j
    · obtain ⟨d, rfl⟩ : ∃ d', d = d' + 1 := ⟨d - 1, by omega⟩
      have hm1 : (i + j) / 2 < j := by omega
      have hm2 : i ≤ (i + j) / 2 := by omega
      have step : Lp43_3 (m + 1) K r (bs t) z (n + 1) i j = bif decide (cmS (ls (fS r ((i + j) / 2) 0)) t < 0) then Lp43_3 (m + 1) K r (bs t) z n (((i + j) / 2 + 1 : Nat) : Int) j else Lp43_3 (m + 1) K r (bs t) z n i (((i + j) / 2 : Nat) : Int) := by
        rw [Lp43_3]
        simp only [Lp43_3_step, hmid (show i + j ≤ 1000000 by omega), wP1 (show (i + j) / 2 ≤ 1000000 by omega), tN, Fn44]
        rw [dT (by omega), dT (by omega)]
        rfl
      by_cases c2 : ls (fS r ((i + j) / 2) 0) < t
      · obtain ⟨e, e1, e2, e3, e4⟩ := lp43 m r hl hs t z K d n ((i + j) / 2 + 1) j (by omega) (by omega) (by omega) h4 (fun a ha => by
          by_cases ca : a = (i + j) / 2
          · rw [ca]; exact c2
          · exact lt_tr (hs a ((i + j) / 2) (by omega) (by omega)) c2) h6
        exact ⟨e, e1, e2, e3, by rw [step, dT ((cmS_lt _ _).2 c2), e4]⟩
      · obtain ⟨e, e1, e2, e3, e4⟩ := lp43 m r hl hs t z K d n i ((i + j) / 2) (by omega) (by omega) (by omega) (by omega) h5 (fun a ha hb hlt => by
          by_cases ca : a = (i + j) / 2
          · rw [ca] at hlt; exact c2 hlt
          · exact c2 (lt_tr (hs ((i + j) / 2) a (by omega) hb) hlt))
        exact ⟨e, e1, e2, e3, by rw [step, dF (fun h => c2 ((cmS_lt _ _).1 h)), e4]⟩
    · obtain rfl : i = j := by omega
      refine ⟨i, h4, h5, h6, ?_⟩
      rw [Lp43_3]
      simp only [Lp43_3_step]
      rw [dF (by omega)]
theorem fn43 (m : Nat) (r : Abs.Rows) (hl : r.length ≤ 1000) (hm : 1000 ≤ m) (hs : SortP r) (t : List UInt8) {R : Type} (k : Int → Bool → Option R) : ∃ e : Int, Fn43 (m + 2) r (bs t) k = match fxF r t r.length 0 with
    | some j => k j true
    | none => k e false := by
  simp only [Fn43]
  obtain ⟨e, e1, e2, e3, e4⟩ := lp43 m r (by omega) hs t r.length (fun i310 i311 => bif decide (i310 < (r.length : Int)) then (bif decide ((0 : Int) ≤ i310 ∧ i310 < (r.length : Int)) then (Fn44 (m + 1) (fS r (Int.toNat i310) 0) (fS r (Int.toNat i310) 1) (fI r (Int.toNat i310) 2) (fI r (Int.toNat i310) 3) (fI r (Int.toNat i310) 4) (fI r (Int.toNat i310) 5) (bs t) (fun i312 => k i310 (i312 == (0 : Int)))) else none) else (k i310 false)) r.length (m + 1) 0 r.length (by omega) (by omega) (by omega) (by omega) (fun a ha => by omega) (fun a ha hb => by omega)
  refine ⟨e, Eq.trans e4 ?_⟩
  by_cases c : e < r.length
  · rw [dT (by omega), dT (by omega)]
    simp only [Fn44, tN]
    by_cases c2 : ls (fS r e 0) = t
    · rw [fx_some c2 r.length 0 (by omega) (by omega) fun a h1 h2 h3 => lt_irr t (h3 ▸ e2 a h2)]
      show k e (cmS (ls (fS r e 0)) t == 0) = k e true
      rw [(cmS_eq _ _).2 c2]; rfl
    · rw [fx_none (r := r) (t := t) r.length 0 fun a h1 h2 h3 => by
        by_cases ca : a < e
        · exact lt_irr t (h3 ▸ e2 a ca)
        · by_cases ce : a = e
          · exact c2 (ce ▸ h3)
          · exact e3 e (by omega) c (h3 ▸ hs e a (by omega) (by omega))]
      show k e (cmS (ls (fS r e 0)) t == 0) = k e false
      rw [beq_false_of_ne (fun h => c2 ((cmS_eq _ _).1 h))]
  · rw [dF (by omega), fx_none (r := r) (t := t) r.length 0 fun a h1 h2 h3 => lt_irr t (h3 ▸ e2 a (by omega))]
theorem wM1' {N : Nat} (h2 : N ≤ 1000000) : IntKind.wrap .i64 (((N + 1 : Nat) : Int) - 1) = (N : Int) := by rw [w64 (by omega) (by omega)]; omega
theorem lp29 (m : Nat) (r : Abs.Rows) (hl : r.length ≤ 1000) (hm : 1000 ≤ m) (hs : SortP r) (l : List UInt8) (hl2 : l.length ≤ 1000) (f : Int) (q : Abs.Rows) (s1 s2 : ByteArray) (a1 a2 a3 a4 : Int) (b : Bool) {R : Type} (K : ByteArray → ByteArray → Int → Int → Int → Int → Bool → Option R) (Z : Option R) : ∀ (N n : Nat), N + 1 < n → N ≤ l.length →
    Lp29_2 (m + 2) (fun a b c d e f g _ => K a b c d e f g) (fun _ => Z) (bs l) r f q s1 s2 a1 a2 a3 a4 b n N = match clsF r l N with
      | some j => K (fS r j 0) (fS r j 1) (fI r j 2) (fI r j 3) (fI r j 4) (fI r j 5) true
      | none => Z
  | _, 0, h, _ => by omega
  | 0, n + 1, h, h2 => by
    rw [Lp29_2]
    simp only [Lp29_2_step, bs_size]
    rw [dT (by omega), dT (by omega)]
    have ht : (bs l).extract 0 (Int.toNat ((0 : Nat) : Int)) = bs (l.take 0) := bs_take l 0
    rw [ht]
    obtain ⟨e, he⟩ := fn43 m r hl hm hs (l.take 0) (fun i315 b316 => bif b316 then (bif decide ((0 : Int) ≤ i315 ∧ i315 < (r.length : Int)) then (K (fS r (Int.toNat i315) 0) (fS r (Int.toNat i315) 1) (fI r (Int.toNat i315) 2) (fI r (Int.toNat i315) 3) (fI r (Int.toNat i315) 4) (fI r (Int.toNat i315) 5) true) else none) else (Lp29_2 (m + 2) (fun a b c d e f g _ => K a b c d e f g) (fun _ => Z) (bs l) r f q s1 s2 a1 a2 a3 a4 b n (IntKind.wrap IntKind.i64 (((0 : Nat) : Int) - 1))))
    refine Eq.trans he ?_
    rw [clsF]
    cases hf : fxF r (l.take 0) r.length 0 with
    | some j =>
      have := fx_lt _ _ hf
      refine Eq.trans (bT rfl) ?_
      rw [dT (by omega), tN]
    | none =>
      refine Eq.trans (bF rfl) ?_
      rw [w64 (by omega) (by omega)]
      cases n with
      | zero => omega
      | succ n =>
        rw [Lp29_2]
        simp only [Lp29_2_step]
        rw [dF (by omega)]
  | N + 1, n + 1, h, h2 => by
    rw [Lp29_2]
    simp only [Lp29_2_step, bs_size]
    rw [dT (by omega), dT (by omega)]
    have ht : (bs l).extract 0 (Int.toNat ((N + 1 : Nat) : Int)) = bs (l.take (N + 1)) := bs_take l (N + 1)
    rw [ht]
    obtain ⟨e, he⟩ := fn43 m r hl hm hs (l.take (N + 1)) (fun i315 b316 => bif b316 then (bif decide ((0 : Int) ≤ i315 ∧ i315 < (r.length : Int)) then (K (fS r (Int.toNat i315) 0) (fS r (Int.toNat i315) 1) (fI r (Int.toNat i315) 2) (fI r (Int.toNat i315) 3) (fI r (Int.toNat i315) 4) (fI r (Int.toNat i315) 5) true) else none) else (Lp29_2 (m + 2) (fun a b c d e f g _ => K a b c d e f g) (fun _ => Z) (bs l) r f q s1 s2 a1 a2 a3 a4 b n (IntKind.wrap IntKind.i64 (((N + 1 : Nat) : Int) - 1))))
    refine Eq.trans he ?_
    rw [clsF]
    cases hf : fxF r (l.take (N + 1)) r.length 0 with
    | some j =>
      have := fx_lt _ _ hf
      refine Eq.trans (bT rfl) ?_
      rw [dT (by omega), tN]
    | none =>
      refine Eq.trans (bF rfl) ?_
      rw [wM1' (by omega)]
      exact lp29 m r hl hm hs l hl2 f q s1 s2 a1 a2 a3 a4 b K Z N n (by omega) (by omega)
theorem fn29 (m : Nat) (r : Abs.Rows) (hl : r.length ≤ 1000) (hm : 1100 ≤ m) (hs : SortP r) (l : List UInt8) (hl2 : l.length ≤ 1000) (f : Int) (q : Abs.Rows) {R : Type} (k : ByteArray → ByteArray → Int → Int → Int → Int → Bool → Option R) :
    Fn29 (m + 3) r f q (bs l) k = apC r (clsF r l l.length) k := by
  simp only [Fn29, bs_size]
  refine Eq.trans (lp29 m r hl (by omega) hs l hl2 f q _ _ _ _ _ _ _ k _ l.length (m + 2) (by omega) (by omega)) ?_
  unfold apC
  cases clsF r l l.length <;> rfl
theorem lp18i (m : Nat) (r : Abs.Rows) (hl : r.length ≤ 1000) (l : List UInt8) (N : Nat) (hN : N ≤ l.length) (f : Int) (q : Abs.Rows) (s1 s2 : ByteArray) (a1 a2 a3 a4 : Int) (b : Bool) {R : Type} (K : ByteArray → ByteArray → Int → Int → Int → Int → Bool → Option R) (Z : Option R) : ∀ (d n i : Nat), i + d = r.length → d < n →
    Lp18_6 m (fun a b c d e f g _ => K a b c d e f g) (fun _ => Z) (bs l) r f q s1 s2 a1 a2 a3 a4 b N r r.length n i = match fxF r (l.take N) d i with
      | some j => K (fS r j 0) (fS r j 1) (fI r j 2) (fI r j 3) (fI r j 4) (fI r j 5) true
      | none => Z
  | _, 0, _, _, h => by omega
  | 0, n + 1, i, h1, h2 => by
    rw [Lp18_6]
    simp only [Lp18_6_step]
    rw [dF (by omega)]
    rfl
  | d + 1, n + 1, i, h1, h2 => by
    rw [Lp18_6]
    simp only [Lp18_6_step, bs_size, tN, wP1 (show i ≤ 1000000 by omega)]
    rw [dT (by omega), dT (by omega), dT (by omega), bs_take, bs_toList, Lib.toList_data, fxF]
    by_cases c : ls (fS r i 0) = l.take N
    · rw [lT c, if_pos c]
    · rw [lF c, if_neg c]
      exact lp18i m r hl l N hN f q s1 s2 a1 a2 a3 a4 b K Z d n (i + 1) (by omega) (by omega)
theorem lp18 (m : Nat) (r : Abs.Rows) (hl : r.length ≤ 1000) (hm : 1000 < m) (l : List UInt8) (hl2 : l.length ≤ 1000) (f : Int) (q : Abs.Rows) (s1 s2 : ByteArray) (a1 a2 a3 a4 : Int) (b : Bool) {R : Type} (K : ByteArray → ByteArray → Int → Int → Int → Int → Bool → Option R) (Z : Option R) : ∀ (N n : Nat), N + 1 < n → N ≤ l.length →
    Lp18_2 m (fun a b c d e f g _ => K a b c d e f g) (fun _ => Z) (bs l) r f q s1 s2 a1 a2 a3 a4 b n N = match clsF r l N with
      | some j => K (fS r j 0) (fS r j 1) (fI r j 2) (fI r j 3) (fI r j 4) (fI r j 5) true
      | none => Z
  | _, 0, h, _ => by omega
  | 0, n + 1, h, h2 => by
    rw [Lp18_2]
    simp only [Lp18_2_step]
    rw [dT (by omega)]
    refine Eq.trans (lp18i m r hl l 0 (by omega) f q s1 s2 a1 a2 a3 a4 b K _ r.length m 0 (by omega) (by omega)) ?_
    rw [clsF]
    cases hf : fxF r (l.take 0) r.length 0 with
    | some j => rfl
    | none =>
      show Lp18_2 m (fun a b c d e f g _ => K a b c d e f g) (fun _ => Z) (bs l) r f q s1 s2 a1 a2 a3 a4 b n (IntKind.wrap IntKind.i64 (((0 : Nat) : Int) - 1)) = Z
      rw [w64 (by omega) (by omega)]
      cases n with
      | zero => omega
      | succ n =>
        rw [Lp18_2]
        simp only [Lp18_2_step]
        rw [dF (by omega)]
  | N + 1, n + 1, h, h2 => by
    rw [Lp18_2]
    simp only [Lp18_2_step]
    rw [dT (by omega)]
    refine Eq.trans (lp18i m r hl l (N + 1) (by omega) f q s1 s2 a1 a2 a3 a4 b K _ r.length m 0 (by omega) (by omega)) ?_
    rw [clsF]
    cases hf : fxF r (l.take (N + 1)) r.length 0 with
    | some j => rfl
    | none =>
      show Lp18_2 m (fun a b c d e f g _ => K a b c d e f g) (fun _ => Z) (bs l) r f q s1 s2 a1 a2 a3 a4 b n (IntKind.wrap IntKind.i64 (((N + 1 : Nat) : Int) - 1)) = _
      rw [wM1' (by omega)]
      exact lp18 m r hl hm l hl2 f q s1 s2 a1 a2 a3 a4 b K Z N n (by omega) (by omega)
theorem fn18 (m : Nat) (r : Abs.Rows) (hl : r.length ≤ 1000) (hm : 1100 ≤ m) (l : List UInt8) (hl2 : l.length ≤ 1000) (f : Int) (q : Abs.Rows) {R : Type} (k : ByteArray → ByteArray → Int → Int → Int → Int → Bool → Option R) :
    Fn18 (m + 1) r f q (bs l) k = apC r (clsF r l l.length) k := by
  simp only [Fn18, bs_size]
  refine Eq.trans (lp18 m r hl (by omega) l hl2 f q _ _ _ _ _ _ _ k _ l.length m (by omega) (by omega)) ?_
  unfold apC
  cases clsF r l l.length <;> rfl
end Go.Proofs.YtcoplddcbedeoaaDoor.Med
end
section
set_option linter.unusedVariables false
set_option linter.unusedSimpArgs false
set_option linter.unusedSectionVars false
namespace Go.Proofs.YtcoplddcbedeoaaDoor.Med
open Go Go.Abs Go.Proofs
set_option linter.unusedVariables false
set_option linter.unusedSimpArgs false
/-! what a call costs -/
def ovr (b t : Int) : Int := if t - b > 0 then t - b else 0
def prc (a b c d t : Int) : Int := if t = 0 then 0 else a + d * ((ovr b t + c - 1) / c)
theorem ceil_eq {x c : Int} (hx : 0 ≤ x) (hc : 1 ≤ c) : (x + c - 1) / c = x / c + (if x % c > 0 then 1 else 0) := by
  have h1 := Int.mul_ediv_add_emod x c
  have h2 := Int.emod_nonneg x (show c ≠ 0 by omega)
  have h3 := Int.emod_lt_of_pos x (show 0 < c by omega)
  have e : x + c - 1 = (x % c + c - 1) + c * (x / c) := by omega
  rw [e, Int.add_mul_ediv_left _ _ (by omega), Int.add_comm]
  congr 1
  by_cases c0 : x % c > 0
  · rw [if_pos c0]
    have e2 : x % c + c - 1 = (x % c - 1) + c * 1 := by omega
    rw [e2, Int.add_mul_ediv_left _ _ (by omega), Int.ediv_eq_zero_of_lt (by omega) (by omega)]
    rfl
  · rw [if_neg c0, Int.ediv_eq_zero_of_lt (by omega) (by omega)]
theorem q_b {x c : Int} (hx : 0 ≤ x) (hx2 : x ≤ 86400000) (hc : 1 ≤ c) (hc2 : c ≤ 86400000) : 0 ≤ (x + c - 1) / c ∧ (x + c - 1) / c ≤ 200000000 := by
  refine ⟨Int.ediv_nonneg (by omega) (by omega), ?_⟩
  have := Int.ediv_le_self c (show 0 ≤ x + c - 1 by omega)
  omega
theorem dq_b {d y : Int} (h0 : 0 ≤ d) (h1 : d ≤ 1000000) (h2 : 0 ≤ y) (h3 : y ≤ 200000000) : 0 ≤ d * y ∧ d * y ≤ 200000000000000 := by
  refine ⟨Int.mul_nonneg h0 h2, ?_⟩
  have := Int.mul_le_mul h1 h3 h2 (show (0 : Int) ≤ 1000000 by omega)
  omega
theorem fn31 (m : Nat) (s1 s2 : ByteArray) {a b c d t : Int} (h : rngP a b c d) (h0 : 0 ≤ t) (h1 : t ≤ 86400000) {R : Type} (k : Int → Option R) : Fn31 (m + 1) s1 s2 a b c d t k = k (prc a b c d t) := by
  obtain ⟨⟨ha0, ha1⟩, ⟨hd0, hd1⟩, ⟨hb0, hb1⟩, ⟨hc0, hc1⟩⟩ := h
  simp only [Fn31]
  unfold prc
  by_cases ht : t = 0
  · rw [eT ht, if_pos ht]
  · rw [eF ht, if_neg ht, dT (by omega), w64 (x := t - b) (by omega) (by omega)]
    have ho : 0 ≤ ovr b t ∧ ovr b t ≤ 86400000 := by unfold ovr; split <;> omega
    have e : (if t - b > 0 then t - b else 0) = ovr b t := rfl
    obtain ⟨q0, q1⟩ := q_b ho.1 ho.2 hc0 hc1
    obtain ⟨r0, r1⟩ := dq_b hd0 hd1 q0 q1
    rw [e, w64 (x := ovr b t + c) (by omega) (by omega), w64 (x := ovr b t + c - 1) (by omega) (by omega)]
    show k (IntKind.wrap _ (a + IntKind.wrap _ (d * IntKind.wrap _ (Int.tdiv (ovr b t + c - 1) c)))) = _
    rw [td_pos (by omega), w64 (x := (ovr b t + c - 1) / c) (by omega) (by omega), w64 (x := d * _) (by omega) (by omega), w64 (by omega) (by omega)]
theorem fn19 (m : Nat) (s1 s2 : ByteArray) {a b c d t : Int} (h : rngP a b c d) (h0 : 0 ≤ t) (h1 : t ≤ 86400000) {R : Type} (k : Int → Option R) : Fn19 (m + 1) s1 s2 a b c d t k = k (prc a b c d t) := by
  obtain ⟨⟨ha0, ha1⟩, ⟨hd0, hd1⟩, ⟨hb0, hb1⟩, ⟨hc0, hc1⟩⟩ := h
  simp only [Fn19, Jn19_9]
  unfold prc
  by_cases ht : t = 0
  · rw [eT ht, if_pos ht]
  · rw [eF ht, if_neg ht]
    have ho : 0 ≤ ovr b t ∧ ovr b t ≤ 86400000 := by unfold ovr; split <;> omega
    obtain ⟨q0, q1⟩ := q_b ho.1 ho.2 hc0 hc1
    obtain ⟨r0, r1⟩ := dq_b hd0 hd1 q0 q1
    rw [w64 (x := t - b) (by omega) (by omega)]
    have fin : ∀ y : Int, y = (ovr b t + c - 1) / c → k (IntKind.wrap .i64 (a + IntKind.wrap .i64 (y * d))) = k (a + d * ((ovr b t + c - 1) / c)) := by
      intro y hy
      rw [hy, Int.mul_comm _ d, w64 (x := d * _) (by omega) (by omega), w64 (by omega) (by omega)]
    by_cases hp : t - b > 0
    · have eo : ovr b t = t - b := by unfold ovr; rw [if_pos hp]
      have hce := ceil_eq (x := t - b) (c := c) (by omega) hc0
      rw [dT hp, dT (by omega), dT (by omega), tm_pos (by omega), td_pos (by omega)]
      rw [eo] at q0 q1 ⊢
      have hq2 : 0 ≤ (t - b) / c := Int.ediv_nonneg (by omega) (by omega)
      rw [eo] at fin
      by_cases hm : (t - b) % c > 0
      · rw [if_pos hm] at hce
        rw [dT hm, w64 (x := (t - b) / c) (by omega) (by omega), w64 (x := (t - b) / c + 1) (by omega) (by omega)]
        exact fin _ hce.symm
      · rw [if_neg hm] at hce
        rw [dF hm, w64 (x := (t - b) / c) (by omega) (by omega)]
        exact fin _ (by omega)
    · have eo : ovr b t = 0 := by unfold ovr; rw [if_neg hp]
      rw [dF hp]
      exact fin 0 (by rw [eo, Int.zero_add, Int.ediv_eq_zero_of_lt (by omega) (by omega)])
end Go.Proofs.YtcoplddcbedeoaaDoor.Med
end
section
set_option linter.unusedVariables false
set_option linter.unusedSimpArgs false
set_option linter.unusedSectionVars false
namespace Go.Proofs.YtcoplddcbedeoaaDoor.Med
open Go Go.Abs Go.Proofs
set_option linter.unusedVariables false
set_option linter.unusedSimpArgs false
/-! payers -/
instance : LawfulBEq ByteArray where
  eq_of_beq {a b} h := by
    have h : (a.data == b.data) = true := h
    exact ByteArray.ext (eq_of_beq h)
  rfl {a} := by
    show (a.data == a.data) = true
    exact beq_self_eq_true _
instance : DecidableEq ByteArray := fun a b => decidable_of_iff (a.data = b.data) ⟨ByteArray.ext, congrArg _⟩
/-- a map whose keys are all true -/
def seenS (ks : List ByteArray) : Abs.Rows := ks.map fun x => [F.lit (Value.string x), F.lit (Value.bool true)]
/-- a map of pairs -/
def owM (ps : List (ByteArray × ByteArray)) : Abs.Rows := ps.map fun x => [F.lit (Value.string x.1), F.lit (Value.string x.2)]
theorem seenS_len (ks : List ByteArray) : (seenS ks).length = ks.length := by simp [seenS]
theorem owM_len (ks : List (ByteArray × ByteArray)) : (owM ks).length = ks.length := by simp [owM]
theorem seenS_get (x : ByteArray) : ∀ (ks : List ByteArray), F.toBool (List.headD (mRow (F.lit (Value.string x)) [F.lit (Value.bool false)] (seenS ks)) default) = decide (x ∈ ks)
  | [] => rfl
  | y :: ks => by
    show F.toBool (List.headD (bif (x == y) then [F.lit (Value.bool true)] else mRow (F.lit (Value.string x)) [F.lit (Value.bool false)] (seenS ks)) default) = _
    by_cases h : x = y
    · subst h; simp; rfl
    · rw [beq_false_of_ne h]
      simp only [cond_false]
      rw [seenS_get x ks]
      simp [h]
theorem seenS_put (x : ByteArray) : ∀ (ks : List ByteArray), x ∉ ks → mPut (F.lit (Value.string x)) [F.lit (Value.bool true)] (seenS ks) = seenS (ks ++ [x])
  | [], _ => rfl
  | y :: ks, hn => by
    show (bif (x == y) then [F.lit (Value.string x), F.lit (Value.bool true)] :: seenS ks else [F.lit (Value.string y), F.lit (Value.bool true)] :: mPut (F.lit (Value.string x)) [F.lit (Value.bool true)] (seenS ks)) = _
    have h : x ≠ y := fun e => hn (by simp [e])
    rw [beq_false_of_ne h]
    simp only [cond_false]
    rw [seenS_put x ks fun h2 => hn (by simp [h2])]
    rfl
theorem owM_put (x o : ByteArray) : ∀ (ps : List (ByteArray × ByteArray)), x ∉ ps.map Prod.fst → mPut (F.lit (Value.string x)) [F.lit (Value.string o)] (owM ps) = owM (ps ++ [(x, o)])
  | [], _ => rfl
  | (y, v) :: ps, hn => by
    show (bif (x == y) then [F.lit (Value.string x), F.lit (Value.string o)] :: owM ps else [F.lit (Value.string y), F.lit (Value.string v)] :: mPut (F.lit (Value.string x)) [F.lit (Value.string o)] (owM ps)) = _
    have h : x ≠ y := fun e => hn (by simp [e])
    rw [beq_false_of_ne h]
    simp only [cond_false]
    rw [owM_put x o ps fun h2 => hn (by simp at h2 ⊢; exact .inr h2)]
    rfl
/-- whose is a number -/
def lk (s : ByteArray) : List (ByteArray × ByteArray) → Option ByteArray
  | [] => none
  | (y, v) :: ps => if s = y then some v else lk s ps
theorem owM_has (x : ByteArray) : ∀ (ps : List (ByteArray × ByteArray)), mHas (F.lit (Value.string x)) (owM ps) = (lk x ps).isSome
  | [] => rfl
  | (y, v) :: ps => by
    show (bif (x == y) then true else mHas (F.lit (Value.string x)) (owM ps)) = _
    rw [lk]
    by_cases h : x = y
    · subst h; simp
    · rw [beq_false_of_ne h, if_neg h]
      exact owM_has x ps
theorem owM_get (x : ByteArray) : ∀ (ps : List (ByteArray × ByteArray)), F.toStr (List.headD (mRow (F.lit (Value.string x)) [F.lit (Value.string ⟨#[]⟩)] (owM ps)) default) = (lk x ps).getD ⟨#[]⟩
  | [] => rfl
  | (y, v) :: ps => by
    show F.toStr (List.headD (bif (x == y) then [F.lit (Value.string v)] else mRow (F.lit (Value.string x)) [F.lit (Value.string ⟨#[]⟩)] (owM ps)) default) = _
    rw [lk]
    by_cases h : x = y
    · subst h; simp; rfl
    · rw [beq_false_of_ne h, if_neg h]
      exact owM_get x ps
/-- the numbers of a payer -/
def nmL (q : Abs.Rows) : Nat → Nat → List ByteArray
  | 0, _ => []
  | d + 1, j => fS q j 0 :: nmL q d (j + 1)
theorem nmL_len (q : Abs.Rows) : ∀ (d j : Nat), (nmL q d j).length = d
  | 0, _ => rfl
  | d + 1, j => by rw [nmL, List.length_cons, nmL_len q d]
/-- the fault of numbers, and what was seen -/
def nuE (q : Abs.Rows) : Nat → Nat → List ByteArray → Int × List ByteArray
  | 0, _, ks => (0, ks)
  | d + 1, j, ks => if numB (ls (fS q j 0)) = false then (3, ks) else if fS q j 0 ∈ ks then (6, ks) else nuE q d (j + 1) (ks ++ [fS q j 0])
theorem nuE_len (q : Abs.Rows) : ∀ (d j : Nat) (ks : List ByteArray), (nuE q d j ks).2.length ≤ ks.length + d
  | 0, j, ks => by simp [nuE]
  | d + 1, j, ks => by
    rw [nuE]
    split
    · simp
    · split
      · simp
      · have := nuE_len q d (j + 1) (ks ++ [fS q j 0])
        simp at this
        omega
theorem nuE_ok (q : Abs.Rows) : ∀ (d j : Nat) (ks : List ByteArray), (nuE q d j ks).1 = 0 → (nuE q d j ks).2 = ks ++ nmL q d j
  | 0, j, ks, _ => by simp [nuE, nmL]
  | d + 1, j, ks, h => by
    rw [nuE] at h ⊢
    split
    · rename_i c; rw [if_pos c] at h; omega
    · rename_i c
      rw [if_neg c] at h
      split
      · rename_i c2; rw [if_pos c2] at h; omega
      · rename_i c2
        rw [if_neg c2] at h
        rw [nuE_ok q d (j + 1) _ h, nmL]
        simp
theorem lp17i (m : Nat) (q : Abs.Rows) (hq : q.length ≤ 1000) (a : Abs.Rows) (z1 : Int) (s : ByteArray) (b c : Abs.Rows) (z2 z3 : Int) {R : Type} (K : Int → Option R) (kx1 : Abs.Rows → Option R) : ∀ (d n j : Nat) (ks : List ByteArray), j + d = q.length → d < n → ks.length + d ≤ 1000000 →
    Lp17_18 (m + 4) (fun e _ _ => K e) (fun M _ => kx1 M) a z1 s b c z2 z3 q q.length n (seenS ks) j = if (nuE q d j ks).1 = 0 then kx1 (seenS (nuE q d j ks).2) else K (nuE q d j ks).1
  | _, 0, _, _, _, h, _ => by omega
  | 0, n + 1, j, ks, h1, h2, h3 => by
    rw [Lp17_18]
    simp only [Lp17_18_step]
    rw [dF (by omega)]
    rfl
  | d + 1, n + 1, j, ks, h1, h2, h3 => by
    rw [Lp17_18]
    simp only [Lp17_18_step, wP1 (show j ≤ 1000000 by omega), tN]
    rw [dT (by omega), dT (by omega)]
    refine Eq.trans (fn28b m _ _) ?_
    rw [nuE]
    cases c1 : numB (ls (fS q j 0)) with
    | false => rfl
    | true =>
      refine Eq.trans (bF rfl) ?_
      have e3 : ¬ (true = false) := by decide
      rw [if_neg e3, seenS_get]
      by_cases c2 : fS q j 0 ∈ ks
      · rw [decide_eq_true c2, if_pos c2]; rfl
      · rw [decide_eq_false c2, if_neg c2]
        refine Eq.trans (bF rfl) ?_
        rw [dT (by rw [seenS_len, rM]; omega), seenS_put _ _ c2]
        exact lp17i m q hq a z1 s b c z2 z3 K kx1 d n (j + 1) _ (by omega) (by omega) (by simp; omega)
theorem lp15i (m : Nat) (hm : 100 ≤ m) (q : Abs.Rows) (hq : q.length ≤ 1000) (a : Abs.Rows) (z1 : Int) (s s' : ByteArray) (b c : Abs.Rows) (z2 z3 : Int) {R : Type} (K : Int → Option R) (kx1 : Abs.Rows → Option R) : ∀ (d n j : Nat) (ks : List ByteArray), j + d = q.length → d < n → ks.length + d ≤ 1000000 →
    Lp15_20 (m + 4) (fun e _ _ => K e) (fun M _ => kx1 M) a z1 s s' b c z2 z3 q q.length n (seenS ks) j = if (nuE q d j ks).1 = 0 then kx1 (seenS (nuE q d j ks).2) else K (nuE q d j ks).1
  | _, 0, _, _, _, h, _ => by omega
  | 0, n + 1, j, ks, h1, h2, h3 => by
    rw [Lp15_20]
    simp only [Lp15_20_step]
    rw [dF (by omega)]
    rfl
  | d + 1, n + 1, j, ks, h1, h2, h3 => by
    rw [Lp15_20]
    simp only [Lp15_20_step, wP1 (show j ≤ 1000000 by omega), tN]
    rw [dT (by omega), dT (by omega)]
    refine Eq.trans (fn12b m hm _ _) ?_
    rw [nuE]
    cases c1 : numB (ls (fS q j 0)) with
    | false => rfl
    | true =>
      refine Eq.trans (bF rfl) ?_
      have e3 : ¬ (true = false) := by decide
      rw [if_neg e3, seenS_get]
      by_cases c2 : fS q j 0 ∈ ks
      · rw [decide_eq_true c2, if_pos c2]; rfl
      · rw [decide_eq_false c2, if_neg c2]
        refine Eq.trans (bF rfl) ?_
        rw [dT (by rw [seenS_len, rM]; omega), seenS_put _ _ c2]
        exact lp15i m hm q hq a z1 s s' b c z2 z3 K kx1 d n (j + 1) _ (by omega) (by omega) (by simp; omega)
/-- the fault of a payer but for the numbers -/
def pyF (r : Abs.Rows) (i : Nat) : Int := if keyB (ls (fS r i 0)) = false then 5 else if 0 < i ∧ ordB (fS r i 0) (fS r (i - 1) 0) = true then 7 else if 500 < (fR r i 1).length then 2 else 0
def paE (r : Abs.Rows) : Nat → Nat → List ByteArray → Int
  | 0, _, _ => 0
  | d + 1, i, ks => if pyF r i ≠ 0 then pyF r i else if (nuE (fR r i 1) (fR r i 1).length 0 ks).1 ≠ 0 then (nuE (fR r i 1) (fR r i 1).length 0 ks).1 else paE r d (i + 1) (nuE (fR r i 1) (fR r i 1).length 0 ks).2
section
variable {r : Abs.Rows} {i : Nat}
theorem py5 (h2 : keyB (ls (fS r i 0)) = false) : pyF r i = 5 := by unfold pyF; rw [if_pos h2]
theorem py7 (h2 : keyB (ls (fS r i 0)) = true) (h4 : 0 < i ∧ ordB (fS r i 0) (fS r (i - 1) 0) = true) : pyF r i = 7 := by unfold pyF; rw [if_neg (by rw [h2]; decide), if_pos h4]
theorem py2 (h2 : keyB (ls (fS r i 0)) = true) (h4 : ¬ (0 < i ∧ ordB (fS r i 0) (fS r (i - 1) 0) = true)) (h5 : 500 < (fR r i 1).length) : pyF r i = 2 := by unfold pyF; rw [if_neg (by rw [h2]; decide), if_neg h4, if_pos h5]
theorem py0 (h2 : keyB (ls (fS r i 0)) = true) (h4 : ¬ (0 < i ∧ ordB (fS r i 0) (fS r (i - 1) 0) = true)) (h5 : ¬ 500 < (fR r i 1).length) : pyF r i = 0 := by unfold pyF; rw [if_neg (by rw [h2]; decide), if_neg h4, if_neg h5]
end
theorem lp17 (m : Nat) (hm : 600 ≤ m) (r : Abs.Rows) (hr : r.length ≤ 500) (z : Int) {R : Type} (K : Int → Option R) : ∀ (d n i : Nat) (ks : List ByteArray), i + d = r.length → d < n → ks.length ≤ 500 * i →
    Lp17_6 (m + 4) (fun e _ _ => K e) (fun _ _ => K 0) r z r r.length n (seenS ks) i = K (paE r d i ks)
  | _, 0, _, _, _, h, _ => by omega
  | 0, n + 1, i, ks, h1, h2, h3 => by
    rw [Lp17_6]
    simp only [Lp17_6_step]
    rw [dF (by omega)]
    rfl
  | d + 1, n + 1, i, ks, h1, h2, h3 => by
    have hj : ∀ b : Bool, Jn17_12 (m + 4) (fun e _ => K e) (fun _ => Jn17_16 (m + 4) (fun e _ => K e) (fun M => Lp17_6 (m + 4) (fun e _ _ => K e) (fun _ _ => K 0) r z r r.length n M ((i + 1 : Nat) : Int)) r z (seenS ks) (fS r i 0) (fR r i 1) r r.length i) r z (seenS ks) (fS r i 0) (fR r i 1) r r.length i b =
        if b = true then K 7 else if 500 < (fR r i 1).length then K 2 else if (nuE (fR r i 1) (fR r i 1).length 0 ks).1 ≠ 0 then K (nuE (fR r i 1) (fR r i 1).length 0 ks).1 else K (paE r d (i + 1) (nuE (fR r i 1) (fR r i 1).length 0 ks).2) := by
      intro b
      simp only [Jn17_12]
      cases b with
      | true => rfl
      | false =>
        refine Eq.trans (bF rfl) ?_
        rw [if_neg (by decide)]
        by_cases h5 : 500 < (fR r i 1).length
        · rw [dT (by omega), if_pos h5]
        · rw [dF (by omega), if_neg h5]
          simp only [Jn17_16]
          have hlen := nuE_len (fR r i 1) (fR r i 1).length 0 ks
          refine Eq.trans (lp17i m (fR r i 1) (by omega) _ _ _ _ _ _ _ K _ (fR r i 1).length (m + 4) 0 ks (by omega) (by omega) (by omega)) ?_
          by_cases h6 : (nuE (fR r i 1) (fR r i 1).length 0 ks).1 = 0
          · rw [if_pos h6, if_neg (not_not_intro h6)]
            exact lp17 m hm r hr z K d n (i + 1) _ (by omega) (by omega) (by omega)
          · rw [if_neg h6, if_pos h6]
    rw [Lp17_6]
    simp only [Lp17_6_step, wP1 (show i ≤ 1000000 by omega), tN]
    rw [dT (by omega), dT (by omega), paE]
    refine Eq.trans (fn38b (m + 3) _ _) ?_
    have fin : keyB (ls (fS r i 0)) = true → ∀ b : Bool, (b = true ↔ (0 < i ∧ ordB (fS r i 0) (fS r (i - 1) 0) = true)) → (if b = true then K 7 else if 500 < (fR r i 1).length then K 2 else if (nuE (fR r i 1) (fR r i 1).length 0 ks).1 ≠ 0 then K (nuE (fR r i 1) (fR r i 1).length 0 ks).1 else K (paE r d (i + 1) (nuE (fR r i 1) (fR r i 1).length 0 ks).2)) =
        K (if pyF r i ≠ 0 then pyF r i else if (nuE (fR r i 1) (fR r i 1).length 0 ks).1 ≠ 0 then (nuE (fR r i 1) (fR r i 1).length 0 ks).1 else paE r d (i + 1) (nuE (fR r i 1) (fR r i 1).length 0 ks).2) := by
      intro c2 b hb
      by_cases c3 : 0 < i ∧ ordB (fS r i 0) (fS r (i - 1) 0) = true
      · rw [if_pos (hb.2 c3), py7 c2 c3]; rfl
      · rw [if_neg (fun h => c3 (hb.1 h))]
        by_cases h5 : 500 < (fR r i 1).length
        · rw [if_pos h5, py2 c2 c3 h5]; rfl
        · rw [if_neg h5, py0 c2 c3 h5, if_neg (show ¬ ((0 : Int) ≠ 0) by simp)]
          split <;> rfl
    cases c2 : keyB (ls (fS r i 0)) with
    | false => rw [py5 c2]; rfl
    | true =>
      refine Eq.trans (bF rfl) ?_
      by_cases h : 0 < i
      · rw [dT (by omega), wM1 h (by omega), dT (by omega), tN]
        refine Eq.trans (hj (ordB (fS r i 0) (fS r (i - 1) 0))) ?_
        exact fin c2 _ ⟨fun h4 => ⟨h, h4⟩, fun h4 => h4.2⟩
      · rw [dF (by omega)]
        refine Eq.trans (hj false) ?_
        exact fin c2 _ ⟨fun h4 => (by cases h4), fun h4 => (h h4.1).elim⟩
def payF (r : Abs.Rows) : Int := if 500 < r.length then 2 else paE r r.length 0 []
theorem fn17 (m : Nat) (hm : 600 ≤ m) (r : Abs.Rows) {R : Type} (k : Int → Option R) : Fn17 (m + 5) r k = k (payF r) := by
  simp only [Fn17]
  unfold payF
  by_cases h1 : 500 < r.length
  · rw [dT (by omega), if_pos h1]
  · rw [dF (by omega), if_neg h1]
    exact lp17 m hm r (by omega) 0 k r.length (m + 4) 0 [] (by omega) (by omega) (by simp)
end Go.Proofs.YtcoplddcbedeoaaDoor.Med
end
section
set_option linter.unusedVariables false
set_option linter.unusedSimpArgs false
set_option linter.unusedSectionVars false
namespace Go.Proofs.YtcoplddcbedeoaaDoor.Med
open Go Go.Abs Go.Proofs
set_option linter.unusedVariables false
set_option linter.unusedSimpArgs false
/-! the reference: payers -/
theorem ordB_nil {s : ByteArray} (h : keyB (ls s) = true) : ordB s ⟨#[]⟩ = false := by
  have h1 : 1 ≤ (ls s).length := by
    unfold keyB at h
    simp only [Bool.and_eq_true, decide_eq_true_eq] at h
    exact h.1
  unfold ordB
  rw [bytesLess_dec, Lib.toList_data, Lib.toList_data]
  cases hs : s.data.toList with
  | nil => rw [show ls s = [] from hs] at h1; simp at h1
  | cons a t => simp
theorem lp15 (m : Nat) (hm : 600 ≤ m) (r : Abs.Rows) (hr : r.length ≤ 500) (z : Int) {R : Type} (K : Int → Option R) : ∀ (d n i : Nat) (ks : List ByteArray) (s : ByteArray), i + d = r.length → d < n → ks.length ≤ 500 * i → (i = 0 → s = ⟨#[]⟩) → (0 < i → s = fS r (i - 1) 0) →
    Lp15_7 (m + 4) (fun e _ _ _ => K e) (fun _ _ _ => K 0) r z r r.length n (seenS ks) s i = K (paE r d i ks)
  | _, 0, _, _, _, _, h, _, _, _ => by omega
  | 0, n + 1, i, ks, s, h1, h2, h3, h4, h5 => by
    rw [Lp15_7]
    simp only [Lp15_7_step]
    rw [dF (by omega)]
    rfl
  | d + 1, n + 1, i, ks, s, h1, h2, h3, h4, h5 => by
    rw [Lp15_7]
    simp only [Lp15_7_step, wP1 (show i ≤ 1000000 by omega), tN]
    rw [dT (by omega), dT (by omega), paE]
    refine Eq.trans (fn36b m (by omega) _ _) ?_
    cases c2 : keyB (ls (fS r i 0)) with
    | false => rw [py5 c2]; rfl
    | true =>
      refine Eq.trans (bF rfl) ?_
      show (bif ordB (fS r i 0) s then _ else _) = _
      have hord : ordB (fS r i 0) s = true ↔ (0 < i ∧ ordB (fS r i 0) (fS r (i - 1) 0) = true) := by
        by_cases h : 0 < i
        · rw [h5 h]; exact ⟨fun h6 => ⟨h, h6⟩, fun h6 => h6.2⟩
        · rw [h4 (by omega), ordB_nil c2]; exact ⟨fun h6 => (by cases h6), fun h6 => (h h6.1).elim⟩
      by_cases c3 : 0 < i ∧ ordB (fS r i 0) (fS r (i - 1) 0) = true
      · rw [hord.2 c3, py7 c2 c3]; rfl
      · rw [Bool.eq_false_iff.2 (fun h => c3 (hord.1 h))]
        refine Eq.trans (bF rfl) ?_
        by_cases h6 : 500 < (fR r i 1).length
        · rw [dT (by omega), py2 c2 c3 h6]; rfl
        · rw [dF (by omega), py0 c2 c3 h6, if_neg (show ¬ ((0 : Int) ≠ 0) by simp)]
          have hlen := nuE_len (fR r i 1) (fR r i 1).length 0 ks
          refine Eq.trans (lp15i m (by omega) (fR r i 1) (by omega) _ _ _ _ _ _ _ _ K _ (fR r i 1).length (m + 4) 0 ks (by omega) (by omega) (by omega)) ?_
          by_cases h7 : (nuE (fR r i 1) (fR r i 1).length 0 ks).1 = 0
          · rw [if_pos h7, if_neg (not_not_intro h7)]
            exact lp15 m hm r hr z K d n (i + 1) _ _ (by omega) (by omega) (by omega) (fun h => by omega) (fun _ => by rw [Nat.add_sub_cancel])
          · rw [if_neg h7, if_pos h7]
theorem fn15 (m : Nat) (hm : 600 ≤ m) (r : Abs.Rows) {R : Type} (k : Int → Option R) : Fn15 (m + 5) r k = k (payF r) := by
  simp only [Fn15]
  unfold payF
  by_cases h1 : 500 < r.length
  · rw [dT (by omega), if_pos h1]
  · rw [dF (by omega), if_neg h1]
    exact lp15 m hm r (by omega) 0 k r.length (m + 4) 0 [] _ (by omega) (by omega) (by simp) (fun _ => rfl) (fun h => by omega)
/-! who pays -/
def prL (o : ByteArray) (l : List ByteArray) : List (ByteArray × ByteArray) := l.map fun x => (x, o)
def flt (r : Abs.Rows) : Nat → Nat → List (ByteArray × ByteArray)
  | 0, _ => []
  | d + 1, i => prL (fS r i 0) (nmL (fR r i 1) (fR r i 1).length 0) ++ flt r d (i + 1)
theorem prL_fst (o : ByteArray) (l : List ByteArray) : (prL o l).map Prod.fst = l := by simp [prL, Function.comp_def]
theorem lp32i (m : Nat) (q : Abs.Rows) (hq : q.length ≤ 1000) (a : Abs.Rows) (o : ByteArray) (b c : Abs.Rows) (z1 z2 : Int) {R : Type} (kx0 : Abs.Rows → Option R) : ∀ (d n j : Nat) (ps : List (ByteArray × ByteArray)), j + d = q.length → d < n → ps.length + d ≤ 1000000 → (nuE q d j (ps.map Prod.fst)).1 = 0 →
    Lp32_8 m (fun M _ => kx0 M) a o b c z1 z2 q q.length n (owM ps) j = kx0 (owM (ps ++ prL o (nmL q d j)))
  | _, 0, _, _, _, h, _, _ => by omega
  | 0, n + 1, j, ps, h1, h2, h3, h4 => by
    rw [Lp32_8]
    simp only [Lp32_8_step]
    rw [dF (by omega)]
    simp [nmL, prL]
  | d + 1, n + 1, j, ps, h1, h2, h3, h4 => by
    rw [nuE] at h4
    have c1 : ¬ numB (ls (fS q j 0)) = false := fun c => by rw [if_pos c] at h4; omega
    rw [if_neg c1] at h4
    have c2 : ¬ fS q j 0 ∈ ps.map Prod.fst := fun c => by rw [if_pos c] at h4; omega
    rw [if_neg c2] at h4
    rw [Lp32_8]
    simp only [Lp32_8_step, wP1 (show j ≤ 1000000 by omega), tN]
    rw [dT (by omega), dT (by omega), dT (by rw [owM_len, rM]; omega), owM_put _ _ _ c2]
    have h5 : (nuE q d (j + 1) ((ps ++ [(fS q j 0, o)]).map Prod.fst)).1 = 0 := by rw [List.map_append]; exact h4
    refine Eq.trans (lp32i m q hq a o b c z1 z2 kx0 d n (j + 1) _ (by omega) (by omega) (by simp; omega) h5) ?_
    rw [nmL]
    simp [prL]
theorem lp32 (m : Nat) (hm : 600 ≤ m) (r : Abs.Rows) (hr : r.length ≤ 500) {R : Type} (k : Abs.Rows → Option R) : ∀ (d n i : Nat) (ps : List (ByteArray × ByteArray)), i + d = r.length → d < n → ps.length ≤ 500 * i → paE r d i (ps.map Prod.fst) = 0 →
    Lp32_3 m (fun M _ => k M) r r r.length n (owM ps) i = k (owM (ps ++ flt r d i))
  | _, 0, _, _, _, h, _, _ => by omega
  | 0, n + 1, i, ps, h1, h2, h3, h4 => by
    rw [Lp32_3]
    simp only [Lp32_3_step]
    rw [dF (by omega)]
    simp [flt]
  | d + 1, n + 1, i, ps, h1, h2, h3, h4 => by
    rw [paE] at h4
    have c1 : pyF r i = 0 := by
      by_cases c : pyF r i = 0
      · exact c
      · rw [if_pos c] at h4; exact h4
    rw [if_neg (not_not_intro c1)] at h4
    have c2 : (nuE (fR r i 1) (fR r i 1).length 0 (ps.map Prod.fst)).1 = 0 := by
      by_cases c : (nuE (fR r i 1) (fR r i 1).length 0 (ps.map Prod.fst)).1 = 0
      · exact c
      · rw [if_pos c] at h4; exact h4
    rw [if_neg (not_not_intro c2), nuE_ok _ _ _ _ c2] at h4
    have c3 : (fR r i 1).length ≤ 500 := by
      have h := c1
      unfold pyF at h
      split at h
      · omega
      · split at h
        · omega
        · split at h
          · omega
          · omega
    rw [Lp32_3]
    simp only [Lp32_3_step, wP1 (show i ≤ 1000000 by omega), tN]
    rw [dT (by omega), dT (by omega)]
    refine Eq.trans (lp32i m (fR r i 1) (by omega) _ _ _ _ _ _ _ (fR r i 1).length m 0 ps (by omega) (by omega) (by omega) c2) ?_
    have h5 : paE r d (i + 1) ((ps ++ prL (fS r i 0) (nmL (fR r i 1) (fR r i 1).length 0)).map Prod.fst) = 0 := by rw [List.map_append, prL_fst]; exact h4
    refine Eq.trans (lp32 m hm r hr k d n (i + 1) _ (by omega) (by omega) (by simp [prL, nmL_len]; omega) h5) ?_
    rw [flt, List.append_assoc]
theorem fn32 (m : Nat) (hm : 600 ≤ m) (r : Abs.Rows) (h : payF r = 0) {R : Type} (k : Abs.Rows → Option R) : Fn32 (m + 1) r k = k (owM (flt r r.length 0)) := by
  unfold payF at h
  have hr : ¬ 500 < r.length := fun c => by rw [if_pos c] at h; omega
  rw [if_neg hr] at h
  simp only [Fn32]
  exact lp32 m hm r (by omega) k r.length m 0 [] (by omega) (by omega) (by simp) h
/-! the first payer who has a number -/
theorem lk_app (s : ByteArray) : ∀ (a b : List (ByteArray × ByteArray)), lk s (a ++ b) = match lk s a with
    | some v => some v
    | none => lk s b
  | [], b => rfl
  | (y, v) :: a, b => by
    show (if s = y then some v else lk s (a ++ b)) = _
    rw [lk]
    by_cases h : s = y
    · rw [if_pos h, if_pos h]
    · rw [if_neg h, if_neg h]; exact lk_app s a b
theorem lk_pr (s o : ByteArray) : ∀ (l : List ByteArray), lk s (prL o l) = if s ∈ l then some o else none
  | [] => rfl
  | y :: l => by
    show (if s = y then some o else lk s (prL o l)) = _
    by_cases h : s = y
    · rw [if_pos h, if_pos (by simp [h])]
    · rw [if_neg h, lk_pr s o l]
      simp [h]
theorem nmL_mem {s : ByteArray} {q : Abs.Rows} : ∀ (d j : Nat), s ∈ nmL q d j ↔ ∃ a, j ≤ a ∧ a < j + d ∧ fS q a 0 = s
  | 0, j => by simp [nmL]; intro a _ h; omega
  | d + 1, j => by
    rw [nmL, List.mem_cons, nmL_mem d (j + 1)]
    constructor
    · rintro (h | ⟨a, h1, h2, h3⟩)
      · exact ⟨j, by omega, by omega, h.symm⟩
      · exact ⟨a, by omega, by omega, h3⟩
    · rintro ⟨a, h1, h2, h3⟩
      by_cases c : a = j
      · subst c; exact .inl h3.symm
      · exact .inr ⟨a, by omega, by omega, h3⟩
theorem lp49 (m : Nat) (q : Abs.Rows) (hq : q.length ≤ 100000) (s : ByteArray) (z : Int) {R : Type} (k : Bool → Option R) : ∀ (d n j : Nat), j + d = q.length → d < n →
    Lp49_2 m (fun i _ => k (decide (i ≥ 0))) (fun _ => k (decide ((-1 : Int) ≥ 0))) q s z q.length n j = k (decide (s ∈ nmL q d j))
  | _, 0, _, _, h => by omega
  | 0, n + 1, j, h1, h2 => by
    rw [Lp49_2]
    simp only [Lp49_2_step]
    rw [dF (by omega)]
    rfl
  | d + 1, n + 1, j, h1, h2 => by
    rw [Lp49_2]
    simp only [Lp49_2_step, wP1 (show j ≤ 1000000 by omega), tN]
    rw [dT (by omega), dT (by omega), nmL, Lib.toList_data, Lib.toList_data]
    by_cases c : s = fS q j 0
    · rw [lT (by rw [c]), decide_eq_true (show (j : Int) ≥ 0 by omega), decide_eq_true (by rw [← c]; simp)]
    · rw [lF (fun h => c (ByteArray.ext (by simpa using h)))]
      refine Eq.trans (lp49 m q hq s z k d n (j + 1) (by omega) (by omega)) ?_
      congr 1
      rw [decide_eq_decide]
      simp [c]
theorem fn39 (m : Nat) (q : Abs.Rows) (hq : q.length ≤ 500) (hm : 600 ≤ m) (s : ByteArray) {R : Type} (k : Bool → Option R) : Fn39 (m + 2) q s k = k (decide (s ∈ nmL q q.length 0)) := by
  simp only [Fn39, Fn49]
  exact lp49 m q (by omega) s 0 k q.length m 0 (by omega) (by omega)
theorem lp20 (m : Nat) (hm : 600 ≤ m) (r : Abs.Rows) (hr : r.length ≤ 500) (hc : ∀ i, i < r.length → (fR r i 1).length ≤ 500) (s s2 : ByteArray) (z : Bool) {R : Type} (k : ByteArray → Bool → Option R) : ∀ (d n i : Nat), i + d = r.length → d < n →
    Lp20_2 (m + 2) (fun s b _ => k s b) (fun _ => k ⟨#[]⟩ false) r s s2 z r r.length n i = k ((lk s (flt r d i)).getD ⟨#[]⟩) (lk s (flt r d i)).isSome
  | _, 0, _, _, h => by omega
  | 0, n + 1, i, h1, h2 => by
    rw [Lp20_2]
    simp only [Lp20_2_step]
    rw [dF (by omega)]
    rfl
  | d + 1, n + 1, i, h1, h2 => by
    rw [Lp20_2]
    simp only [Lp20_2_step, wP1 (show i ≤ 1000000 by omega), tN]
    rw [dT (by omega), dT (by omega)]
    refine Eq.trans (fn39 m (fR r i 1) (hc i (by omega)) hm s _) ?_
    rw [flt, lk_app, lk_pr]
    by_cases c : s ∈ nmL (fR r i 1) (fR r i 1).length 0
    · rw [decide_eq_true c, if_pos c]; rfl
    · rw [decide_eq_false c, if_neg c]
      exact lp20 m hm r hr hc s s2 z k d n (i + 1) (by omega) (by omega)
theorem pa_cnt {r : Abs.Rows} : ∀ (d i : Nat) (ks : List ByteArray), paE r d i ks = 0 → ∀ a, i ≤ a → a < i + d → (fR r a 1).length ≤ 500
  | 0, i, ks, _, a, h1, h2 => by omega
  | d + 1, i, ks, h4, a, h1, h2 => by
    rw [paE] at h4
    have c1 : pyF r i = 0 := by
      by_cases c : pyF r i = 0
      · exact c
      · rw [if_pos c] at h4; exact h4
    rw [if_neg (not_not_intro c1)] at h4
    have c2 : (nuE (fR r i 1) (fR r i 1).length 0 ks).1 = 0 := by
      by_cases c : (nuE (fR r i 1) (fR r i 1).length 0 ks).1 = 0
      · exact c
      · rw [if_pos c] at h4; exact h4
    rw [if_neg (not_not_intro c2)] at h4
    by_cases c : a = i
    · subst c
      have h := c1
      unfold pyF at h
      split at h
      · omega
      · split at h
        · omega
        · split at h
          · omega
          · omega
    · exact pa_cnt d (i + 1) _ h4 a (by omega) (by omega)
theorem fn20 (m : Nat) (hm : 600 ≤ m) (r : Abs.Rows) (h : payF r = 0) (s : ByteArray) {R : Type} (k : ByteArray → Bool → Option R) : Fn20 (m + 3) r s k = k ((lk s (flt r r.length 0)).getD ⟨#[]⟩) (lk s (flt r r.length 0)).isSome := by
  unfold payF at h
  have hr : ¬ 500 < r.length := fun c => by rw [if_pos c] at h; omega
  rw [if_neg hr] at h
  simp only [Fn20]
  exact lp20 m hm r (by omega) (fun i hi => pa_cnt r.length 0 [] h i (by omega) (by omega)) s _ _ k r.length (m + 2) 0 (by omega) (by omega)
end Go.Proofs.YtcoplddcbedeoaaDoor.Med
end
section
set_option linter.unusedVariables false
set_option linter.unusedSimpArgs false
set_option linter.unusedSectionVars false
namespace Go.Proofs.YtcoplddcbedeoaaDoor.Med
open Go Go.Abs Go.Proofs
set_option linter.unusedVariables false
set_option linter.unusedSimpArgs false
/-! what is drawn -/
theorem lp22 (m : Nat) (q P : Abs.Rows) (hP : P.length ≤ 100) (a c : Abs.Rows) (x1 x2 : Int) (b : Abs.Rows) : ∀ (d n i : Nat) (r : Abs.Rows) (t : Int), i + d = P.length → d < n → 0 ≤ t → t + 6 * d ≤ 100000 → r.length + d ≤ 1000 →
    ∃ (r' : Abs.Rows) (t' : Int), r'.length ≤ r.length + d ∧ t ≤ t' ∧ t' ≤ t + 6 * d ∧ ∀ (R : Type) (k : Abs.Rows → Int → Int → Option R), Lp22_3 (m + 3) k a x1 b x2 c P P.length q n r i t = k r' P.length t'
  | _, 0, _, _, _, _, h, _, _, _ => by omega
  | 0, n + 1, i, r, t, h1, h2, h3, h4, h5 => by
    refine ⟨r, t, by omega, by omega, by omega, fun R k => ?_⟩
    rw [Lp22_3]
    simp only [Lp22_3_step]
    rw [dF (by omega), show i = P.length by omega]
  | d + 1, n + 1, i, r, t, h1, h2, h3, h4, h5 => by
    have hi : i ≤ 1000000 := by omega
    by_cases c0 : nx q t % 3 = 0
    · obtain ⟨r', t', k1, k2, k3, k4⟩ := lp22 m q P hP a c x1 x2 b d n (i + 1) r (t + 1) (by omega) (by omega) (by omega) (by omega) (by omega)
      refine ⟨r', t', by omega, by omega, by omega, fun R k => ?_⟩
      rw [Lp22_3]
      simp only [Lp22_3_step, wP1 hi, tN]
      rw [dT (by omega), dT (by omega), gn23 m q h3 (by omega) (by omega) (by omega), eT c0]
      exact k4 R k
    · have key : ∃ x : List F, ∀ (R : Type) (k : Abs.Rows → Int → Int → Option R), Lp22_3 (m + 3) k a x1 b x2 c P P.length q (n + 1) r i t = Lp22_3 (m + 3) k a x1 b x2 c P P.length q n (r ++ [x]) ((i + 1 : Nat) : Int) (t + 1 + 1 + 1 + 1 + 1 + 1) := ⟨_, fun R k => by
        rw [Lp22_3]
        simp only [Lp22_3_step, wP1 hi, tN]
        rw [dT (by omega), dT (by omega), gn23 m q h3 (by omega) (by omega) (by omega), eF c0]
        rw [gn26 m q _ (by omega) (by omega) (by simp) (by simp), gn7 m q _ (by omega) (by omega) (by simp) (by simp), gn7 m q _ (by omega) (by omega) (by simp) (by simp), gn7 m q _ (by omega) (by omega) (by simp) (by simp), gn7 m q _ (by omega) (by omega) (by simp) (by simp), dT (by simp [rM]; omega)]
        rfl⟩
      obtain ⟨x, hx⟩ := key
      obtain ⟨r', t', k1, k2, k3, k4⟩ := lp22 m q P hP a c x1 x2 b d n (i + 1) (r ++ [x]) (t + 1 + 1 + 1 + 1 + 1 + 1) (by omega) (by omega) (by omega) (by omega) (by simp; omega)
      refine ⟨r', t', by simp at k1; omega, by omega, by omega, fun R k => ?_⟩
      rw [hx]
      exact k4 R k
theorem fn22 (m : Nat) (hm : 20 ≤ m) (q : Abs.Rows) {t : Int} (h0 : 0 ≤ t) (h1 : t ≤ 1000) :
    ∃ (r : Abs.Rows) (f : Int) (ins : Abs.Rows) (t' : Int), r.length ≤ 5 ∧ t ≤ t' ∧ t' ≤ t + 40 ∧ ∀ (R : Type) (k : Abs.Rows → Int → Abs.Rows → Int → Option R), Fn22 (m + 4) q t k = k r f ins t' := by
  have b1 := Int.emod_nonneg (nx q (t + 1)) (show (3 : Int) ≠ 0 by omega)
  have b2 := Int.emod_lt_of_pos (nx q (t + 1)) (show (0 : Int) < 3 by omega)
  obtain ⟨r', t', k1, k2, k3, k4⟩ := lp22 m q [[F.lit (Value.string ⟨#[]⟩)], [F.lit (Value.string ⟨#[43, 52]⟩)], [F.lit (Value.string ⟨#[43, 52, 57]⟩)], [F.lit (Value.string ⟨#[43, 52, 57, 51, 48]⟩)], [F.lit (Value.string ⟨#[43, 53]⟩)]] (by simp) rows0
    (fR [[F.lst [LT.str] rows0], [F.lst [LT.str] [[F.lit (Value.string ⟨#[104, 111, 109, 101]⟩)]]], [F.lst [LT.str] [[F.lit (Value.string ⟨#[104, 111, 109, 101]⟩)], [F.lit (Value.string ⟨#[110, 101, 97, 114]⟩)]]]] (Int.toNat (nx q (t + 1) % 3)) 0)
    0 (pk [[F.lit (Value.int IntKind.i64 (0 : Int))], [F.lit (Value.int IntKind.i64 (0 : Int))], [F.lit (Value.int IntKind.i64 (60000 : Int))], [F.lit (Value.int IntKind.i64 (90000 : Int))]] q t) rows0 5 (m + 3) 0 rows0 (t + 1 + 1) (by simp) (by omega) (by omega) (by omega) (by simp [rows0])
  refine ⟨r', ?_⟩
  apply Exists.intro
  apply Exists.intro
  refine ⟨t', by simpa [rows0] using k1, by omega, by omega, fun R k => ?_⟩
  simp only [Fn22]
  rw [gn7 m q _ (by omega) (by omega) (by simp) (by simp), gn24 (m + 1) q (by omega) (by omega) (by omega) (by omega), dT ⟨b1, by simpa using b2⟩]
  exact k4 R _
theorem fn4 (m : Nat) (hm : 20 ≤ m) (q : Abs.Rows) {t : Int} (h0 : 0 ≤ t) (h1 : t ≤ 1000) :
    ∃ (r : Abs.Rows) (f : Int) (ins : Abs.Rows) (t' : Int), r.length ≤ 6 ∧ t ≤ t' ∧ t' ≤ t + 60 ∧ ∀ (R : Type) (k : Abs.Rows → Int → Abs.Rows → Int → Option R), Fn4 (m + 5) q t k = k r f ins t' := by
  obtain ⟨r, f, ins, t1, e1, e2, e3, e4⟩ := fn22 m hm q h0 h1
  by_cases c : nx q t1 % 12 = 0
  · have b1 := Int.emod_nonneg (nx q (t1 + 1 + 1)) (show (3 : Int) ≠ 0 by omega)
    have b2 := Int.emod_lt_of_pos (nx q (t1 + 1 + 1)) (show (0 : Int) < 3 by omega)
    by_cases c0 : nx q (t1 + 1) % 3 = 0
    · obtain ⟨v, i', g1, g2, g3⟩ := gn25 m q (i := t1 + 1 + 1) (lo := 0) (hi := 100) (by omega) (by omega) (by omega) (by omega) (by omega)
      exact ⟨r, v, ins, i', by omega, by omega, by omega, fun R k => by simp only [Fn4]; rw [e4, gn23 (m + 1) q (by omega) (by omega) (by omega) (by omega), eT c, gn24 (m + 2) q (by omega) (by omega) (by omega) (by omega)]; rw [eT c0, g3]⟩
    · by_cases c1 : nx q (t1 + 1) % 3 = 1
      · refine ⟨r, f, ?_⟩
        apply Exists.intro
        refine ⟨t1 + 1 + 1 + 1, by omega, by omega, by omega, fun R k => ?_⟩
        simp only [Fn4]
        rw [e4, gn23 (m + 1) q (by omega) (by omega) (by omega) (by omega), eT c, gn24 (m + 2) q (by omega) (by omega) (by omega) (by omega)]
        rw [eF c0, eT c1, gn24 (m + 2) q (by omega) (by omega) (by omega) (by omega), dT ⟨b1, by simpa using b2⟩]
      · obtain ⟨v1, i1, g1, g2, g3⟩ := gn25 m q (i := t1 + 1 + 1 + 1 + 1) (lo := 0) (hi := 1000) (by omega) (by omega) (by omega) (by omega) (by omega)
        obtain ⟨v2, i2, g4, g5, g6⟩ := gn25 m q (i := i1) (lo := 0) (hi := 100) (by omega) (by omega) (by omega) (by omega) (by omega)
        obtain ⟨v3, i3, g7, g8, g9⟩ := gn25 m q (i := i2) (lo := 1) (hi := 100) (by omega) (by omega) (by omega) (by omega) (by omega)
        obtain ⟨v4, i4, g10, g11, g12⟩ := gn25 m q (i := i3) (lo := 0) (hi := 1000000) (by omega) (by omega) (by omega) (by omega) (by omega)
        have key : ∃ x : List F, ∀ (R : Type) (k : Abs.Rows → Int → Abs.Rows → Int → Option R), Fn4 (m + 5) q t k = k (r ++ [x]) f ins i4 := ⟨_, fun R k => by
          simp only [Fn4]
          rw [e4, gn23 (m + 1) q (by omega) (by omega) (by omega) (by omega), eT c, gn24 (m + 2) q (by omega) (by omega) (by omega) (by omega)]
          rw [eF c0, eF c1, gn26 (m + 1) q _ (by omega) (by omega) (by simp) (by simp), gn26 (m + 1) q _ (by omega) (by omega) (by simp) (by simp), g3, g6, g9, g12, dT (by simp [rM]; omega)]
          rfl⟩
        obtain ⟨x, hx⟩ := key
        exact ⟨r ++ [x], f, ins, i4, by simp; omega, by omega, by omega, hx⟩
  · refine ⟨r, f, ins, t1 + 1, by omega, by omega, by omega, fun R k => ?_⟩
    simp only [Fn4]
    rw [e4, gn23 (m + 1) q (by omega) (by omega) (by omega) (by omega), eF c]
theorem fn5 (m : Nat) (q : Abs.Rows) {t : Int} (h0 : 0 ≤ t) (h1 : t ≤ 10000) :
    ∃ (p : Abs.Rows) (t' : Int), t ≤ t' ∧ t' ≤ t + 10 ∧ ∀ (R : Type) (k : Abs.Rows → Int → Option R), Fn5 (m + 5) q t k = k p t' := by
  have b := pk_all (P := fun x => 0 ≤ x ∧ x ≤ 3) [[F.lit (Value.int IntKind.i64 (1 : Int))], [F.lit (Value.int IntKind.i64 (2 : Int))], [F.lit (Value.int IntKind.i64 (3 : Int))], [F.lit (Value.int IntKind.i64 (3 : Int))]] q t (by simp) (by decide)
  have f27 : ∃ p : Abs.Rows, p.length ≤ 3 ∧ ∀ (R : Type) (k : Abs.Rows → Int → Option R), Fn27 (m + 4) q t k = k p (t + 1) := by
    apply Exists.intro
    constructor
    rotate_left
    · intro R k
      simp only [Fn27]
      rw [gn7 m q _ (by omega) (by omega) (by simp) (by simp), dT ⟨b.1, by simpa using b.2⟩]
    · rw [List.length_take]
      exact Nat.min_le_right _ _
  obtain ⟨p, p1, p2⟩ := f27
  by_cases c : nx q (t + 1) % 12 = 0
  · have key : ∃ x : List F, ∀ (R : Type) (k : Abs.Rows → Int → Option R), Fn5 (m + 5) q t k = k (p ++ [x]) (t + 1 + 1 + 1 + 1) := ⟨_, fun R k => by
      simp only [Fn5]
      rw [p2, gn23 (m + 1) q (by omega) (by omega) (by omega) (by omega), eT c, gn26 (m + 1) q _ (by omega) (by omega) (by simp) (by simp), gn26 (m + 1) q _ (by omega) (by omega) (by simp) (by simp), dT (by simp [rM]; omega)]
      rfl⟩
    obtain ⟨x, hx⟩ := key
    exact ⟨_, _, by omega, by omega, hx⟩
  · refine ⟨p, t + 1 + 1, by omega, by omega, fun R k => ?_⟩
    simp only [Fn5]
    rw [p2, gn23 (m + 1) q (by omega) (by omega) (by omega) (by omega), eF c]
theorem fn6 (m : Nat) (q : Abs.Rows) {t : Int} (h0 : 0 ≤ t) (h1 : t ≤ 10000) :
    ∃ s : ByteArray, (ls s).length ≤ 100 ∧ ∀ (R : Type) (k : ByteArray → Int → Option R), Fn6 (m + 4) q t k = k s (t + 1 + 1) := by
  by_cases c : nx q t % 25 = 0
  · apply Exists.intro
    constructor
    rotate_left
    · intro R k
      simp only [Fn6]
      rw [gn23 m q (by omega) (by omega) (by omega) (by omega), eT c, gn26 m q _ (by omega) (by omega) (by simp) (by simp)]
    · exact pkS_all (P := fun s => (ls s).length ≤ 100) _ q (t + 1) (by simp) (by decide)
  · apply Exists.intro
    constructor
    rotate_left
    · intro R k
      simp only [Fn6]
      rw [gn23 m q (by omega) (by omega) (by omega) (by omega), eF c, gn26 m q _ (by omega) (by omega) (by simp) (by simp)]
    · exact pkS_all (P := fun s => (ls s).length ≤ 100) _ q (t + 1) (by simp) (by decide)
end Go.Proofs.YtcoplddcbedeoaaDoor.Med
end
section
set_option linter.unusedVariables false
set_option linter.unusedSimpArgs false
set_option linter.unusedSectionVars false
namespace Go.Proofs.YtcoplddcbedeoaaDoor.Med
open Go Go.Abs Go.Proofs
set_option linter.unusedVariables false
set_option linter.unusedSimpArgs false
/-! the law NumbersPriced -/
theorem tar_cl {r : Abs.Rows} {f : Int} {q : Abs.Rows} (h : tarF r f q = 0) : ∀ j, j < r.length → clF r j = 0 := by
  unfold tarF at h
  split at h
  · omega
  · split at h
    · rename_i c; exact (c h).elim
    · rename_i c
      have c : fstE (clF r) r.length 0 = 0 := Decidable.not_not.1 c
      exact fun j hj => fstE_z c j (by omega) (by omega)
theorem cl_rng {r : Abs.Rows} {j : Nat} (h : clF r j = 0) : rngP (fI r j 2) (fI r j 3) (fI r j 4) (fI r j 5) := by
  unfold clF at h
  split at h
  · omega
  · split at h
    · omega
    · split at h
      · omega
      · rename_i c; exact Decidable.not_not.1 c
theorem cls_lt {r : Abs.Rows} {l : List UInt8} {j : Nat} : ∀ (n : Nat), clsF r l n = some j → j < r.length
  | 0, h => by
    rw [clsF] at h
    have := fx_lt _ _ h
    omega
  | n + 1, h => by
    rw [clsF] at h
    cases hf : fxF r (l.take (n + 1)) r.length 0 with
    | some i =>
      rw [hf] at h
      cases h
      have := fx_lt _ _ hf
      omega
    | none =>
      rw [hf] at h
      exact cls_lt n h
theorem fn29b (m : Nat) (r : Abs.Rows) (hl : r.length ≤ 1000) (hm : 1100 ≤ m) (hs : SortP r) (s : ByteArray) (hl2 : (ls s).length ≤ 1000) (f : Int) (q : Abs.Rows) {R : Type} (k : ByteArray → ByteArray → Int → Int → Int → Int → Bool → Option R) :
    Fn29 (m + 3) r f q s k = apC r (clsF r (ls s) (ls s).length) k := (congrArg (fun x => Fn29 (m + 3) r f q x k) (bs_of s)).trans (fn29 m r hl hm hs (ls s) hl2 f q k)
theorem fn18b (m : Nat) (r : Abs.Rows) (hl : r.length ≤ 1000) (hm : 1100 ≤ m) (s : ByteArray) (hl2 : (ls s).length ≤ 1000) (f : Int) (q : Abs.Rows) {R : Type} (k : ByteArray → ByteArray → Int → Int → Int → Int → Bool → Option R) :
    Fn18 (m + 1) r f q s k = apC r (clsF r (ls s) (ls s).length) k := (congrArg (fun x => Fn18 (m + 1) r f q x k) (bs_of s)).trans (fn18 m r hl hm (ls s) hl2 f q k)
abbrev eS : ByteArray := ⟨#[]⟩
theorem fn8 (m : Nat) (hm : 1100 ≤ m) (r : Abs.Rows) (hl : r.length ≤ 1000) (f : Int) (q : Abs.Rows) (s : ByteArray) (hl2 : (ls s).length ≤ 1000) {R : Type} (k : ByteArray → ByteArray → Int → Int → Int → Int → Int → Option R) :
    Fn8 (m + 6) r f q s k = if tarF r f q ≠ 0 then k eS eS 0 0 0 0 (tarF r f q) else if numB (ls s) = false then k eS eS 0 0 0 0 3 else match clsF r (ls s) (ls s).length with
      | some j => k (fS r j 0) (fS r j 1) (fI r j 2) (fI r j 3) (fI r j 4) (fI r j 5) 0
      | none => k eS eS 0 0 0 0 8 := by
  simp only [Fn8]
  refine Eq.trans (fn16 m (by omega) r f q _) ?_
  by_cases h : tarF r f q = 0
  · rw [nF h, if_neg (not_not_intro h)]
    refine Eq.trans (fn28b (m + 1) s _) ?_
    cases c : numB (ls s) with
    | false => rfl
    | true =>
      refine Eq.trans (bF rfl) ?_
      rw [if_neg (show ¬ (true = false) by decide)]
      refine Eq.trans (fn29b (m + 2) r hl (by omega) (sort_of (tar_cl h)) s hl2 f q _) ?_
      unfold apC
      cases clsF r (ls s) (ls s).length <;> rfl
  · rw [nT h, if_pos h]
theorem fn9 (m : Nat) (hm : 1100 ≤ m) (r : Abs.Rows) (hl : r.length ≤ 1000) (f : Int) (q : Abs.Rows) (s : ByteArray) (hl2 : (ls s).length ≤ 1000) (t : Int) {R : Type} (k : Int → Int → Option R) :
    Fn9 (m + 6) r f q s t k = if tarF r f q ≠ 0 then k 0 (tarF r f q) else if numB (ls s) = false then k 0 3 else if ¬ (0 ≤ t ∧ t ≤ 86400000) then k 0 1 else match clsF r (ls s) (ls s).length with
      | some j => k (prc (fI r j 2) (fI r j 3) (fI r j 4) (fI r j 5) t) 0
      | none => k 0 8 := by
  simp only [Fn9]
  refine Eq.trans (fn16 m (by omega) r f q _) ?_
  by_cases h : tarF r f q = 0
  · rw [nF h, if_neg (not_not_intro h)]
    refine Eq.trans (fn28b (m + 1) s _) ?_
    cases c : numB (ls s) with
    | false => rfl
    | true =>
      refine Eq.trans (bF rfl) ?_
      rw [if_neg (show ¬ (true = false) by decide)]
      refine Eq.trans (fn30 (m + 4) t _ _ _) ?_
      by_cases ht : 0 ≤ t ∧ t ≤ 86400000
      · rw [decide_eq_true ht, if_neg (not_not_intro ht)]
        refine Eq.trans (bF rfl) ?_
        refine Eq.trans (fn29b (m + 2) r hl (by omega) (sort_of (tar_cl h)) s hl2 f q _) ?_
        unfold apC
        cases hc : clsF r (ls s) (ls s).length with
        | none => rfl
        | some j =>
          refine Eq.trans (bF rfl) ?_
          exact fn31 (m + 4) _ _ (cl_rng (tar_cl h j (cls_lt _ hc))) ht.1 ht.2 _
      · rw [decide_eq_false ht, if_pos ht]; rfl
  · rw [nT h, if_pos h]
theorem fn10 (m : Nat) (hm : 1100 ≤ m) (p : Abs.Rows) (s : ByteArray) {R : Type} (k : ByteArray → Bool → Int → Option R) :
    Fn10 (m + 6) p s k = if payF p ≠ 0 then k eS false (payF p) else if numB (ls s) = false then k eS false 3 else k ((lk s (flt p p.length 0)).getD eS) (lk s (flt p p.length 0)).isSome 0 := by
  simp only [Fn10]
  refine Eq.trans (fn17 m (by omega) p _) ?_
  by_cases h : payF p = 0
  · rw [nF h, if_neg (not_not_intro h)]
    refine Eq.trans (fn28b (m + 1) s _) ?_
    cases c : numB (ls s) with
    | false => rfl
    | true =>
      refine Eq.trans (bF rfl) ?_
      rw [if_neg (show ¬ (true = false) by decide)]
      refine Eq.trans (fn32 (m + 4) (by omega) p h _) ?_
      rw [owM_get, owM_has]
  · rw [nT h, if_pos h]
end Go.Proofs.YtcoplddcbedeoaaDoor.Med
end
section
set_option linter.unusedVariables false
set_option linter.unusedSimpArgs false
set_option linter.unusedSectionVars false
namespace Go.Proofs.YtcoplddcbedeoaaDoor.Med
open Go Go.Abs Go.Proofs
set_option linter.unusedVariables false
set_option linter.unusedSimpArgs false
theorem v16a (m : Nat) {R : Type} (kx0 : Int → Int → Option R) (kx1 : Int → Option R) (r : Abs.Rows) (f : Int) (q : Abs.Rows) (z : Int) (r2 : Abs.Rows) (z2 : Int) : ∀ (n : Nat) (i : Int), Lp16_5v1 m kx0 kx1 r f q z r2 z2 n i = Lp16_5 m kx0 kx1 r f q z r2 z2 n i
  | 0, i => rfl
  | n + 1, i => by
    have h : Lp16_5v1 m kx0 kx1 r f q z r2 z2 n = Lp16_5 m kx0 kx1 r f q z r2 z2 n := funext fun i => v16a m kx0 kx1 r f q z r2 z2 n i
    rw [Lp16_5v1, Lp16_5, h]
    rfl
theorem v16b (m : Nat) {R : Type} (kx0 : Int → Int → Option R) (kx1 : Int → Option R) (r : Abs.Rows) (f : Int) (q : Abs.Rows) (z : Int) (r2 : Abs.Rows) (z2 : Int) : ∀ (n : Nat) (i : Int), Lp16_26v1 m kx0 kx1 r f q z r2 z2 n i = Lp16_26 m kx0 kx1 r f q z r2 z2 n i
  | 0, i => rfl
  | n + 1, i => by
    have h : Lp16_26v1 m kx0 kx1 r f q z r2 z2 n = Lp16_26 m kx0 kx1 r f q z r2 z2 n := funext fun i => v16b m kx0 kx1 r f q z r2 z2 n i
    rw [Lp16_26v1, Lp16_26, h]
    rfl
theorem v16 (m : Nat) {R : Type} (r : Abs.Rows) (f : Int) (q : Abs.Rows) (k : Int → Option R) : Fn16v1 (m + 1) r f q k = Fn16 (m + 1) r f q k := by
  simp only [Fn16v1, Fn16, v16a, v16b]
theorem v29a (m : Nat) {R : Type} (kx0 : ByteArray → ByteArray → Int → Int → Int → Int → Bool → Int → Option R) (kx1 : Int → Option R) (s : ByteArray) (r : Abs.Rows) (f : Int) (q : Abs.Rows) (s1 s2 : ByteArray) (a b c d : Int) (z : Bool) : ∀ (n : Nat) (i : Int), Lp29_2v1 m kx0 kx1 s r f q s1 s2 a b c d z n i = Lp29_2 m kx0 kx1 s r f q s1 s2 a b c d z n i
  | 0, i => rfl
  | n + 1, i => by
    have h : Lp29_2v1 m kx0 kx1 s r f q s1 s2 a b c d z n = Lp29_2 m kx0 kx1 s r f q s1 s2 a b c d z n := funext fun i => v29a m kx0 kx1 s r f q s1 s2 a b c d z n i
    rw [Lp29_2v1, Lp29_2, h]
    rfl
theorem v29 (m : Nat) {R : Type} (r : Abs.Rows) (f : Int) (q : Abs.Rows) (s : ByteArray) (k : ByteArray → ByteArray → Int → Int → Int → Int → Bool → Option R) : Fn29v1 (m + 1) r f q s k = Fn29 (m + 1) r f q s k := by
  simp only [Fn29v1, Fn29, v29a]
theorem v9 (m : Nat) {R : Type} (r : Abs.Rows) (f : Int) (q : Abs.Rows) (s : ByteArray) (t : Int) (k : Int → Int → Option R) : Fn9v1 (m + 2) r f q s t k = Fn9 (m + 2) r f q s t k := by
  simp only [Fn9v1, Fn9, v16, v29]
def rowX : Abs.Rows := [[F.lit (Value.string ⟨#[43, 49]⟩), F.lit (Value.string ⟨#[97]⟩), F.lit (Value.int IntKind.i64 0), F.lit (Value.int IntKind.i64 0), F.lit (Value.int IntKind.i64 1000), F.lit (Value.int IntKind.i64 7)]]
theorem tX : tarF rowX 0 rows0 = 0 := by decide
theorem nX : numB (ls ⟨#[43, 49, 50, 48, 48]⟩) = true := by decide
theorem cX : clsF rowX (ls ⟨#[43, 49, 50, 48, 48]⟩) (ls ⟨#[43, 49, 50, 48, 48]⟩).length = some 0 := by decide
theorem fn21 (m : Nat) (hm : 1100 ≤ m) {R : Type} (k : Bool → Option R) : Fn21 (m + 40) k = k true := by
  simp only [Fn21]
  refine Eq.trans (v9 (m + 37) rowX 0 rows0 ⟨#[43, 49, 50, 48, 48]⟩ 1500 _) ?_
  refine Eq.trans (fn9 (m + 33) (by omega) rowX (by decide) 0 rows0 ⟨#[43, 49, 50, 48, 48]⟩ (by decide) 1500 _) ?_
  rw [if_neg (not_not_intro tX), if_neg (by rw [nX]; decide), if_neg (by decide), cX]
  rfl
theorem j20 (m : Nat) (hm : 1100 ≤ m) (a b : Bool) (x c1 c2 : ByteArray) (c3 c4 c5 c6 e mm f g : Int) {R : Type} (K : Bool → Option R) : Jn3_20 (m + 40) (fun b => K b) a c1 c2 c3 c4 c5 c6 e mm f x b g e f g c1 c2 c3 c4 c5 c6 mm x b = K true := by
  simp only [Jn3_20]
  rw [eT rfl, bT (by simp), eT rfl, eT rfl, eT rfl, lT rfl, bT (by simp)]
  exact fn21 m hm _
end Go.Proofs.YtcoplddcbedeoaaDoor.Med
end
section
set_option linter.unusedVariables false
set_option linter.unusedSimpArgs false
set_option linter.unusedSectionVars false
namespace Go.Proofs.YtcoplddcbedeoaaDoor.Med
open Go Go.Abs Go.Proofs
set_option linter.unusedVariables false
set_option linter.unusedSimpArgs false
theorem j18 (m : Nat) (hm : 1100 ≤ m) (z : Bool) (p : Abs.Rows) (s c1 c2 : ByteArray) (c3 c4 c5 c6 e mm f : Int) (w : ByteArray) (ok : Bool) (g : Int)
    (h7 : g = 0 → ∀ (R : Type) (k : ByteArray → Bool → Option R), Fn20 (m + 40) p s k = k w ok) (h8 : g ≠ 0 → w = eS ∧ ok = false) {R : Type} (K : Bool → Option R) :
    Jn3_18 (m + 40) (fun b _ _ => K b) z p s c1 c2 c3 c4 c5 c6 e mm f w ok g e f g c1 c2 c3 c4 c5 c6 mm eS false = K true := by
  simp only [Jn3_18]
  by_cases c : g = 0
  · rw [eT c, h7 c]
    exact j20 m hm _ _ _ _ _ _ _ _ _ _ _ _ _ K
  · obtain ⟨rfl, rfl⟩ := h8 c
    rw [eF c]
    exact j20 m hm _ _ _ _ _ _ _ _ _ _ _ _ _ K
/-- the end: what was answered is what is wanted -/
theorem jn3_16 (m : Nat) (hm : 1100 ≤ m) (z : Bool) (p : Abs.Rows) (s : ByteArray) (t : Int) (c1 c2 : ByteArray) (c3 c4 c5 c6 e mm f : Int) (w : ByteArray) (ok : Bool) (g : Int) (q1 q2 : ByteArray) (q3 q4 q5 q6 : Int)
    (h4 : f = 0 → ∀ (R : Type) (k : Int → Option R), Fn19 (m + 40) q1 q2 q3 q4 q5 q6 t k = k mm) (h5 : f ≠ 0 → mm = 0)
    (h7 : g = 0 → ∀ (R : Type) (k : ByteArray → Bool → Option R), Fn20 (m + 40) p s k = k w ok) (h8 : g ≠ 0 → w = eS ∧ ok = false) {R : Type} (K : Bool → Option R) :
    Jn3_16 (m + 40) (fun b _ _ _ => K b) z p s t c1 c2 c3 c4 c5 c6 e mm f w ok g e f g q1 q2 q3 q4 q5 q6 c1 c2 c3 c4 c5 c6 0 eS false = K true := by
  simp only [Jn3_16]
  by_cases c : f = 0
  · rw [eT c, h4 c]
    exact j18 m hm _ _ _ _ _ _ _ _ _ _ _ _ _ _ _ h7 h8 K
  · have := h5 c
    subst this
    rw [eF c]
    exact j18 m hm _ _ _ _ _ _ _ _ _ _ _ _ _ _ _ h7 h8 K
/-- what is wanted of the class, of the price -/
def noC (o : Option Nat) : Int := if o.isSome = true then 0 else 8
theorem ei2 (a b : Int) : ([[F.lit (Value.int IntKind.i64 a)], [F.lit (Value.int IntKind.i64 b)]] : Abs.Rows) = ei [a, b] := rfl
theorem ei3 (a b c : Int) : ([[F.lit (Value.int IntKind.i64 a)], [F.lit (Value.int IntKind.i64 b)], [F.lit (Value.int IntKind.i64 c)]] : Abs.Rows) = ei [a, b, c] := rfl
def fmF (s : ByteArray) : Int := if (!numB (ls s)) = true then 3 else 0
/-- are these the class that is wanted? -/
def isC (r : Abs.Rows) (o : Option Nat) (e : Int) (c1 c2 : ByteArray) (c3 c4 c5 c6 : Int) : Prop := (e ≠ 0 → c1 = eS ∧ c2 = eS ∧ c3 = 0 ∧ c4 = 0 ∧ c5 = 0 ∧ c6 = 0) ∧
  (e = 0 → ∃ j, o = some j ∧ c1 = fS r j 0 ∧ c2 = fS r j 1 ∧ c3 = fI r j 2 ∧ c4 = fI r j 3 ∧ c5 = fI r j 4 ∧ c6 = fI r j 5)
theorem jn3_10 (m : Nat) (hm : 1100 ≤ m) (z : Bool) (r : Abs.Rows) (f : Int) (ins p : Abs.Rows) (s : ByteArray) (t : Int) (c1 c2 : ByteArray) (c3 c4 c5 c6 mm : Int) (w : ByteArray) (ok : Bool) (g one two : Int) (o : Option Nat)
    (x18 : ∀ (R : Type) (k : ByteArray → ByteArray → Int → Int → Int → Int → Bool → Option R), Fn18 (m + 40) r f ins s k = apC r o k)
    (hc : isC r o (nz [one, noC o]) c1 c2 c3 c4 c5 c6)
    (h4 : nz [two, noC o] = 0 → ∀ j, o = some j → ∀ (R : Type) (k : Int → Option R), Fn19 (m + 40) (fS r j 0) (fS r j 1) (fI r j 2) (fI r j 3) (fI r j 4) (fI r j 5) t k = k mm) (h5 : nz [two, noC o] ≠ 0 → mm = 0)
    (h7 : g = 0 → ∀ (R : Type) (k : ByteArray → Bool → Option R), Fn20 (m + 40) p s k = k w ok) (h8 : g ≠ 0 → w = eS ∧ ok = false) {R : Type} (K : Bool → Option R) :
    Jn3_10 (m + 40) (fun b _ _ => K b) z r f ins p s t c1 c2 c3 c4 c5 c6 (nz [one, noC o]) mm (nz [two, noC o]) w ok g one two g = K true := by
  simp only [Jn3_10]
  rw [x18]
  cases o with
  | none =>
    have e8 : noC none = 8 := rfl
    rw [e8] at *
    simp only [apC]
    refine Eq.trans (fn11 (m + 39) (!false) 8 _) ?_
    rw [if_pos (show (!false) = true from rfl), ei2]
    refine Eq.trans (fn13 (m + 39) [one, 8] (by simp) (by omega) _) ?_
    rw [ei2]
    refine Eq.trans (fn13 (m + 39) [two, 8] (by simp) (by omega) _) ?_
    have hone : nz [one, 8] ≠ 0 := by simp [nz]; omega
    have htwo : nz [two, 8] ≠ 0 := by simp [nz]; omega
    obtain ⟨rfl, rfl, rfl, rfl, rfl, rfl⟩ := hc.1 hone
    rw [eF hone]
    exact jn3_16 m hm _ _ _ _ _ _ _ _ _ _ _ _ _ _ _ _ _ _ _ _ _ _ (fun h => (htwo h).elim) h5 h7 h8 K
  | some j =>
    have e8 : noC (some j) = 0 := rfl
    rw [e8] at *
    simp only [apC]
    refine Eq.trans (fn11 (m + 39) (!true) 8 _) ?_
    rw [if_neg (show ¬ (!true) = true by decide), ei2]
    refine Eq.trans (fn13 (m + 39) [one, 0] (by simp) (by omega) _) ?_
    rw [ei2]
    refine Eq.trans (fn13 (m + 39) [two, 0] (by simp) (by omega) _) ?_
    by_cases hone : nz [one, 0] = 0
    · obtain ⟨j', hj, rfl, rfl, rfl, rfl, rfl, rfl⟩ := hc.2 hone
      cases hj
      rw [eT hone]
      exact jn3_16 m hm _ _ _ _ _ _ _ _ _ _ _ _ _ _ _ _ _ _ _ _ _ _ (fun h => h4 h j rfl) h5 h7 h8 K
    · obtain ⟨rfl, rfl, rfl, rfl, rfl, rfl⟩ := hc.1 hone
      rw [eF hone]
      exact jn3_16 m hm _ _ _ _ _ _ _ _ _ _ _ _ _ _ _ _ _ _ _ _ _ _ (fun h => h4 h j rfl) h5 h7 h8 K
theorem r8 (m : Nat) (hm : 1100 ≤ m) (r : Abs.Rows) (hl : r.length ≤ 1000) (f : Int) (q : Abs.Rows) (s : ByteArray) (hl2 : (ls s).length ≤ 1000) : ∃ (c1 c2 : ByteArray) (c3 c4 c5 c6 : Int),
    isC r (clsF r (ls s) (ls s).length) (nz [nz [tarF r f q, fmF s], noC (clsF r (ls s) (ls s).length)]) c1 c2 c3 c4 c5 c6 ∧
    ∀ (R : Type) (k : ByteArray → ByteArray → Int → Int → Int → Int → Int → Option R), Fn8 (m + 6) r f q s k = k c1 c2 c3 c4 c5 c6 (nz [nz [tarF r f q, fmF s], noC (clsF r (ls s) (ls s).length)]) := by
  have h := fun (R : Type) (k : ByteArray → ByteArray → Int → Int → Int → Int → Int → Option R) => fn8 m hm r hl f q s hl2 k
  unfold fmF
  by_cases hT : tarF r f q = 0
  · simp only [hT, ne_eq, not_true, if_false] at h
    cases hB : numB (ls s) with
    | false =>
      simp only [hB, if_true] at h
      have e : ∀ y, nz [nz [tarF r f q, if (!false) = true then 3 else 0], y] = 3 := fun y => by simp [nz, hT]
      rw [e]
      exact ⟨_, _, _, _, _, _, ⟨fun _ => ⟨rfl, rfl, rfl, rfl, rfl, rfl⟩, fun h => by omega⟩, h⟩
    | true =>
      simp only [hB, Bool.true_eq_false, if_false] at h
      cases hc : clsF r (ls s) (ls s).length with
      | none =>
        simp only [hc] at h
        have e : nz [nz [tarF r f q, if (!true) = true then 3 else 0], noC none] = 8 := by simp [nz, hT, noC]
        rw [e]
        exact ⟨_, _, _, _, _, _, ⟨fun _ => ⟨rfl, rfl, rfl, rfl, rfl, rfl⟩, fun h => by omega⟩, h⟩
      | some j =>
        simp only [hc] at h
        have e : nz [nz [tarF r f q, if (!true) = true then 3 else 0], noC (some j)] = 0 := by simp [nz, hT, noC]
        rw [e]
        exact ⟨_, _, _, _, _, _, ⟨fun h => (h rfl).elim, fun _ => ⟨j, rfl, rfl, rfl, rfl, rfl, rfl, rfl⟩⟩, h⟩
  · simp only [ne_eq, hT, not_false_eq_true, if_true] at h
    have e : ∀ x y, nz [nz [tarF r f q, x], y] = tarF r f q := fun x y => by simp [nz, hT]
    rw [e]
    exact ⟨_, _, _, _, _, _, ⟨fun _ => ⟨rfl, rfl, rfl, rfl, rfl, rfl⟩, fun h => (hT h).elim⟩, h⟩
def arF (t : Int) : Int := if 0 ≤ t ∧ t ≤ 86400000 then 0 else 1
theorem r9 (m : Nat) (hm : 1100 ≤ m) (r : Abs.Rows) (hl : r.length ≤ 1000) (f : Int) (q : Abs.Rows) (s : ByteArray) (hl2 : (ls s).length ≤ 1000) (t : Int) : ∃ mm : Int,
    (nz [nz [tarF r f q, fmF s, arF t], noC (clsF r (ls s) (ls s).length)] = 0 → ∀ j, clsF r (ls s) (ls s).length = some j → ∀ (m' : Nat) (R : Type) (k : Int → Option R), Fn19 (m' + 1) (fS r j 0) (fS r j 1) (fI r j 2) (fI r j 3) (fI r j 4) (fI r j 5) t k = k mm) ∧
    (nz [nz [tarF r f q, fmF s, arF t], noC (clsF r (ls s) (ls s).length)] ≠ 0 → mm = 0) ∧
    ∀ (R : Type) (k : Int → Int → Option R), Fn9 (m + 6) r f q s t k = k mm (nz [nz [tarF r f q, fmF s, arF t], noC (clsF r (ls s) (ls s).length)]) := by
  have h := fun (R : Type) (k : Int → Int → Option R) => fn9 m hm r hl f q s hl2 t k
  unfold fmF arF
  by_cases hT : tarF r f q = 0
  · simp only [hT, ne_eq, not_true, if_false] at h
    cases hB : numB (ls s) with
    | false =>
      simp only [hB, if_true] at h
      have e : ∀ x y, nz [nz [tarF r f q, if (!false) = true then 3 else 0, x], y] = 3 := fun x y => by simp [nz, hT]
      rw [e]
      exact ⟨_, fun h => by omega, fun _ => rfl, h⟩
    | true =>
      simp only [hB, Bool.true_eq_false, if_false] at h
      by_cases ht : 0 ≤ t ∧ t ≤ 86400000
      · simp only [ht, and_self, not_true, if_false] at h
        cases hc : clsF r (ls s) (ls s).length with
        | none =>
          simp only [hc] at h
          have e : nz [nz [tarF r f q, if (!true) = true then 3 else 0, if 0 ≤ t ∧ t ≤ 86400000 then 0 else 1], noC none] = 8 := by simp [nz, hT, ht, noC]
          rw [e]
          exact ⟨_, fun h => by omega, fun _ => rfl, h⟩
        | some j =>
          simp only [hc] at h
          have e : nz [nz [tarF r f q, if (!true) = true then 3 else 0, if 0 ≤ t ∧ t ≤ 86400000 then 0 else 1], noC (some j)] = 0 := by simp [nz, hT, ht, noC]
          rw [e]
          refine ⟨_, ?_, fun h => (h rfl).elim, h⟩
          intro _ j' hj m' R k
          cases hj
          exact fn19 m' _ _ (cl_rng (tar_cl hT j (cls_lt _ hc))) ht.1 ht.2 k
      · simp only [ht, not_false_eq_true, if_true] at h
        have e : ∀ y, nz [nz [tarF r f q, if (!true) = true then 3 else 0, if 0 ≤ t ∧ t ≤ 86400000 then 0 else 1], y] = 1 := fun y => by simp [nz, hT, ht]
        rw [e]
        exact ⟨_, fun h => by omega, fun _ => rfl, h⟩
  · simp only [ne_eq, hT, not_false_eq_true, if_true] at h
    have e : ∀ x y z, nz [nz [tarF r f q, x, y], z] = tarF r f q := fun x y z => by simp [nz, hT]
    rw [e]
    exact ⟨_, fun h => (hT h).elim, fun _ => rfl, h⟩
theorem r10 (m : Nat) (hm : 1100 ≤ m) (p : Abs.Rows) (s : ByteArray) : ∃ (w : ByteArray) (ok : Bool),
    (nz [payF p, fmF s] = 0 → ∀ (m' : Nat) (_ : 600 ≤ m') (R : Type) (k : ByteArray → Bool → Option R), Fn20 (m' + 3) p s k = k w ok) ∧ (nz [payF p, fmF s] ≠ 0 → w = eS ∧ ok = false) ∧
    ∀ (R : Type) (k : ByteArray → Bool → Int → Option R), Fn10 (m + 6) p s k = k w ok (nz [payF p, fmF s]) := by
  have h := fun (R : Type) (k : ByteArray → Bool → Int → Option R) => fn10 m hm p s k
  unfold fmF
  by_cases hP : payF p = 0
  · simp only [hP, ne_eq, not_true, if_false] at h
    cases hB : numB (ls s) with
    | false =>
      simp only [hB, if_true] at h
      have e : nz [payF p, if (!false) = true then 3 else 0] = 3 := by simp [nz, hP]
      rw [e]
      exact ⟨_, _, fun h => by omega, fun _ => ⟨rfl, rfl⟩, h⟩
    | true =>
      simp only [hB, Bool.true_eq_false, if_false] at h
      have e : nz [payF p, if (!true) = true then 3 else 0] = 0 := by simp [nz, hP]
      rw [e]
      refine ⟨_, _, ?_, fun h => (h rfl).elim, h⟩
      intro _ m' hm' R k
      exact fn20 m' hm' p hP s k
  · simp only [ne_eq, hP, not_false_eq_true, if_true] at h
    have e : ∀ x, nz [payF p, x] = payF p := fun x => by simp [nz, hP]
    rw [e]
    exact ⟨_, _, fun h => (hP h).elim, fun _ => ⟨rfl, rfl⟩, h⟩
end Go.Proofs.YtcoplddcbedeoaaDoor.Med
end
section
set_option linter.unusedVariables false
set_option linter.unusedSimpArgs false
set_option linter.unusedSectionVars false
namespace Go.Proofs.YtcoplddcbedeoaaDoor.Med
open Go Go.Abs Go.Proofs
set_option linter.unusedVariables false
set_option linter.unusedSimpArgs false
theorem fn3a (M : Nat) (hM : 2000 ≤ M) (q : Abs.Rows) {R : Type} (k : Bool → Option R) : Fn3 (M + 60) q k = k true := by
  obtain ⟨r, f, ins, t1, a1, a2, a3, e4⟩ := fn4 (M + 54) (by omega) q (t := 0) (by omega) (by omega)
  obtain ⟨p, t2, a4, a5, e5⟩ := fn5 (M + 54) q (t := t1) (by omega) (by omega)
  obtain ⟨s, hs, e6⟩ := fn6 (M + 55) q (t := t2) (by omega) (by omega)
  have e7 : ∃ t : Int, ∀ (R : Type) (k : Int → Int → Option R), Fn7 (M + 59) q (t2 + 1 + 1) [[F.lit (Value.int IntKind.i64 (0 : Int))], [F.lit (Value.int IntKind.i64 (1 : Int))], [F.lit (Value.int IntKind.i64 (1000 : Int))], [F.lit (Value.int IntKind.i64 (60000 : Int))], [F.lit (Value.int IntKind.i64 (60001 : Int))], [F.lit (Value.int IntKind.i64 (61500 : Int))], [F.lit (Value.int IntKind.i64 (86400000 : Int))], [F.lit (Value.int IntKind.i64 (-1 : Int))], [F.lit (Value.int IntKind.i64 (86400001 : Int))]] k = k t (t2 + 1 + 1 + 1) :=
    ⟨_, fun R k => gn7 (M + 56) q (i := t2 + 1 + 1) _ (by omega) (by omega) (by simp) (by simp)⟩
  obtain ⟨t, e7⟩ := e7
  obtain ⟨c1, c2, c3, c4, c5, c6, hc, x8⟩ := r8 (M + 53) (by omega) r (by omega) f ins s (by omega)
  obtain ⟨mm, m1, m2, x9⟩ := r9 (M + 53) (by omega) r (by omega) f ins s (by omega) t
  obtain ⟨w, ok, w1, w2, x10⟩ := r10 (M + 53) (by omega) p s
  have x18 := fun (R : Type) (k : ByteArray → ByteArray → Int → Int → Int → Int → Bool → Option R) => fn18b (M + 58) r (by omega) (by omega) s (by omega) f ins k
  have j7 : ∀ (z : Bool) (kx0 : Bool → Option R), Jn3_7 (M + 59) (fun b => k b) (fun b _ _ => k b) z r f ins p s t c1 c2 c3 c4 c5 c6 (nz [nz [tarF r f ins, fmF s], noC (clsF r (ls s) (ls s).length)]) mm (nz [nz [tarF r f ins, fmF s, arF t], noC (clsF r (ls s) (ls s).length)]) w ok (nz [payF p, fmF s]) (nz [tarF r f ins, fmF s]) (nz [tarF r f ins, fmF s, arF t]) (nz [payF p, fmF s]) = k true := by
    intro z _
    simp only [Jn3_7]
    refine Eq.trans (fn16 (M + 54) (by omega) r f ins _) ?_
    refine Eq.trans (fn14 (M + 54) (by omega) r f ins _) ?_
    rw [nF rfl]
    refine Eq.trans (fn17 (M + 54) (by omega) p _) ?_
    refine Eq.trans (fn15 (M + 54) (by omega) p _) ?_
    rw [nF rfl]
    exact jn3_10 (M + 19) (by omega) z r f ins p s t c1 c2 c3 c4 c5 c6 mm w ok _ _ _ _ x18 hc (fun h j hj R k => m1 h j hj (M + 58) R k) m2 (fun h R k => w1 h (M + 56) (by omega) R k) w2 k
  simp only [Fn3]
  rw [e4, e5, e6, e7, x8, x9, x10]
  refine Eq.trans (fn12b (M + 55) (by omega) s _) ?_
  refine Eq.trans (fn11 (M + 58) _ _ _) ?_
  refine Eq.trans (fn14 (M + 54) (by omega) r f ins _) ?_
  rw [ei2]
  refine Eq.trans (fn13 (M + 58) [tarF r f ins, fmF s] (by simp) (by omega) _) ?_
  refine Eq.trans (fn14 (M + 54) (by omega) r f ins _) ?_
  by_cases ht : t < 0
  · rw [dT ht]
    refine Eq.trans (fn11 (M + 58) _ _ _) ?_
    rw [if_pos rfl]
    have ha : arF t = 1 := by unfold arF; rw [if_neg (by omega)]
    rw [ha] at j7 m1 m2
    rw [ei3]
    refine Eq.trans (fn13 (M + 58) [tarF r f ins, fmF s, 1] (by simp) (by omega) _) ?_
    refine Eq.trans (fn15 (M + 54) (by omega) p _) ?_
    rw [ei2]
    refine Eq.trans (fn13 (M + 58) [payF p, fmF s] (by simp) (by omega) _) ?_
    rw [ha]
    exact j7 false k
  · rw [dF ht]
    refine Eq.trans (fn11 (M + 58) _ _ _) ?_
    have ha : arF t = (if decide (t > 86400000) = true then 1 else 0) := by
      unfold arF
      by_cases h : t > 86400000
      · rw [if_neg (by omega), if_pos (decide_eq_true h)]
      · rw [if_pos (by omega), if_neg (by simpa using h)]
    rw [← ha, ei3]
    refine Eq.trans (fn13 (M + 58) [tarF r f ins, fmF s, arF t] (by simp) (by omega) _) ?_
    refine Eq.trans (fn15 (M + 54) (by omega) p _) ?_
    rw [ei2]
    refine Eq.trans (fn13 (M + 58) [payF p, fmF s] (by simp) (by omega) _) ?_
    exact j7 false k
theorem fn3 (m : Nat) (q : Abs.Rows) {R : Type} (k : Bool → Option R) : Fn3 (m + 2000 + 60) q k = k true := fn3a (m + 2000) (by omega) q k
end Go.Proofs.YtcoplddcbedeoaaDoor.Med
end
section
set_option linter.unusedVariables false
set_option linter.unusedSimpArgs false
set_option linter.unusedSectionVars false
namespace Go.Proofs.YtcoplddcbedeoaaDoor.Med
open Go Go.Abs Go.Proofs Go.RowKit
theorem fn3_ok (rows : Abs.Rows) (m : Nat) (h : ∀ (R : Type) (k : Bool → Option R), Fn3 m rows k = k true) : FnOk Tryd.prog 3 [.f (.lst [.int .i64] rows)] (vBool true) [.undef] := by
  refine law_of (okT51 m) fun R k => ?_
  exact h R _
theorem globN (w : World) : GlobOk fun b => w.heap[b]? := fun g ts rows e => by cases e
theorem walk3 (w : World) (a : Option Addr) (len cap : Nat) (zs : List Int) (h : IsInts .i64 w a len cap zs) :
    Calls Tryd.prog 3 #[.slice a len cap] w fun e w' => e = .returned (.bool true) ∧ Below w.heap.size w w' := by
  obtain ⟨body, hb⟩ : ∃ b, Tryd.f3.body = some b := ⟨_, rfl⟩
  exact law_calls Tryd.func3 (by kernel_rfl) hb h (globN w) (fn3_ok _ (0 + 2000 + 60) fun R k => fn3 0 _ k)
end Go.Proofs.YtcoplddcbedeoaaDoor.Med
end
