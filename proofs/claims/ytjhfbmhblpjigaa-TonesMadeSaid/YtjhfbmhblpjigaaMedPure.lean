/- A part of the proofs of the seat Ytjhfbmhblpjigaa: no statement of the seat stands here. -/
import Derived.Test.YtjhfbmhblpjigaaRows
import Derived.Test.YtjhfbmhblpjigaaMedTyped
section
set_option linter.unusedVariables false
set_option linter.unusedSimpArgs false
namespace Go.Proofs.Ytjhfbmhblpjigaa.Med
open Go Go.Abs Go.Proofs
set_option linter.unusedVariables false
set_option linter.unusedSimpArgs false
section
variable {α : Type} {a b : α}
theorem dT {p : Prop} [Decidable p] (h : p) : (bif decide p then a else b) = a := by rw [decide_eq_true h]; rfl
theorem dF {p : Prop} [Decidable p] (h : ¬p) : (bif decide p then a else b) = b := by rw [decide_eq_false h]; rfl
theorem eT {x y : Int} (h : x = y) : (bif x == y then a else b) = a := by simp [h]
theorem nT {x y : Int} (h : ¬ x = y) : (bif x != y then a else b) = a := by rw [bne_iff_ne.2 h]; rfl
theorem nF {x y : Int} (h : x = y) : (bif x != y then a else b) = b := by subst h; rw [bne_self_eq_false]; rfl
theorem eF {x y : Int} (h : ¬ x = y) : (bif x == y then a else b) = b := by rw [beq_false_of_ne h]; rfl
theorem andC {p q : Bool} : (bif p && q then a else b) = bif p then (bif q then a else b) else b := by cases p <;> rfl
theorem orC {p q : Bool} : (bif p || q then a else b) = bif p then a else (bif q then a else b) := by cases p <;> rfl
theorem notC {p : Bool} : (bif !p then a else b) = bif p then b else a := by cases p <;> rfl
theorem bT {c : Bool} (h : c = true) : (bif c then a else b) = a := by subst h; rfl
theorem bF {c : Bool} (h : c = false) : (bif c then a else b) = b := by subst h; rfl
end
theorem w64 {x : Int} (h0 : -9223372036854775808 ≤ x) (h1 : x < 9223372036854775808) : IntKind.wrap .i64 x = x := by
  rw [IntKind.wrap_i64]; omega
theorem w64b (x : Int) : -9223372036854775808 ≤ IntKind.wrap .i64 x ∧ IntKind.wrap .i64 x < 9223372036854775808 := by
  rw [IntKind.wrap_i64]; omega
theorem w8 {x : Int} (h0 : 0 ≤ x) (h1 : x < 256) : IntKind.wrap .u8 x = x := by
  rw [IntKind.wrap_u8]; omega
theorem w8b (x : Int) : 0 ≤ IntKind.wrap .u8 x ∧ IntKind.wrap .u8 x < 256 := by
  rw [IntKind.wrap_u8]; omega
theorem rM : rowMax = 1073741824 := rfl
theorem tm_pos {x y : Int} (h : 0 ≤ x) : Int.tmod x y = x % y := Int.tmod_eq_emod_of_nonneg h
theorem td_pos {x y : Int} (h : 0 ≤ x) : Int.tdiv x y = x / y := Int.tdiv_eq_ediv_of_nonneg h
/-- a row of one whole number -/
theorem stR1 (t : LT) (r : Abs.Rows) (i : Nat) (x : F) : stR [t] r i 0 [x] = r.set i [x] := rfl
theorem fI_set {r : Abs.Rows} {i : Nat} {k : IntKind} {n : Int} (h : i < r.length) : fI (r.set i [F.lit (.int k n)]) i 0 = n := by
  simp [fI, dropF, Abs.rowAt, List.getD_eq_getElem?_getD, h, F.toInt]
theorem fI_set_ne {r : Abs.Rows} {i j : Nat} {x : List F} (h : i ≠ j) : fI (r.set i x) j 0 = fI r j 0 := by
  simp [fI, dropF, Abs.rowAt, List.getD_eq_getElem?_getD, List.getElem?_set_ne h]
theorem fI_app {r : Abs.Rows} {k : IntKind} {n : Int} : fI (r ++ [[F.lit (.int k n)]]) r.length 0 = n := by
  simp [fI, dropF, Abs.rowAt, List.getD_eq_getElem?_getD, F.toInt]
theorem fI_app_lt {r s : Abs.Rows} {i : Nat} (h : i < r.length) : fI (r ++ s) i 0 = fI r i 0 := by
  simp [fI, dropF, Abs.rowAt, List.getD_eq_getElem?_getD, List.getElem?_append_left h]
/-! lists that are made place by place -/
def mk (t : IntKind) (g : Nat → Int) (n : Nat) : Abs.Rows := (List.range n).map fun j => [F.lit (.int t (g j))]
theorem mk_len (t : IntKind) (g : Nat → Int) (n : Nat) : (mk t g n).length = n := by simp [mk]
theorem mk_succ (t : IntKind) (g : Nat → Int) (n : Nat) : mk t g (n + 1) = mk t g n ++ [[F.lit (.int t (g n))]] := by simp [mk, List.range_succ]
theorem mk_set (t : IntKind) (g : Nat → Int) (n d : Nat) (z : List F) : (mk t g n ++ List.replicate (d + 1) z).set n [F.lit (.int t (g n))] = mk t g (n + 1) ++ List.replicate d z := by
  rw [mk_succ, List.set_append_right _ _ (by simp [mk_len]), mk_len, Nat.sub_self, List.replicate_succ, List.set_cons_zero]
  simp
theorem mk_fI (t : IntKind) (g : Nat → Int) {n i : Nat} (h : i < n) : fI (mk t g n) i 0 = g i := by
  simp [fI, dropF, Abs.rowAt, List.getD_eq_getElem?_getD, mk, h, F.toInt]
def Byt (x : Int) : Prop := 0 ≤ x ∧ x < 256
end Go.Proofs.Ytjhfbmhblpjigaa.Med
end
section
set_option linter.unusedVariables false
set_option linter.unusedSimpArgs false
namespace Go.Proofs.Ytjhfbmhblpjigaa.Med
open Go Go.Abs Go.Proofs
set_option linter.unusedVariables false
set_option linter.unusedSimpArgs false
theorem fn93 (m : Nat) {x y : Int} (hy : 1 ≤ y) (hy2 : y ≤ 1099511627776) {R : Type} {k : Int → Option R} : Fn93 (m + 1) x y k = k (x % y) := by
  have h2 : Int.tmod x y = x % y ∨ (Int.tmod x y + y = x % y ∧ Int.tmod x y < 0 ∧ -y < Int.tmod x y) := by
    by_cases h : 0 ≤ x
    · exact .inl (Int.tmod_eq_emod_of_nonneg h)
    · have h3 := Int.tmod_eq_emod (a := x) (b := y)
      have h4 := Int.emod_nonneg x (show y ≠ 0 by omega)
      have h5 := Int.emod_lt_of_pos x (show 0 < y by omega)
      by_cases hd : y ∣ x
      · left; rw [h3]; simp [hd]
      · right
        have h6 : Int.tmod x y = x % y - y := by
          rw [h3, if_neg (by simp; exact ⟨by omega, hd⟩)]
          omega
        have h7 : x % y ≠ 0 := fun h => hd (Int.dvd_of_emod_eq_zero h)
        omega
  have h4 := Int.emod_nonneg x (show y ≠ 0 by omega)
  simp only [Fn93]
  rw [dF (by omega), dT (by omega)]
  rcases h2 with h2 | ⟨h2, h3, h5⟩
  · rw [dF (by omega), h2]
  · rw [dT h3, w64 (by omega) (by omega), h2]
def nx (r : Abs.Rows) (i : Int) : Int := if (r.length : Int) = 0 then IntKind.wrap .i64 ((i + 1) * 7919) else
  IntKind.wrap IntKind.i64 (fI r (Int.toNat (Int.tmod i (r.length : Int))) 0 % 1073741824 + IntKind.wrap IntKind.i64 (IntKind.wrap IntKind.i64 (Int.tdiv i (r.length : Int)) * IntKind.wrap IntKind.i64 (7919 + Int.tmod i (r.length : Int))))
theorem fn59 (m : Nat) (r : Abs.Rows) {i n : Int} (h0 : 0 ≤ i) (h1 : i ≤ 1099511627776) (hn : 1 ≤ n) (hn2 : n ≤ 1099511627776) {R : Type} {k : Int → Int → Option R} :
    Fn59 (m + 2) r i n k = k (nx r i % n) (i + 1) := by
  have e1 : IntKind.wrap .i64 (i + 1) = i + 1 := w64 (by omega) (by omega)
  have e2 : IntKind.wrap .i64 (i + 1 - 1) = i := by rw [show i + 1 - 1 = i by omega]; exact w64 (by omega) (by omega)
  by_cases hr : (r.length : Int) = 0
  · simp only [Fn59, e1, nx, hr, if_true]
    rw [eT rfl, fn93 m hn hn2]
  · have hm1 : 0 ≤ Int.tmod i (r.length : Int) := Int.tmod_nonneg _ h0
    have hm2 : Int.tmod i (r.length : Int) < (r.length : Int) := Int.tmod_lt_of_pos _ (by omega)
    simp only [Fn59, e1, e2, nx, if_neg hr]
    rw [eF hr, dT hr, dT hr, dT ⟨hm1, hm2⟩, fn93 m (by omega) (by omega), fn93 m hn hn2]
    try rfl
theorem fn39 (m : Nat) (r : Abs.Rows) {i n : Int} (h0 : 0 ≤ i) (h1 : i ≤ 1099511627776) (hn : 1 ≤ n) (hn2 : n ≤ 1099511627776) {R : Type} {k : Bool → Int → Option R} :
    Fn39 (m + 3) r i n k = k (nx r i % n == 0) (i + 1) := by
  simp only [Fn39]
  rw [fn59 m r h0 h1 hn hn2]
/-- one of some numbers -/
def pk (rows q : Abs.Rows) (i : Int) : Int := fI rows (nx q i % (rows.length : Int)).toNat 0
theorem fn20 (m : Nat) (r : Abs.Rows) {i : Int} (rows : Abs.Rows) (h0 : 0 ≤ i) (h1 : i ≤ 1099511627776) (hn : 1 ≤ (rows.length : Int)) (hn2 : (rows.length : Int) ≤ 1099511627776) {R : Type} {k : Int → Int → Option R} :
    Fn20 (m + 3) r i rows k = k (pk rows r i) (i + 1) := by
  have h4 := Int.emod_nonneg (nx r i) (show (rows.length : Int) ≠ 0 by omega)
  have h5 := Int.emod_lt_of_pos (nx r i) (show 0 < (rows.length : Int) by omega)
  simp only [Fn20]
  rw [fn59 m r h0 h1 hn hn2, dT ⟨h4, h5⟩]
  rfl
/-- each of some numbers is so: the one that is drawn is so -/
theorem pk_all {P : Int → Prop} (rows q : Abs.Rows) (i : Int) (h0 : 0 < rows.length) (h : ∀ j, j < rows.length → P (fI rows j 0)) : P (pk rows q i) := by
  have h4 := Int.emod_nonneg (nx q i) (show (rows.length : Int) ≠ 0 by omega)
  have h5 := Int.emod_lt_of_pos (nx q i) (show 0 < (rows.length : Int) by omega)
  exact h _ (by omega)
theorem fn21 (m : Nat) (r : Abs.Rows) {i lo hi : Int} (h0 : 0 ≤ i) (h1 : i ≤ 1099511627776) (hl : -500000000000 ≤ lo) (hh : hi ≤ 500000000000) (hlh : lo ≤ hi) {R : Type} {k : Int → Int → Option R} :
    Fn21 (m + 3) r i lo hi k = k (lo + nx r i % (hi - lo + 1)) (i + 1) := by
  have h4 := Int.emod_nonneg (nx r i) (show hi - lo + 1 ≠ 0 by omega)
  have h5 := Int.emod_lt_of_pos (nx r i) (show 0 < hi - lo + 1 by omega)
  simp only [Fn21]
  rw [dF (by omega), w64 (x := hi - lo) (by omega) (by omega), w64 (x := hi - lo + 1) (by omega) (by omega), fn59 m r h0 h1 (by omega) (by omega), w64 (by omega) (by omega)]
end Go.Proofs.Ytjhfbmhblpjigaa.Med
end
section
set_option linter.unusedVariables false
set_option linter.unusedSimpArgs false
namespace Go.Proofs.Ytjhfbmhblpjigaa.Med
open Go Go.Abs Go.Proofs
set_option linter.unusedVariables false
set_option linter.unusedSimpArgs false
theorem inT {x lo hi : Int} (m : Nat) {R : Type} (k : Bool → Option R) : Fn67 (m + 1) x lo hi k = k (decide (lo ≤ x ∧ x ≤ hi)) ∧ Fn63 (m + 1) x lo hi k = k (decide (lo ≤ x ∧ x ≤ hi)) := by
  constructor
  · simp only [Fn67]
    by_cases h : x ≥ lo
    · rw [dT h]; congr 1; simp; omega
    · rw [dF h]; congr 1; symm; simp; omega
  · simp only [Fn63]
    by_cases h : lo ≤ x
    · rw [dT h]; congr 1; simp; omega
    · rw [dF h]; congr 1; symm; simp; omega
def Smp (x : Int) : Prop := -32768 ≤ x ∧ x ≤ 32767
instance (x : Int) : Decidable (Smp x) := inferInstanceAs (Decidable (_ ∧ _))
theorem fn68 (m : Nat) (x : Int) {R : Type} (k : Bool → Option R) : Fn68 (m + 2) x k = k (decide (Smp x)) := by
  simp only [Fn68]; rw [(inT m _).1]; rfl
theorem fn25 (m : Nat) (x : Int) {R : Type} (k : Bool → Option R) : Fn25 (m + 2) x k = k (decide (Smp x)) := by
  simp only [Fn25]; rw [(inT m _).2]; rfl
/-! faults of samples -/
def badFrom (r : Abs.Rows) : Nat → Nat → Bool
  | 0, _ => false
  | n + 1, i => if Smp (fI r i 0) then badFrom r n (i + 1) else true
def smpF (r : Abs.Rows) : Int := if (r.length : Int) > 20000 then 2 else if badFrom r r.length 0 then 1 else 0
theorem lp94 (m : Nat) (r : Abs.Rows) {R : Type} (kx0 : Int → Int → Option R) (kx1 : Int → Option R) (z : Int) (hl : (r.length : Int) ≤ 20000) : ∀ (d n i : Nat), i + d = r.length → d < n →
    (badFrom r d i = true ∧ ∃ j : Int, 0 ≤ j ∧ Lp94_2 (m + 3) kx0 kx1 r z r.length n i = kx0 j j) ∨ (badFrom r d i = false ∧ Lp94_2 (m + 3) kx0 kx1 r z r.length n i = kx1 r.length)
  | d, 0, i, h1, h2 => by omega
  | 0, n + 1, i, h1, h2 => by
    right
    refine ⟨rfl, ?_⟩
    simp only [Lp94_2, Lp94_2_step]
    rw [dF (by omega)]
    congr 1; omega
  | d + 1, n + 1, i, h1, h2 => by
    have e : Int.toNat (i : Int) = i := by omega
    have e2 : IntKind.wrap IntKind.i64 ((i : Int) + 1) = ((i + 1 : Nat) : Int) := by rw [w64 (by omega) (by omega)]; omega
    have st : Lp94_2 (m + 3) kx0 kx1 r z r.length (n + 1) i = bif !decide (Smp (fI r i 0)) then kx0 i i else Lp94_2 (m + 3) kx0 kx1 r z r.length n ((i + 1 : Nat) : Int) := by
      simp only [Lp94_2, Lp94_2_step]
      rw [dT (by omega), dT (by omega), e, e2]
      simp only [Fn70]
      rw [fn25]
    by_cases hs : Smp (fI r i 0)
    · rw [st, decide_eq_true hs]
      simp only [badFrom, hs, if_true, Bool.not_true, cond_false]
      exact lp94 m r kx0 kx1 z hl d n (i + 1) (by omega) (by omega)
    · left
      rw [st, decide_eq_false hs]
      simp only [badFrom, hs, if_false, Bool.not_false, cond_true]
      exact ⟨trivial, i, by omega, rfl⟩
theorem lp29 (m : Nat) (r : Abs.Rows) {R : Type} (kx0 : Int → Int → Option R) (kx1 : Int → Option R) (z : Int) (hl : (r.length : Int) ≤ 20000) : ∀ (d n i : Nat), i + d = r.length → d < n →
    (badFrom r d i = true ∧ ∃ j : Int, Lp29_5 (m + 2) kx0 kx1 r z r r.length n i = kx0 1 j) ∨ (badFrom r d i = false ∧ Lp29_5 (m + 2) kx0 kx1 r z r r.length n i = kx1 r.length)
  | d, 0, i, h1, h2 => by omega
  | 0, n + 1, i, h1, h2 => by
    right
    refine ⟨rfl, ?_⟩
    simp only [Lp29_5, Lp29_5_step]
    rw [dF (by omega)]
    congr 1; omega
  | d + 1, n + 1, i, h1, h2 => by
    have e : Int.toNat (i : Int) = i := by omega
    have e2 : IntKind.wrap IntKind.i64 ((i : Int) + 1) = ((i + 1 : Nat) : Int) := by rw [w64 (by omega) (by omega)]; omega
    have st : Lp29_5 (m + 2) kx0 kx1 r z r r.length (n + 1) i = bif !decide (Smp (fI r i 0)) then kx0 1 i else Lp29_5 (m + 2) kx0 kx1 r z r r.length n ((i + 1 : Nat) : Int) := by
      simp only [Lp29_5, Lp29_5_step]
      rw [dT (by omega), dT (by omega), e, e2, fn68]
    by_cases hs : Smp (fI r i 0)
    · rw [st, decide_eq_true hs]
      simp only [badFrom, hs, if_true, Bool.not_true, cond_false]
      exact lp29 m r kx0 kx1 z hl d n (i + 1) (by omega) (by omega)
    · left
      rw [st, decide_eq_false hs]
      simp only [badFrom, hs, if_false, Bool.not_false, cond_true]
      exact ⟨trivial, i, rfl⟩
theorem fn28 (m : Nat) (r : Abs.Rows) {R : Type} (k : Int → Option R) (hm : r.length < m) : Fn28 (m + 6) r k = k (smpF r) := by
  simp only [Fn28]
  by_cases h : (r.length : Int) > 20000
  · rw [dT h, smpF, if_pos h]
  · rw [dF h]
    simp only [Fn69, Fn94, smpF, if_neg h]
    rcases lp94 m r (fun i693 i694 => bif decide (i693 ≥ (0 : Int)) then k 1 else k 0) (fun i695 => bif decide ((-1 : Int) ≥ (0 : Int)) then k 1 else k 0) 0 (by omega) r.length (m + 3) 0 (by omega) (by omega) with ⟨h1, j, h2, h3⟩ | ⟨h1, h3⟩
    · rw [h1, if_pos rfl]
      refine h3.trans ?_
      rw [dT h2]
    · rw [h1]
      refine h3.trans ?_
      rw [dF (by omega)]
      rfl
theorem fn29 (m : Nat) (r : Abs.Rows) {R : Type} (k : Int → Option R) (hm : r.length < m) : Fn29 (m + 3) r k = k (smpF r) := by
  simp only [Fn29]
  by_cases h : (r.length : Int) > 20000
  · rw [dT h, smpF, if_pos h]
  · rw [dF h, smpF, if_neg h]
    rcases lp29 m r (fun i659 i660 => k i659) (fun i661 => k ((0 : Int))) 0 (by omega) r.length (m + 2) 0 (by omega) (by omega) with ⟨h1, j, h3⟩ | ⟨h1, h3⟩
    · rw [h1, if_pos rfl]
      exact h3
    · rw [h1]
      exact h3
theorem smp_all (r : Abs.Rows) : ∀ (d i : Nat), badFrom r d i = false → ∀ j, i ≤ j → j < i + d → Smp (fI r j 0)
  | 0, i, h, j, h1, h2 => by omega
  | d + 1, i, h, j, h1, h2 => by
    simp only [badFrom] at h
    by_cases hs : Smp (fI r i 0)
    · rw [if_pos hs] at h
      by_cases hj : j = i
      · subst hj; exact hs
      · exact smp_all r d (i + 1) h j (by omega) (by omega)
    · rw [if_neg hs] at h; cases h
theorem smpF_ok {r : Abs.Rows} (h : smpF r = 0) : (r.length : Int) ≤ 20000 ∧ ∀ j, j < r.length → Smp (fI r j 0) := by
  unfold smpF at h
  split at h
  · cases h
  · rename_i h1
    split at h
    · cases h
    · rename_i h2
      exact ⟨by omega, fun j hj => smp_all r r.length 0 (by simpa using h2) j (by omega) (by omega)⟩
theorem lp38 (m : Nat) (r : Abs.Rows) {R : Type} (kx0 : Bool → Int → Option R) (kx1 : Int → Option R) (hl : (r.length : Int) ≤ 1073741824) : ∀ (d n : Nat) (i : Int), 0 ≤ i → i + d = r.length → d < n → Lp38_5 m kx0 kx1 r r false r.length n i = kx1 r.length
  | d, 0, i, h0, h1, h2 => by omega
  | 0, n + 1, i, h0, h1, h2 => by
    simp only [Lp38_5, Lp38_5_step]
    rw [dF (by omega)]
    congr 1; omega
  | d + 1, n + 1, i, h0, h1, h2 => by
    simp only [Lp38_5, Lp38_5_step]
    rw [dT (by omega), dT (by omega), dT (by omega), nF rfl, w64 (by omega) (by omega)]
    exact lp38 m r kx0 kx1 hl d n (i + 1) (by omega) (by omega) (by omega)
theorem fn38 (m : Nat) (r : Abs.Rows) {R : Type} (k : Bool → Option R) (hl : (r.length : Int) ≤ 1073741824) (hm : r.length < m) : Fn38 (m + 1) r r k = k true := by
  simp only [Fn38]
  rw [nF rfl, lp38 m r _ _ hl r.length m 0 (by omega) (by omega) hm]
theorem lp38v1 (m : Nat) (r : Abs.Rows) {R : Type} (kx0 : Bool → Int → Option R) (kx1 : Int → Option R) (hl : (r.length : Int) ≤ 1073741824) : ∀ (d n : Nat) (i : Int), 0 ≤ i → i + d = r.length → d < n → Lp38_5v1 m kx0 kx1 r r false r.length n i = kx1 r.length
  | d, 0, i, h0, h1, h2 => by omega
  | 0, n + 1, i, h0, h1, h2 => by
    simp only [Lp38_5v1, Lp38_5v1_step]
    rw [dF (by omega)]
    congr 1; omega
  | d + 1, n + 1, i, h0, h1, h2 => by
    simp only [Lp38_5v1, Lp38_5v1_step]
    rw [dT (by omega), dT (by omega), dT (by omega), nF rfl, w64 (by omega) (by omega)]
    exact lp38v1 m r kx0 kx1 hl d n (i + 1) (by omega) (by omega) (by omega)
theorem fn38v1 (m : Nat) (r : Abs.Rows) {R : Type} (k : Bool → Option R) (hl : (r.length : Int) ≤ 1073741824) (hm : r.length < m) : Fn38v1 (m + 1) r r k = k true := by
  simp only [Fn38v1]
  rw [nF rfl, lp38v1 m r _ _ hl r.length m 0 (by omega) (by omega) hm]
theorem fn35 (m : Nat) (a b : Int) {R : Type} (k : Int → Option R) : Fn35 (m + 5) [[F.lit (Value.int IntKind.i64 a)], [F.lit (Value.int IntKind.i64 b)]] k = k (if a ≠ 0 then a else b) := by
  have e0 : fI [[F.lit (Value.int IntKind.i64 a)], [F.lit (Value.int IntKind.i64 b)]] 0 0 = a := rfl
  have e1 : fI [[F.lit (Value.int IntKind.i64 a)], [F.lit (Value.int IntKind.i64 b)]] 1 0 = b := rfl
  simp (disch := omega) only [Fn35, Lp35_2, Lp35_2_step, List.length_cons, List.length_nil, ↓dT, ↓dF, w64, Int.toNat_zero, e0, e1, Int.reduceAdd, Int.reduceToNat]
  by_cases ha : a = 0
  · rw [nF ha, if_neg (by simpa using ha)]
    by_cases hb : b = 0
    · rw [nF hb, hb]
    · rw [nT hb]
  · rw [nT ha, if_pos (by simpa using ha)]
theorem fn19 (m : Nat) {R : Type} (k : Bool → Option R) : Fn19 (m + 2) k = k true := by rfl
/-! division, rounded down -/
theorem fn75a (m : Nat) {x : Int} (h0 : -9223372036854775808 ≤ x) (h1 : x < 9223372036854775808) {R : Type} (k : Int → Option R) : Fn75 (m + 1) x 8 k = k (x / 8) := by
  simp only [Fn75]
  rw [dT (by decide)]
  by_cases hx : 0 ≤ x
  · rw [tm_pos hx, td_pos hx, dF (by omega), dT (by decide), w64 (by omega) (by omega)]
  · have h3 : Int.tdiv x 8 = -((-x) / 8) := by
      rw [← Int.neg_neg x, Int.neg_tdiv, Int.neg_neg, td_pos (by omega)]
    have h4 : Int.tmod x 8 = -((-x) % 8) := by
      rw [← Int.neg_neg x, Int.neg_tmod, Int.neg_neg, tm_pos (by omega)]
    rw [h3, h4]
    by_cases h5 : -(-x % 8) < 0
    · rw [dT h5, dT (by decide), w64 (x := -(-x / 8)) (by omega) (by omega), w64 (by omega) (by omega)]
      congr 1
      omega
    · rw [dF h5, dT (by decide), w64 (by omega) (by omega)]
      congr 1
      omega
theorem fn75b (m : Nat) {x : Int} (h0 : -9223372036854775808 ≤ x) (h1 : x < 9223372036854775808) {R : Type} (k : Int → Option R) : Fn75 (m + 1) x 256 k = k (x / 256) := by
  simp only [Fn75]
  rw [dT (by decide)]
  by_cases hx : 0 ≤ x
  · rw [tm_pos hx, td_pos hx, dF (by omega), dT (by decide), w64 (by omega) (by omega)]
  · have h3 : Int.tdiv x 256 = -((-x) / 256) := by
      rw [← Int.neg_neg x, Int.neg_tdiv, Int.neg_neg, td_pos (by omega)]
    have h4 : Int.tmod x 256 = -((-x) % 256) := by
      rw [← Int.neg_neg x, Int.neg_tmod, Int.neg_neg, tm_pos (by omega)]
    rw [h3, h4]
    by_cases h5 : -(-x % 256) < 0
    · rw [dT h5, dT (by decide), w64 (x := -(-x / 256)) (by omega) (by omega), w64 (by omega) (by omega)]
      congr 1
      omega
    · rw [dF h5, dT (by decide), w64 (by omega) (by omega)]
      congr 1
      omega
theorem fn75c (m : Nat) {x : Int} (h0 : -9223372036854775808 ≤ x) (h1 : x < 9223372036854775808) {R : Type} (k : Int → Option R) : Fn75 (m + 1) x 16384 k = k (x / 16384) := by
  simp only [Fn75]
  rw [dT (by decide)]
  by_cases hx : 0 ≤ x
  · rw [tm_pos hx, td_pos hx, dF (by omega), dT (by decide), w64 (by omega) (by omega)]
  · have h3 : Int.tdiv x 16384 = -((-x) / 16384) := by
      rw [← Int.neg_neg x, Int.neg_tdiv, Int.neg_neg, td_pos (by omega)]
    have h4 : Int.tmod x 16384 = -((-x) % 16384) := by
      rw [← Int.neg_neg x, Int.neg_tmod, Int.neg_neg, tm_pos (by omega)]
    rw [h3, h4]
    by_cases h5 : -(-x % 16384) < 0
    · rw [dT h5, dT (by decide), w64 (x := -(-x / 16384)) (by omega) (by omega), w64 (by omega) (by omega)]
      congr 1
      omega
    · rw [dF h5, dT (by decide), w64 (by omega) (by omega)]
      congr 1
      omega
def cut (x : Int) : Int := if (32767 : Int) < if (-32768 : Int) > x then (-32768 : Int) else x then (32767 : Int) else if (-32768 : Int) > x then (-32768 : Int) else x
theorem fn77 (m : Nat) (x : Int) {R : Type} (k : Int → Option R) : Fn77 (m + 1) x k = k (cut x) := rfl
/-! louder -/
def ld (by_ x : Int) : Int := cut (IntKind.wrap .i64 (x * by_) / 256)
theorem lp44 (m : Nat) (r : Abs.Rows) (by_ : Int) {R : Type} (k : Abs.Rows → Int → Option R) (hl : (r.length : Int) ≤ 20000) : ∀ (d n i : Nat), i + d = r.length → d < n →
    Lp44_3 (m + 1) k r by_ r r.length n (mk .i64 (fun j => ld by_ (fI r j 0)) i) i = k (mk .i64 (fun j => ld by_ (fI r j 0)) r.length) r.length
  | d, 0, i, h1, h2 => by omega
  | 0, n + 1, i, h1, h2 => by
    simp only [Lp44_3, Lp44_3_step]
    rw [dF (by omega)]
    have : i = r.length := by omega
    subst this
    rfl
  | d + 1, n + 1, i, h1, h2 => by
    have e : Int.toNat (i : Int) = i := by omega
    have e2 : IntKind.wrap IntKind.i64 ((i : Int) + 1) = ((i + 1 : Nat) : Int) := by rw [w64 (by omega) (by omega)]; omega
    simp only [Lp44_3, Lp44_3_step]
    have hb := w64b (fI r i 0 * by_)
    rw [dT (by omega), dT (by omega), e, e2, fn75b m hb.1 hb.2, fn77 m _, dT (by simp [mk_len, rM]; omega)]
    simp only [letV]
    rw [show cut (IntKind.wrap IntKind.i64 (fI r i 0 * by_) / 256) = (fun j => ld by_ (fI r j 0)) i from rfl, ← mk_succ .i64 (fun j => ld by_ (fI r j 0))]
    exact lp44 m r by_ k hl d n (i + 1) (by omega) (by omega)

theorem fdiv8 (x : Int) : Int.fdiv x ((2 : Int) ^ min (Int.toNat (3 : Int)) (64 : Nat)) = x / 8 := Int.fdiv_eq_ediv_of_nonneg _ (by decide)
theorem fdiv14 (x : Int) : Int.fdiv x ((2 : Int) ^ min (Int.toNat (14 : Int)) (64 : Nat)) = x / 16384 := Int.fdiv_eq_ediv_of_nonneg _ (by decide)
theorem rep_succ (z : Nat) (x : List F) : List.replicate (z + 1) x = [x] ++ List.replicate z x := by simp [List.replicate_succ]
theorem app_set (Q : Abs.Rows) (z : Nat) (x y : List F) : (Q ++ List.replicate (z + 1) x).set Q.length y = (Q ++ [y]) ++ List.replicate z x := by
  rw [List.set_append_right _ _ (Nat.le_refl _), Nat.sub_self, List.replicate_succ, List.set_cons_zero]
  simp
/-- both hum alike -/
theorem lp84 {c : Int} (h0 : 0 ≤ c) (h1 : c ≤ 1000000) (N : Nat) (hN : N ≤ 30000) : ∀ (d : Nat) (Q : Abs.Rows), Q.length + d = N →
    ∃ H : Abs.Rows, H.length = N ∧ ∀ (m n : Nat), d ≤ n → ∀ (R : Type) (k : Abs.Rows → Option R), Lp84_3 (m + 1) (fun x y => k x) c (N : Int) (n + 1) (Q ++ List.replicate d [F.lit (Value.int IntKind.i64 (0 : Int))]) (Q.length : Int) = k H ∧ Lp88_3 (m + 1) (fun x y => k x) c (N : Int) (n + 1) Q (Q.length : Int) = k H
  | 0, Q, h => by
    refine ⟨Q, by omega, fun m n hn R k => ?_⟩
    simp only [Lp84_3, Lp84_3_step, Lp88_3, Lp88_3_step]
    rw [dF (by omega), dF (by omega)]
    simp
  | d + 1, Q, h => by
    have e2 : IntKind.wrap IntKind.i64 ((Q.length : Int) + 1) = ((Q.length + 1 : Nat) : Int) := by rw [w64 (by omega) (by omega)]; omega
    by_cases c0 : Q.length = 0
    · have hQ : Q = [] := List.eq_nil_of_length_eq_zero c0
      obtain ⟨H, k1, k2⟩ := lp84 h0 h1 N hN d [[F.lit (Value.int IntKind.i64 (0 : Int))]] (by simp; omega)
      refine ⟨H, k1, fun m n hn R k => ?_⟩
      obtain ⟨n', rfl⟩ : ∃ n', n = n' + 1 := ⟨n - 1, by omega⟩
      subst hQ
      constructor
      · rw [Lp84_3]
        simp only [Lp84_3_step, List.length_nil]
        rw [dT (by simp at h; omega), eT (by simp), rep_succ]
        exact (k2 m n' (by omega) R k).1
      · rw [Lp88_3]
        simp only [Lp88_3_step, List.length_nil]
        rw [dT (by simp at h; omega), eT (by simp), dT (by simp [rM])]
        exact (k2 m n' (by omega) R k).2
    by_cases c1 : Q.length = 1
    · obtain ⟨H, k1, k2⟩ := lp84 h0 h1 N hN d (Q ++ [[F.lit (Value.int IntKind.i64 (c / 8))]]) (by simp; omega)
      refine ⟨H, k1, fun m n hn R k => ?_⟩
      obtain ⟨n', rfl⟩ : ∃ n', n = n' + 1 := ⟨n - 1, by omega⟩
      have hx := k2 m n' (by omega) R k
      simp only [List.length_append, List.length_singleton] at hx
      constructor
      · rw [Lp84_3]
        simp only [Lp84_3_step, e2, fdiv8, stR1]
        rw [dT (by omega), eF (by omega), eT (by omega), dT (by simp; omega), show Int.toNat (Q.length : Int) = Q.length by omega, app_set]
        exact hx.1
      · rw [Lp88_3]
        simp only [Lp88_3_step, e2, letV]
        rw [dT (by omega), eF (by omega), eT (by omega), dT (by simp [rM]; omega), td_pos h0, w64 (x := c / 8) (by omega) (by omega)]
        exact hx.2
    · have w1 : IntKind.wrap IntKind.i64 ((Q.length : Int) - 1) = ((Q.length - 1 : Nat) : Int) := by rw [w64 (by omega) (by omega)]; omega
      have w2 : IntKind.wrap IntKind.i64 ((Q.length : Int) - 2) = ((Q.length - 2 : Nat) : Int) := by rw [w64 (by omega) (by omega)]; omega
      have t1 : Int.toNat ((Q.length - 1 : Nat) : Int) = Q.length - 1 := by omega
      have t2 : Int.toNat ((Q.length - 2 : Nat) : Int) = Q.length - 2 := by omega
      have hb := w64b (c * fI Q (Q.length - 1) 0)
      obtain ⟨H, k1, k2⟩ := lp84 h0 h1 N hN d (Q ++ [[F.lit (Value.int IntKind.i64 (IntKind.wrap IntKind.i64 (IntKind.wrap IntKind.i64 (c * fI Q (Q.length - 1) 0) / 16384 - fI Q (Q.length - 2) 0)))]]) (by simp; omega)
      refine ⟨H, k1, fun m n hn R k => ?_⟩
      obtain ⟨n', rfl⟩ : ∃ n', n = n' + 1 := ⟨n - 1, by omega⟩
      have hx := k2 m n' (by omega) R k
      simp only [List.length_append, List.length_singleton] at hx
      constructor
      · rw [Lp84_3]
        simp only [Lp84_3_step, e2, fdiv14, stR1, w1, w2, t1, t2, letV]
        rw [dT (by omega), eF (by omega), eF (by omega), dT (by simp; omega), dT (by simp; omega), dT (by simp; omega), fI_app_lt (by omega), fI_app_lt (by omega), show Int.toNat (Q.length : Int) = Q.length by omega, app_set]
        exact hx.1
      · rw [Lp88_3]
        simp only [Lp88_3_step, e2, w1, w2, t1, t2, letV]
        rw [dT (by omega), eF (by omega), eF (by omega), dT (by omega), fn75c m hb.1 hb.2, dT (by omega), dT (by simp [rM]; omega)]
        exact hx.2
theorem hums {c : Int} (h0 : 0 ≤ c) (h1 : c ≤ 1000000) (N : Nat) (hN : N ≤ 30000) : ∃ H : Abs.Rows, H.length = N ∧ ∀ (m : Nat) (R : Type) (k : Abs.Rows → Option R), N ≤ m → Fn84 (m + 2) c N k = k H ∧ Fn88 (m + 2) c N k = k H := by
  obtain ⟨H, k1, k2⟩ := lp84 h0 h1 N hN N [] (by simp)
  refine ⟨H, k1, fun m R k hm => ?_⟩
  have hx := k2 m m hm R k
  simp only [List.length_nil, List.nil_append] at hx
  constructor
  · simp only [Fn84, List.length_replicate, show Int.toNat (N : Int) = N by omega]
    rw [dT (by simp [rM]; omega)]
    exact hx.1
  · simp only [Fn88]
    exact hx.2
/-- two hums are added -/
theorem lp54 (s : Abs.Rows) : ∀ (d i : Nat) (Q : Abs.Rows), i + d = s.length → Q.length = s.length → Q.length ≤ 30000 →
    ∃ Q' : Abs.Rows, Q'.length = Q.length ∧ ∀ (m n : Nat), d ≤ n → ∀ (R : Type) (k : Abs.Rows → Int → Option R), Lp54_10 m k s s.length (n + 1) Q i = k Q' s.length ∧ Lp55_7 m k s s.length (n + 1) Q i = k Q' s.length
  | 0, i, Q, h1, h2, h3 => by
    refine ⟨Q, rfl, fun m n hn R k => ?_⟩
    have : (i : Int) = s.length := by omega
    simp only [Lp54_10, Lp54_10_step, Lp55_7, Lp55_7_step]
    rw [dF (by omega), dF (by omega), this]
    exact ⟨rfl, rfl⟩
  | d + 1, i, Q, h1, h2, h3 => by
    have e : Int.toNat (i : Int) = i := by omega
    have e2 : IntKind.wrap IntKind.i64 ((i : Int) + 1) = ((i + 1 : Nat) : Int) := by rw [w64 (by omega) (by omega)]; omega
    obtain ⟨Q', g1, g2⟩ := lp54 s d (i + 1) (Q.set i [F.lit (Value.int IntKind.i64 (IntKind.wrap IntKind.i64 (fI Q i 0 + fI s i 0)))]) (by omega) (by simp; omega) (by simp; omega)
    refine ⟨Q', by simpa using g1, fun m n hn R k => ?_⟩
    obtain ⟨n', rfl⟩ : ∃ n', n = n' + 1 := ⟨n - 1, by omega⟩
    constructor
    · rw [Lp54_10]
      simp only [Lp54_10_step, e, e2]
      rw [dT (by omega), dT (by omega), dT (by omega), dT (by omega), stR1]
      exact (g2 m n' (by omega) R k).1
    · rw [Lp55_7]
      simp only [Lp55_7_step, e, e2]
      rw [dT (by omega), dT (by omega), dT (by omega), dT (by omega), stR1]
      exact (g2 m n' (by omega) R k).2
end Go.Proofs.Ytjhfbmhblpjigaa.Med
end
section
set_option linter.unusedVariables false
set_option linter.unusedSimpArgs false
namespace Go.Proofs.Ytjhfbmhblpjigaa.Med
open Go Go.Abs Go.Proofs
set_option linter.unusedVariables false
set_option linter.unusedSimpArgs false
def fidx (r : Abs.Rows) (k : Int) : Nat → Nat → Int
  | 0, _ => -1
  | d + 1, i => if k = fI r i 0 then i else fidx r k d (i + 1)
theorem fidx_b (r : Abs.Rows) (k : Int) : ∀ (d i : Nat), -1 ≤ fidx r k d i ∧ fidx r k d i < i + d ∨ (d = 0 ∧ fidx r k d i = -1)
  | 0, i => by right; exact ⟨rfl, rfl⟩
  | d + 1, i => by
    left
    simp only [fidx]
    split
    · omega
    · rcases fidx_b r k d (i + 1) with h | ⟨h, h2⟩
      · omega
      · omega
theorem lp83 (m : Nat) (r : Abs.Rows) (k : Int) {R : Type} (kk : Int → Option R) (z : Int) (hl : (r.length : Int) ≤ 20000) : ∀ (d n i : Nat), i + d = r.length → d < n →
    Lp83_2 m (fun x _ => kk x) (fun _ => kk (-1)) r k z r.length n i = kk (fidx r k d i)
  | d, 0, i, h1, h2 => by omega
  | 0, n + 1, i, h1, h2 => by
    simp only [Lp83_2, Lp83_2_step, fidx]
    rw [dF (by omega)]
  | d + 1, n + 1, i, h1, h2 => by
    have e : Int.toNat (i : Int) = i := by omega
    have e2 : IntKind.wrap IntKind.i64 ((i : Int) + 1) = ((i + 1 : Nat) : Int) := by rw [w64 (by omega) (by omega)]; omega
    rw [Lp83_2]
    simp only [Lp83_2_step, fidx, e, e2]
    rw [dT (by omega), dT (by omega)]
    by_cases h : k = fI r i 0
    · rw [eT h, if_pos h]
    · rw [eF h, if_neg h]
      exact lp83 m r k kk z hl d n (i + 1) (by omega) (by omega)
abbrev kB : ByteArray := { data := #[(49 : UInt8), (50 : UInt8), (51 : UInt8), (65 : UInt8), (52 : UInt8), (53 : UInt8), (54 : UInt8), (66 : UInt8), (55 : UInt8), (56 : UInt8), (57 : UInt8), (67 : UInt8), (42 : UInt8), (48 : UInt8), (35 : UInt8), (68 : UInt8)] }
abbrev kR : Abs.Rows := [[F.lit (Value.int IntKind.u8 (49))], [F.lit (Value.int IntKind.u8 (50))], [F.lit (Value.int IntKind.u8 (51))], [F.lit (Value.int IntKind.u8 (65))], [F.lit (Value.int IntKind.u8 (52))], [F.lit (Value.int IntKind.u8 (53))], [F.lit (Value.int IntKind.u8 (54))], [F.lit (Value.int IntKind.u8 (66))], [F.lit (Value.int IntKind.u8 (55))], [F.lit (Value.int IntKind.u8 (56))], [F.lit (Value.int IntKind.u8 (57))], [F.lit (Value.int IntKind.u8 (67))], [F.lit (Value.int IntKind.u8 (42))], [F.lit (Value.int IntKind.u8 (48))], [F.lit (Value.int IntKind.u8 (35))], [F.lit (Value.int IntKind.u8 (68))]]
def kx (k : Int) : Int := fidx kR k 16 0
theorem kx_idx {k : Int} (h : Byt k) : idxByte kB k = kx k := by
  have all : ∀ n : Fin 256, idxByte kB (n.val : Int) = kx (n.val : Int) := by decide +kernel
  obtain ⟨h0, h1⟩ := h
  have := all ⟨k.toNat, by omega⟩
  simp only [show ((k.toNat : Nat) : Int) = k by omega] at this
  exact this
theorem kx_b (k : Int) : -1 ≤ kx k ∧ kx k ≤ 15 := by
  rcases fidx_b kR k 16 0 with h | ⟨h, _⟩
  · unfold kx; omega
  · cases h
theorem fn83 (m : Nat) (k : Int) {R : Type} (kk : Int → Option R) (hm : 20 ≤ m) : Fn83 (m + 1) kR k kk = kk (kx k) := by
  simp only [Fn83]
  exact lp83 m kR k kk 0 (by simp) 16 m 0 (by simp) (by omega)
theorem rowsB (j : Nat) (h : j < 4) : 0 ≤ fI [[F.lit (Value.int IntKind.i64 (27980 : Int))], [F.lit (Value.int IntKind.i64 (26956 : Int))], [F.lit (Value.int IntKind.i64 (25701 : Int))], [F.lit (Value.int IntKind.i64 (24219 : Int))]] j 0 ∧ fI [[F.lit (Value.int IntKind.i64 (27980 : Int))], [F.lit (Value.int IntKind.i64 (26956 : Int))], [F.lit (Value.int IntKind.i64 (25701 : Int))], [F.lit (Value.int IntKind.i64 (24219 : Int))]] j 0 ≤ 1000000 := by
  rcases (by omega : j = 0 ∨ j = 1 ∨ j = 2 ∨ j = 3) with rfl | rfl | rfl | rfl <;> exact ⟨by decide, by decide⟩
theorem colsB (j : Nat) (h : j < 4) : 0 ≤ fI [[F.lit (Value.int IntKind.i64 (19073 : Int))], [F.lit (Value.int IntKind.i64 (16325 : Int))], [F.lit (Value.int IntKind.i64 (13085 : Int))], [F.lit (Value.int IntKind.i64 (9315 : Int))]] j 0 ∧ fI [[F.lit (Value.int IntKind.i64 (19073 : Int))], [F.lit (Value.int IntKind.i64 (16325 : Int))], [F.lit (Value.int IntKind.i64 (13085 : Int))], [F.lit (Value.int IntKind.i64 (9315 : Int))]] j 0 ≤ 1000000 := by
  rcases (by omega : j = 0 ∨ j = 1 ∨ j = 2 ∨ j = 3) with rfl | rfl | rfl | rfl <;> exact ⟨by decide, by decide⟩
theorem fn55n (m : Nat) {k : Int} (h : Byt k) (hx : kx k < 0) (n : Int) {R : Type} (kk : Abs.Rows → Bool → Option R) : Fn55 (m + 5) k n kk = kk rows0 false := by
  simp only [Fn55, Fn87, Fn97]
  rw [kx_idx h, dT hx]
theorem tone {k : Int} (h : Byt k) (hx : ¬ kx k < 0) (N : Nat) (hN : N ≤ 20000) : ∃ T : Abs.Rows, T.length = N ∧ ∀ (m : Nat), N + 30 ≤ m → ∀ (R : Type), (∀ kk : Abs.Rows → Int → Option R, Fn54 (m + 5) k N kk = kk T 0) ∧ ∀ kk : Abs.Rows → Bool → Option R, Fn55 (m + 5) k N kk = kk T true := by
  have hb := kx_b k
  have e1 : IntKind.wrap IntKind.i64 (Int.tdiv (kx k) 4) = kx k / 4 := by rw [td_pos (by omega), w64 (by omega) (by omega)]
  have e2 : Int.tmod (kx k) 4 = kx k % 4 := tm_pos (by omega)
  have r := rowsB (Int.toNat (kx k / 4)) (by omega)
  have c := colsB (Int.toNat (kx k % 4)) (by omega)
  obtain ⟨H1, g1, g2⟩ := hums r.1 r.2 N (by omega)
  obtain ⟨H2, g3, g4⟩ := hums c.1 c.2 N (by omega)
  obtain ⟨T, t1, t2⟩ := lp54 H2 N 0 H1 (by omega) (by omega) (by omega)
  refine ⟨T, by omega, fun m hm R => ⟨fun kk => ?_, fun kk => ?_⟩⟩
  · simp only [Fn54, Fn67, Fn85, Fn86]
    rw [fn83 (m + 3) k _ (by omega), dF hx, dT (by omega), decide_eq_true (show (N : Int) ≤ 20000 by omega), Bool.not_true, bF rfl, e1, dT (by simp; omega), (g2 (m + 2) R _ (by omega)).1, e2, dT (by simp; omega), (g4 (m + 2) R _ (by omega)).1]
    exact (t2 (m + 4) (m + 3) (by omega) R _).1
  · simp only [Fn55, Fn87, Fn97, Fn89, Fn90]
    rw [kx_idx h, dF hx, e1, dT (by simp; omega), (g2 (m + 2) R _ (by omega)).2, e2, dT (by simp; omega), (g4 (m + 2) R _ (by omega)).2, g1, ← g3]
    exact (t2 (m + 4) (m + 3) (by omega) R _).2
end Go.Proofs.Ytjhfbmhblpjigaa.Med
end
section
set_option linter.unusedVariables false
set_option linter.unusedSimpArgs false
namespace Go.Proofs.Ytjhfbmhblpjigaa.Med
open Go Go.Abs Go.Proofs
set_option linter.unusedVariables false
set_option linter.unusedSimpArgs false
def snd (row : List F) : Abs.Rows := F.toRows (row.headD default)
theorem fR_snd (r : Abs.Rows) (i : Nat) : fR r i 0 = snd (Abs.rowAt r i) := rfl
theorem row_mem {r : Abs.Rows} {i : Nat} (h : i < r.length) : Abs.rowAt r i ∈ r := by
  unfold Abs.rowAt
  rw [List.getD_eq_getElem?_getD, List.getElem?_eq_getElem h]
  exact List.getElem_mem h
theorem lp43_7 (s : Abs.Rows) (hl : s.length ≤ 1000) : ∀ (d : Nat) (Q : Abs.Rows), s.length - Q.length = d → ∀ (m n : Nat), d ≤ n → ∀ (R : Type) (k : Abs.Rows → Option R) (a c : Abs.Rows) (x y : Int) (e : Abs.Rows) (z : Nat) (f : Abs.Rows),
      Lp43_7 m k a s c x y e z f (n + 1) Q = k (Q ++ List.replicate d [F.lit (Value.int IntKind.i64 (0 : Int))])
  | 0, Q, h1, m, n, hn, R, k, a, c, x, y, e, z, f => by
    simp only [Lp43_7, Lp43_7_step]
    rw [dF (by omega)]
    simp
  | d + 1, Q, h1, m, n, hn, R, k, a, c, x, y, e, z, f => by
    obtain ⟨n', rfl⟩ : ∃ n', n = n' + 1 := ⟨n - 1, by omega⟩
    rw [Lp43_7]
    simp only [Lp43_7_step, letV]
    rw [dT (by omega), dT (by simp [rM]; omega), lp43_7 s hl d (Q ++ [[F.lit (Value.int IntKind.i64 (0 : Int))]]) (by simp; omega) m n' (by omega)]
    simp [List.replicate_succ]

theorem lp43_12t (s : Abs.Rows) (hl : s.length ≤ 1000) : ∀ (d i : Nat) (Q : Abs.Rows), i + d = s.length → s.length ≤ Q.length → Q.length ≤ 1000 →
    ∃ Q' : Abs.Rows, Q'.length = Q.length ∧ ∀ (m n : Nat), d ≤ n → ∀ (R : Type) (k : Abs.Rows → Int → Option R) (a b c : Abs.Rows) (x y : Int) (e : Abs.Rows) (z : Nat) (f : Abs.Rows),
      Lp43_12 m k a b c x y e z f s s.length (n + 1) Q i = k Q' s.length
  | 0, i, Q, h1, h2, h3 => by
    refine ⟨Q, rfl, fun m n hn R k a b c x y e z f => ?_⟩
    have : (i : Int) = s.length := by omega
    simp only [Lp43_12, Lp43_12_step]
    rw [dF (by omega), this]
  | d + 1, i, Q, h1, h2, h3 => by
    have e : Int.toNat (i : Int) = i := by omega
    have e2 : IntKind.wrap IntKind.i64 ((i : Int) + 1) = ((i + 1 : Nat) : Int) := by rw [w64 (by omega) (by omega)]; omega
    obtain ⟨Q', g1, g2⟩ := lp43_12t s hl d (i + 1) (Q.set i [F.lit (Value.int IntKind.i64 (IntKind.wrap IntKind.i64 (fI Q i 0 + fI s i 0)))]) (by omega) (by simp; omega) (by simp; omega)
    refine ⟨Q', by simpa using g1, fun m n hn R k a b c x y e' z f => ?_⟩
    obtain ⟨n', rfl⟩ : ∃ n', n = n' + 1 := ⟨n - 1, by omega⟩
    rw [Lp43_12]
    simp only [Lp43_12_step, e, e2]
    rw [dT (by omega), dT (by omega), dT (by omega), dT (by omega), stR1]
    exact g2 m n' (by omega) R k a b c x y e' z f
theorem lp43_3t (r : Abs.Rows) (hs : ∀ row ∈ r, (snd row).length ≤ 500) (hl : r.length ≤ 10) : ∀ (d i : Nat) (Q : Abs.Rows), i + d = r.length → Q.length ≤ 500 →
    ∃ O : Abs.Rows, O.length ≤ 500 ∧ ∀ (m n : Nat), d ≤ n → 600 ≤ m → ∀ (R : Type) (k : Abs.Rows → Int → Option R), Lp43_3 (m + 1) k r r r.length (n + 1) Q i = k O r.length
  | 0, i, Q, h1, h2 => by
    refine ⟨Q, h2, fun m n hn hm R k => ?_⟩
    have : (i : Int) = r.length := by omega
    simp only [Lp43_3, Lp43_3_step]
    rw [dF (by omega), this]
  | d + 1, i, Q, h1, h2 => by
    have e : Int.toNat (i : Int) = i := by omega
    have e2 : IntKind.wrap IntKind.i64 ((i : Int) + 1) = ((i + 1 : Nat) : Int) := by rw [w64 (by omega) (by omega)]; omega
    have hb := hs _ (row_mem (r := r) (i := i) (by omega))
    obtain ⟨Q', g1, g2⟩ := lp43_12t (snd (Abs.rowAt r i)) (by omega) (snd (Abs.rowAt r i)).length 0 (Q ++ List.replicate ((snd (Abs.rowAt r i)).length - Q.length) [F.lit (Value.int IntKind.i64 (0 : Int))]) (by omega) (by simp; omega) (by simp; omega)
    simp only [List.length_append, List.length_replicate] at g1
    obtain ⟨O, k1, k3⟩ := lp43_3t r hs hl d (i + 1) Q' (by omega) (by omega)
    refine ⟨O, k1, fun m n hn hm R k => ?_⟩
    obtain ⟨n', rfl⟩ : ∃ n', n = n' + 1 := ⟨n - 1, by omega⟩
    rw [Lp43_3]
    simp only [Lp43_3_step, e, e2, fR_snd]
    rw [dT (by omega), dT (by omega), lp43_7 _ (by omega) _ Q rfl (m + 1) m (by omega)]
    refine (g2 (m + 1) m (by omega) R _ _ _ _ _ _ _ _ _).trans ?_
    exact k3 m n' (by omega) hm R k
theorem lp43_20t : ∀ (d i : Nat) (o : Abs.Rows), i + d = o.length → o.length ≤ 1000 → ∃ o' : Abs.Rows, o'.length = o.length ∧ ∀ (m n : Nat), d ≤ n → ∀ (R : Type) (k : Abs.Rows → Int → Option R), Lp43_20 (m + 1) k o.length (n + 1) o i = k o' o.length
  | 0, i, o, h1, h2 => by
    refine ⟨o, rfl, fun m n hn R k => ?_⟩
    have : (i : Int) = o.length := by omega
    simp only [Lp43_20, Lp43_20_step]
    rw [dF (by omega), this]
  | d + 1, i, o, h1, h2 => by
    have e : Int.toNat (i : Int) = i := by omega
    have e2 : IntKind.wrap IntKind.i64 ((i : Int) + 1) = ((i + 1 : Nat) : Int) := by rw [w64 (by omega) (by omega)]; omega
    obtain ⟨o', g1, g2⟩ := lp43_20t d (i + 1) (stR [LT.int IntKind.i64] o i 0 [F.lit (Value.int IntKind.i64 (cut (fI o i 0)))]) (by simp [stR]; omega) (by simp [stR]; omega)
    have hlen : (stR [LT.int IntKind.i64] o i 0 [F.lit (Value.int IntKind.i64 (cut (fI o i 0)))]).length = o.length := by simp [stR]
    rw [hlen] at g1 g2
    refine ⟨o', g1, fun m n hn R k => ?_⟩
    obtain ⟨n', rfl⟩ : ∃ n', n = n' + 1 := ⟨n - 1, by omega⟩
    rw [Lp43_20]
    simp only [Lp43_20_step, e, e2]
    rw [dT (by omega), dT (by omega), fn77 m _, dT (by omega)]
    exact g2 m n' (by omega) R k
theorem fn43t (r : Abs.Rows) (hs : ∀ row ∈ r, (snd row).length ≤ 500) (hl : r.length ≤ 10) : ∃ o : Abs.Rows, o.length ≤ 500 ∧ ∀ (m : Nat), 700 ≤ m → ∀ (R : Type) (k : Abs.Rows → Option R), Fn43 (m + 3) r k = k o := by
  obtain ⟨O, g1, g2⟩ := lp43_3t r hs hl r.length 0 [] (by omega) (by simp)
  obtain ⟨o, g3, g4⟩ := lp43_20t O.length 0 O (by omega) (by omega)
  refine ⟨o, by omega, fun m hm R k => ?_⟩
  simp only [Fn43]
  refine (g2 (m + 1) (m + 1) (by omega) (by omega) R _).trans ?_
  exact g4 (m + 1) (m + 1) (by omega) R _
theorem fn44t (r : Abs.Rows) (by_ : Int) (hl : r.length ≤ 500) : ∃ o : Abs.Rows, o.length ≤ 500 ∧ ∀ (m : Nat), 700 ≤ m → ∀ (R : Type) (k : Abs.Rows → Option R), Fn44 (m + 2) r by_ k = k o := by
  refine ⟨mk .i64 (fun j => ld by_ (fI r j 0)) r.length, by rw [mk_len]; exact hl, fun m hm R k => ?_⟩
  simp only [Fn44]
  exact lp44 m r by_ (fun r470 i471 => k r470) (by omega) r.length (m + 1) 0 (by omega) (by omega)
/-- a tone, or nothing -/
theorem fn55t {k : Int} (h : Byt k) (N : Nat) (hN : N ≤ 500) : ∃ (T : Abs.Rows) (b : Bool), T.length ≤ 500 ∧ ∀ (m : Nat), 700 ≤ m → ∀ (R : Type) (kk : Abs.Rows → Bool → Option R), Fn55 (m + 5) k N kk = kk T b := by
  by_cases hx : kx k < 0
  · exact ⟨rows0, false, by simp, fun m hm R kk => fn55n m h hx N kk⟩
  · obtain ⟨T, g1, g2⟩ := tone h hx N (by omega)
    exact ⟨T, true, by omega, fun m hm R kk => (g2 m (by omega) R).2 kk⟩
theorem u8b (x : UInt8) : Byt (x.toNat : Int) := by
  have := x.toNat_lt
  exact ⟨by omega, by omega⟩
theorem fn52 (m : Nat) (q : Abs.Rows) {i : Int} (h0 : 0 ≤ i) (h1 : i ≤ 1000000) : ∃ v : Int, Byt v ∧ ∀ (R : Type) (k : Int → Int → Option R), Fn52 (m + 3) q i k = k v (i + 1) := by
  have a1 := Int.emod_nonneg (nx q i) (show (16 : Int) ≠ 0 by omega)
  have a2 := Int.emod_lt_of_pos (nx q i) (show (0 : Int) < 16 by omega)
  refine ⟨_, u8b (Array.getD (ByteArray.data kB) (Int.toNat (nx q i % 16)) 0), fun R k => ?_⟩
  simp only [Fn52]
  rw [fn59 m q h0 (by omega) (by omega) (by omega), dT ⟨a1, a2⟩]
theorem lp53_13 (m : Nat) (q : Abs.Rows) {hi : Int} (hh : hi ≤ 1000) (by_ u v s : Int) : ∀ (d n : Nat) (r : Abs.Rows) (x j : Int), j + d = hi → 0 ≤ j → d < n → r.length + d ≤ 100000 →
    ∃ (r' : Abs.Rows) (x' : Int), r'.length = r.length + d ∧ ∀ (R : Type) (k : Abs.Rows → Int → Int → Option R), Lp53_13 m k by_ u v hi q s n r x j = k r' x' hi
  | d, 0, r, x, j, h2, h3, h4, h5 => by omega
  | 0, n + 1, r, x, j, h2, h3, h4, h5 => by
    refine ⟨r, x, rfl, fun R k => ?_⟩
    simp only [Lp53_13, Lp53_13_step]
    rw [dF (by omega)]
    congr 1; omega
  | d + 1, n + 1, r, x, j, h2, h3, h4, h5 => by
    obtain ⟨r', x', g1, g2⟩ := lp53_13 m q hh by_ u v s d n (r ++ [[F.lit (Value.int IntKind.i64 (IntKind.wrap IntKind.i64 (Int.tmod (IntKind.wrap IntKind.i64 (IntKind.wrap IntKind.i64 (x * by_) + 17)) 6007 - 3000)))]]) (Int.tmod (IntKind.wrap IntKind.i64 (IntKind.wrap IntKind.i64 (x * by_) + 17)) 6007) (j + 1) (by omega) (by omega) (by omega) (by simp; omega)
    refine ⟨r', x', by simp at g1; omega, fun R k => ?_⟩
    rw [Lp53_13]
    simp only [Lp53_13_step, letV]
    rw [dT (by omega), dT (by simp [rM]; omega), w64 (x := j + 1) (by omega) (by omega)]
    exact g2 R k
abbrev N5 : Abs.Rows := [[F.lit (Value.int IntKind.i64 (100 : Int))], [F.lit (Value.int IntKind.i64 (205 : Int))], [F.lit (Value.int IntKind.i64 (300 : Int))], [F.lit (Value.int IntKind.i64 (411 : Int))], [F.lit (Value.int IntKind.i64 (500 : Int))]]
abbrev N3 : Abs.Rows := [[F.lit (Value.int IntKind.i64 (50 : Int))], [F.lit (Value.int IntKind.i64 (205 : Int))], [F.lit (Value.int IntKind.i64 (300 : Int))]]
abbrev N2 : Abs.Rows := [[F.lit (Value.int IntKind.i64 (205 : Int))], [F.lit (Value.int IntKind.i64 (410 : Int))]]
theorem pkN5 (q : Abs.Rows) (i : Int) : 0 ≤ pk N5 q i ∧ pk N5 q i ≤ 500 := by
  refine pk_all (P := fun x => 0 ≤ x ∧ x ≤ 500) N5 q i (by simp) fun j hj => ?_
  simp at hj
  rcases (by omega : j = 0 ∨ j = 1 ∨ j = 2 ∨ j = 3 ∨ j = 4) with rfl | rfl | rfl | rfl | rfl <;> exact ⟨by decide, by decide⟩
theorem pkN3 (q : Abs.Rows) (i : Int) : 0 ≤ pk N3 q i ∧ pk N3 q i ≤ 500 := by
  refine pk_all (P := fun x => 0 ≤ x ∧ x ≤ 500) N3 q i (by simp) fun j hj => ?_
  simp at hj
  rcases (by omega : j = 0 ∨ j = 1 ∨ j = 2) with rfl | rfl | rfl <;> exact ⟨by decide, by decide⟩
theorem pkN2 (q : Abs.Rows) (i : Int) : 0 ≤ pk N2 q i ∧ pk N2 q i ≤ 500 := by
  refine pk_all (P := fun x => 0 ≤ x ∧ x ≤ 500) N2 q i (by simp) fun j hj => ?_
  simp at hj
  rcases (by omega : j = 0 ∨ j = 1) with rfl | rfl <;> exact ⟨by decide, by decide⟩
set_option maxRecDepth 20000 in
theorem lp53_3 (m : Nat) (hm : 2000 ≤ m) (q : Abs.Rows) {hi : Int} (hh : hi ≤ 10) : ∀ (d n : Nat) (r : Abs.Rows) (j i : Int), 0 ≤ i → i + 20 * d ≤ 10000 → j + d = hi → 0 ≤ j → d < n → r.length + 500 * d ≤ 10000 →
    ∃ (r' : Abs.Rows) (i' : Int), r'.length ≤ r.length + 500 * d ∧ i ≤ i' ∧ i' ≤ i + 20 * d ∧ ∀ (R : Type) (k : Abs.Rows → Int → Int → Option R), Lp53_3 (m + 10) k hi q n r j i = k r' hi i'
  | d, 0, r, j, i, h0, h1, h2, h3, h4, h5 => by omega
  | 0, n + 1, r, j, i, h0, h1, h2, h3, h4, h5 => by
    refine ⟨r, i, by omega, by omega, by omega, fun R k => ?_⟩
    simp only [Lp53_3, Lp53_3_step]
    rw [dF (by omega)]
    congr 1; omega
  | d + 1, n + 1, r, j, i, h0, h1, h2, h3, h4, h5 => by
    have wj : IntKind.wrap IntKind.i64 (j + 1) = j + 1 := w64 (by omega) (by omega)
    have key : ∃ (r1 : Abs.Rows) (i1 : Int), r1.length ≤ r.length + 500 ∧ i ≤ i1 ∧ i1 ≤ i + 20 ∧ ∀ (R : Type) (k : Abs.Rows → Int → Int → Option R), Lp53_3 (m + 10) k hi q (n + 1) r j i = Lp53_3 (m + 10) k hi q n r1 (j + 1) i1 := by
      by_cases c0 : nx q i % 4 = 0
      · have b1 := Int.emod_nonneg (nx q (i + 1)) (show (4 : Int) ≠ 0 by omega)
        have b2 := Int.emod_lt_of_pos (nx q (i + 1)) (show (0 : Int) < 4 by omega)
        obtain ⟨p0, p1⟩ := pkN5 q (i + 1 + 1)
        obtain ⟨N, hN⟩ := Int.eq_ofNat_of_zero_le p0
        obtain ⟨T, b, t1, t2⟩ := fn55t (u8b (Array.getD (ByteArray.data { data := #[(49 : UInt8), (53 : UInt8), (57 : UInt8), (68 : UInt8)] }) (Int.toNat (nx q (i + 1) % 4)) 0)) N (by omega)
        obtain ⟨o, o1, o2⟩ := fn44t T (pk [[F.lit (Value.int IntKind.i64 (256 : Int))], [F.lit (Value.int IntKind.i64 (64 : Int))], [F.lit (Value.int IntKind.i64 (16 : Int))], [F.lit (Value.int IntKind.i64 (1000 : Int))]] q (i + 1 + 1 + 1)) t1
        refine ⟨r ++ o, i + 1 + 1 + 1 + 1, by simp; omega, by omega, by omega, fun R k => ?_⟩
        rw [Lp53_3]
        simp only [Lp53_3_step, wj]
        rw [dT (by omega), fn59 (m + 8) q h0 (by omega) (by omega) (by omega), eT c0, fn59 (m + 8) q (by omega) (by omega) (by omega) (by omega), dT ⟨b1, b2⟩, fn20 (m + 7) q _ (by omega) (by omega) (by simp) (by simp), hN, t2 (m + 5) (by omega), fn20 (m + 7) q _ (by omega) (by omega) (by simp) (by simp), o2 (m + 8) (by omega), dT (by simp [rM]; omega)]
      by_cases c1 : nx q i % 4 = 1
      · obtain ⟨p0, p1⟩ := pkN3 q (i + 1)
        simp only [N3] at p0 p1
        refine ⟨r ++ List.replicate (Int.toNat (pk [[F.lit (Value.int IntKind.i64 (50 : Int))], [F.lit (Value.int IntKind.i64 (205 : Int))], [F.lit (Value.int IntKind.i64 (300 : Int))]] q (i + 1))) [F.lit (Value.int IntKind.i64 (0 : Int))], i + 1 + 1, by simp; omega, by omega, by omega, fun R k => ?_⟩
        rw [Lp53_3]
        simp only [Lp53_3_step, wj, letV]
        rw [dT (by omega), fn59 (m + 8) q h0 (by omega) (by omega) (by omega), eF c0, eT c1, fn20 (m + 7) q _ (by omega) (by omega) (by simp) (by simp), dT (by simp [rM]; omega), dT (by simp [rM]; omega)]
      by_cases c2 : nx q i % 4 = 2
      · obtain ⟨p0, p1⟩ := pkN2 q (i + 1 + 1 + 1)
        obtain ⟨N, hN⟩ := Int.eq_ofNat_of_zero_le p0
        obtain ⟨r', x', g1, g2⟩ := lp53_13 (m + 10) q (hi := pk N2 q (i + 1 + 1 + 1)) (by omega) (1 + nx q (i + 1 + 1) % (900 - 1 + 1)) hi j (i + 1 + 1 + 1 + 1) N (m + 10) r (0 + nx q (i + 1) % (3000 - 0 + 1)) 0 (by omega) (by omega) (by omega) (by omega)
        refine ⟨r', i + 1 + 1 + 1 + 1, by omega, by omega, by omega, fun R k => ?_⟩
        rw [Lp53_3]
        simp only [Lp53_3_step, wj]
        rw [dT (by omega), fn59 (m + 8) q h0 (by omega) (by omega) (by omega), eF c0, eF c1, eT c2, fn21 (m + 7) q (by omega) (by omega) (by omega) (by omega) (by omega), fn21 (m + 7) q (by omega) (by omega) (by omega) (by omega) (by omega), fn20 (m + 7) q _ (by omega) (by omega) (by simp) (by simp)]
        exact g2 R _
      · obtain ⟨A, b, t1, t2⟩ := fn55t (k := 49) ⟨by omega, by omega⟩ 410 (by omega)
        obtain ⟨v, hv, v1⟩ := fn52 (m + 7) q (i := i + 1) (by omega) (by omega)
        obtain ⟨B, b', t3, t4⟩ := fn55t hv 410 (by omega)
        obtain ⟨o, o1, o2⟩ := fn43t [[F.lst [LT.int IntKind.i64] A], [F.lst [LT.int IntKind.i64] B]] (by
          intro row hr
          simp only [List.mem_cons, List.not_mem_nil, or_false] at hr
          rcases hr with rfl | rfl
          · exact t1
          · exact t3) (by simp)
        refine ⟨r ++ o, i + 1 + 1, by simp; omega, by omega, by omega, fun R k => ?_⟩
        rw [Lp53_3]
        simp only [Lp53_3_step, wj]
        rw [dT (by omega), fn59 (m + 8) q h0 (by omega) (by omega) (by omega), eF c0, eF c1, eF c2]
        have q1 := t2 (m + 5) (by omega)
        have q3 := t4 (m + 5) (by omega)
        simp only [Int.cast_ofNat_Int] at q1 q3
        rw [q1, v1, q3, o2 (m + 7) (by omega), dT (by simp [rM]; omega)]
    obtain ⟨r1, i1, g1, g2, g3, g4⟩ := key
    obtain ⟨r', i', k1, k2, k3, k4⟩ := lp53_3 m hm q hh d n r1 (j + 1) i1 (by omega) (by omega) (by omega) (by omega) (by omega) (by omega)
    exact ⟨r', i', by omega, by omega, by omega, fun R k => by rw [g4, k4]⟩
theorem fn53 (m : Nat) (hm : 2000 ≤ m) (q : Abs.Rows) {i : Int} (h0 : 0 ≤ i) (h1 : i ≤ 1000) : ∃ (r' : Abs.Rows) (i' : Int), r'.length ≤ 5000 ∧ i ≤ i' ∧ i' ≤ i + 100 ∧ ∀ (R : Type) (k : Abs.Rows → Int → Option R), Fn53 (m + 11) q i k = k r' i' := by
  have a1 := Int.emod_nonneg (nx q i) (show (3 : Int) - 0 + 1 ≠ 0 by omega)
  have a2 := Int.emod_lt_of_pos (nx q i) (show (0 : Int) < 3 - 0 + 1 by omega)
  obtain ⟨d, hd⟩ := Int.eq_ofNat_of_zero_le a1
  obtain ⟨r', i', k1, k2, k3, k4⟩ := lp53_3 m hm q (hi := 0 + nx q i % (3 - 0 + 1)) (by omega) d (m + 10) rows0 0 (i + 1) (by omega) (by omega) (by omega) (by omega) (by omega) (by simp; omega)
  refine ⟨r', i', by simp at k1; omega, by omega, by omega, fun R k => ?_⟩
  simp only [Fn53]
  rw [fn21 (m + 7) q h0 (by omega) (by omega) (by omega) (by omega)]
  exact k4 R _
end Go.Proofs.Ytjhfbmhblpjigaa.Med
end
section
set_option linter.unusedVariables false
set_option linter.unusedSimpArgs false
namespace Go.Proofs.Ytjhfbmhblpjigaa.Med
open Go Go.Abs Go.Proofs
set_option linter.unusedVariables false
set_option linter.unusedSimpArgs false
/-! the strength of a number in a block -/
theorem lp98 (c : Int) (r : Abs.Rows) (hl : r.length ≤ 1000) (hs : ∀ j, j < r.length → Smp (fI r j 0)) : ∀ (d i : Nat) (u v : Int), i + d = r.length →
    ∃ u' v' : Int, ∀ (m n : Nat), d ≤ n → ∀ (R : Type) (k : Int → Int → Int → Option R), Lp98_3 (m + 1) k c r r r.length (n + 1) u v i = k u' v' r.length ∧ Lp99_3 (m + 1) k c r r r.length (n + 1) u v i = k u' v' r.length
  | 0, i, u, v, h => by
    refine ⟨u, v, fun m n hn R k => ?_⟩
    have : (i : Int) = r.length := by omega
    simp only [Lp98_3, Lp98_3_step, Lp99_3, Lp99_3_step]
    rw [dF (by omega), dF (by omega), this]
    exact ⟨rfl, rfl⟩
  | d + 1, i, u, v, h => by
    have e : Int.toNat (i : Int) = i := by omega
    have e2 : IntKind.wrap IntKind.i64 ((i : Int) + 1) = ((i + 1 : Nat) : Int) := by rw [w64 (by omega) (by omega)]; omega
    obtain ⟨s0, s1⟩ := hs i (by omega)
    have hb := w64b (c * u)
    obtain ⟨u', v', g⟩ := lp98 c r hl hs d (i + 1) (IntKind.wrap IntKind.i64 (IntKind.wrap IntKind.i64 (fI r i 0 / 8 + IntKind.wrap IntKind.i64 (c * u) / 16384) - v)) u (by omega)
    refine ⟨u', v', fun m n hn R k => ?_⟩
    obtain ⟨n', rfl⟩ : ∃ n', n = n' + 1 := ⟨n - 1, by omega⟩
    constructor
    · rw [Lp98_3]
      simp only [Lp98_3_step, e, e2, fdiv8, fdiv14]
      rw [dT (by omega), dT (by omega)]
      exact (g m n' (by omega) R k).1
    · rw [Lp99_3]
      simp only [Lp99_3_step, e, e2]
      rw [dT (by omega), dT (by omega), fn75a m (by omega) (by omega), fn75c m hb.1 hb.2]
      exact (g m n' (by omega) R k).2
theorem fn98 (c : Int) (r : Abs.Rows) (hl : r.length ≤ 1000) (hs : ∀ j, j < r.length → Smp (fI r j 0)) : ∃ v : Int, ∀ (m : Nat), 1001 ≤ m → ∀ (R : Type) (k : Int → Option R), Fn98 (m + 2) c r k = k v ∧ Fn99 (m + 2) c r k = k v := by
  obtain ⟨u', v', g⟩ := lp98 c r hl hs r.length 0 0 0 (by omega)
  have hb := w64b (c * u')
  apply Exists.intro
  refine fun m hm R k => ⟨?_, ?_⟩
  rotate_left
  · simp only [Fn99]
    refine ((g m m (by omega) R _).2).trans ?_
    rw [fn75c m hb.1 hb.2]
  · simp only [Fn98, fdiv14]
    exact (g m m (by omega) R _).1
/-! the greatest of some numbers, the first one of them -/
def bst (s : Nat → Int) : Nat → Nat
  | 0 => 0
  | n + 1 => if s n > s (bst s n) then n else bst s n
theorem bst_lt (s : Nat → Int) : ∀ n, 0 < n → bst s n < n
  | 0, h => by omega
  | n + 1, h => by
    simp only [bst]
    split
    · omega
    · by_cases hn : n = 0
      · subst hn; simp [bst]
      · have := bst_lt s n (by omega); omega
theorem bst_max (s : Nat → Int) : ∀ n j, j < n → s j ≤ s (bst s n) ∧ (j < bst s n → s j < s (bst s n))
  | 0, j, h => by omega
  | n + 1, j, h => by
    simp only [bst]
    by_cases hj : j < n
    · have := bst_max s n j hj
      split
      · exact ⟨by omega, fun _ => by omega⟩
      · exact this
    · have : j = n := by omega
      subst this
      split
      · exact ⟨Int.le_refl _, fun h => by omega⟩
      · rename_i hg
        refine ⟨by omega, fun hlt => ?_⟩
        by_cases hn : j = 0
        · subst hn; simp [bst] at hlt
        · have := bst_lt s j (by omega); omega
theorem mkI (s : Nat → Int) {n i : Nat} (h : i < n) : fI (mk .i64 s n) i 0 = s i := mk_fI _ _ h
theorem lp91_4 (L b : Abs.Rows) (s : Nat → Int) (hL : L.length = 4) (hs : ∀ j, j < 4 → ∀ (m : Nat), 1001 ≤ m → ∀ (R : Type) (k : Int → Option R), Fn98 (m + 2) (fI L j 0) b k = k (s j)) : ∀ (d i : Nat), i + d = 4 →
    ∀ (m n : Nat), d ≤ n → 1001 ≤ m → ∀ (R : Type) (k : Abs.Rows → Int → Int → Option R), Lp91_4 (m + 2) k L b L L.length (n + 1) (mk .i64 s i) (bst s i) i = k (mk .i64 s 4) (bst s 4) 4
  | 0, i, h, m, n, hn, hm, R, k => by
    have : i = 4 := by omega
    subst this
    simp only [Lp91_4, Lp91_4_step]
    rw [dF (by omega)]
    rfl
  | d + 1, i, h, m, n, hn, hm, R, k => by
    obtain ⟨n', rfl⟩ : ∃ n', n = n' + 1 := ⟨n - 1, by omega⟩
    have e : Int.toNat (i : Int) = i := by omega
    have e2 : IntKind.wrap IntKind.i64 ((i : Int) + 1) = ((i + 1 : Nat) : Int) := by rw [w64 (by omega) (by omega)]; omega
    have hb : bst s i < i + 1 := by
      by_cases h0 : i = 0
      · subst h0; simp [bst]
      · have := bst_lt s i (by omega); omega
    have e3 : Int.toNat ((bst s i : Nat) : Int) = bst s i := by omega
    rw [Lp91_4]
    simp only [Lp91_4_step, e, e2, letV]
    rw [dT (by omega), dT (by omega), hs i (by omega) m hm, dT (by simp [mk_len, rM]; omega), ← mk_succ .i64 s, dT (by rw [mk_len]; omega), dT (by rw [mk_len]; omega), e3, mkI s (by omega), mkI s hb]
    by_cases hg : s i > s (bst s i)
    · rw [dT hg]
      have := lp91_4 L b s hL hs d (i + 1) (by omega) m n' (by omega) hm R k
      rw [show bst s (i + 1) = i by simp [bst, hg]] at this
      exact this
    · rw [dF hg]
      have := lp91_4 L b s hL hs d (i + 1) (by omega) m n' (by omega) hm R k
      rw [show bst s (i + 1) = bst s i by simp [bst, hg]] at this
      exact this
theorem lp92_3 (L b : Abs.Rows) (s : Nat → Int) (hL : L.length = 4) (hs : ∀ j, j < 4 → ∀ (m : Nat), 1001 ≤ m → ∀ (R : Type) (k : Int → Option R), Fn99 (m + 2) (fI L j 0) b k = k (s j)) : ∀ (d i : Nat), i + d = 4 →
    ∀ (m n : Nat), d ≤ n → 1001 ≤ m → ∀ (R : Type) (k : Abs.Rows → Int → Option R), Lp92_3 (m + 2) k L b L L.length (n + 1) (mk .i64 s i) i = k (mk .i64 s 4) 4
  | 0, i, h, m, n, hn, hm, R, k => by
    have : i = 4 := by omega
    subst this
    simp only [Lp92_3, Lp92_3_step]
    rw [dF (by omega)]
    rfl
  | d + 1, i, h, m, n, hn, hm, R, k => by
    obtain ⟨n', rfl⟩ : ∃ n', n = n' + 1 := ⟨n - 1, by omega⟩
    have e : Int.toNat (i : Int) = i := by omega
    have e2 : IntKind.wrap IntKind.i64 ((i : Int) + 1) = ((i + 1 : Nat) : Int) := by rw [w64 (by omega) (by omega)]; omega
    rw [Lp92_3]
    simp only [Lp92_3_step, e, e2, letV]
    rw [dT (by omega), dT (by omega), hs i (by omega) m hm, dT (by simp [mk_len, rM]; omega), ← mk_succ .i64 s]
    exact lp92_3 L b s hL hs d (i + 1) (by omega) m n' (by omega) hm R k
theorem lp80 (s : Nat → Int) : ∀ (d i : Nat), i + d = 4 → 0 < i → ∀ (m n : Nat), d ≤ n → ∀ (R : Type) (k : Int → Int → Option R), Lp80_5 m k (mk .i64 s 4) (n + 1) (s (bst s i)) i = k (s (bst s 4)) 4
  | 0, i, h, h0, m, n, hn, R, k => by
    have : i = 4 := by omega
    subst this
    simp only [Lp80_5, Lp80_5_step, mk_len]
    rw [dF (by omega)]
    rfl
  | d + 1, i, h, h0, m, n, hn, R, k => by
    obtain ⟨n', rfl⟩ : ∃ n', n = n' + 1 := ⟨n - 1, by omega⟩
    have e : Int.toNat (i : Int) = i := by omega
    have e2 : IntKind.wrap IntKind.i64 ((i : Int) + 1) = ((i + 1 : Nat) : Int) := by rw [w64 (by omega) (by omega)]; omega
    rw [Lp80_5]
    simp only [Lp80_5_step, e, e2, mk_len]
    rw [dT (by omega), dT (by omega), mkI s (by omega)]
    have := lp80 s d (i + 1) (by omega) (by omega) m n' (by omega) R k
    rw [← this]
    congr 1
    simp only [bst]
    split <;> rfl
theorem fn80 (s : Nat → Int) (m : Nat) (hm : 10 ≤ m) {R : Type} (k : Int → Option R) : Fn80 (m + 1) (mk .i64 s 4) k = k (s (bst s 4)) := by
  simp only [Fn80, Jn80_2, mk_len]
  rw [dF (by omega), dT (by omega), Int.toNat_zero, mkI s (by omega)]
  obtain ⟨m', rfl⟩ : ∃ m', m = m' + 1 := ⟨m - 1, by omega⟩
  have h := lp80 s 3 1 (by omega) (by omega) (m' + 1) m' (by omega) R
  rw [show bst s 1 = 0 by simp [bst]] at h
  exact h _
theorem lp96 (s : Nat → Int) : ∀ (d i : Nat), i + d = 4 → i ≤ bst s 4 → ∀ (m n : Nat), d ≤ n → ∀ (R : Type) (k : Int → Option R) (k1 : Int → Option R) (z : Int), Lp96_2 m (fun x _ => k x) k1 (mk .i64 s 4) (s (bst s 4)) z 4 (n + 1) i = k (bst s 4)
  | 0, i, h, h0, m, n, hn, R, k, k1, z => by
    have := bst_lt s 4 (by omega)
    omega
  | d + 1, i, h, h0, m, n, hn, R, k, k1, z => by
    obtain ⟨n', rfl⟩ : ∃ n', n = n' + 1 := ⟨n - 1, by omega⟩
    have e : Int.toNat (i : Int) = i := by omega
    have e2 : IntKind.wrap IntKind.i64 ((i : Int) + 1) = ((i + 1 : Nat) : Int) := by rw [w64 (by omega) (by omega)]; omega
    rw [Lp96_2]
    simp only [Lp96_2_step, e, e2, mk_len]
    rw [dT (by omega), dT (by omega), mkI s (by omega)]
    by_cases hi : i = bst s 4
    · rw [eT (by rw [← hi]), hi]
    · have := (bst_max s 4 i (by omega)).2 (by omega)
      rw [eF (by omega)]
      exact lp96 s d (i + 1) (by omega) (by omega) m n' (by omega) R k k1 z
theorem fn96 (s : Nat → Int) (m : Nat) (hm : 10 ≤ m) {R : Type} (k : Int → Option R) : Fn96 (m + 1) (mk .i64 s 4) (s (bst s 4)) k = k (bst s 4) := by
  simp only [Fn96, mk_len]
  obtain ⟨m', rfl⟩ : ∃ m', m = m' + 1 := ⟨m - 1, by omega⟩
  exact lp96 s 4 0 (by omega) (by omega) (m' + 1) m' (by omega) R k _ 0
/-- is another one too near -/
def bad (s : Nat → Int) (x : Nat) : Nat → Nat → Bool
  | 0, _ => false
  | d + 1, i => if i ≠ x ∧ s x < IntKind.wrap .i64 (6 * s i) then true else bad s x d (i + 1)
theorem lp91_13 (s : Nat → Int) (x : Nat) (hx : x < 4) : ∀ (d i : Nat), i + d = 4 → (bad s x d i = true ∧ ∃ j : Int, ∀ (m n : Nat), d ≤ n → ∀ (R : Type) (k0 : Int → Bool → Int → Option R) (k1 : Int → Option R), Lp91_13 m k0 k1 (mk .i64 s 4) x 4 4 (n + 1) i = k0 0 false j) ∨
    (bad s x d i = false ∧ ∀ (m n : Nat), d ≤ n → ∀ (R : Type) (k0 : Int → Bool → Int → Option R) (k1 : Int → Option R), Lp91_13 m k0 k1 (mk .i64 s 4) x 4 4 (n + 1) i = k1 4)
  | 0, i, h => by
    right
    refine ⟨rfl, fun m n hn R k0 k1 => ?_⟩
    have : i = 4 := by omega
    subst this
    simp only [Lp91_13, Lp91_13_step]
    rw [dF (by omega)]
    rfl
  | d + 1, i, h => by
    have e : Int.toNat (i : Int) = i := by omega
    have ex : Int.toNat (x : Int) = x := by omega
    have e2 : IntKind.wrap IntKind.i64 ((i : Int) + 1) = ((i + 1 : Nat) : Int) := by rw [w64 (by omega) (by omega)]; omega
    have st : ∀ (m n' : Nat) (R : Type) (k0 : Int → Bool → Int → Option R) (k1 : Int → Option R), Lp91_13 m k0 k1 (mk .i64 s 4) x 4 4 (n' + 1 + 1) i = if i ≠ x ∧ s x < IntKind.wrap .i64 (6 * s i) then k0 0 false i else Lp91_13 m k0 k1 (mk .i64 s 4) x 4 4 (n' + 1) ((i + 1 : Nat) : Int) := by
      intro m n' R k0 k1
      rw [Lp91_13]
      simp only [Lp91_13_step, e, e2, mk_len, ex]
      rw [dT (by omega), dT (by omega)]
      by_cases c : i = x
      · rw [nF (by omega), if_neg (by simp [c])]
      · rw [nT (by omega), dT (by omega), mkI s hx, mkI s (by omega)]
        by_cases c2 : s x < IntKind.wrap .i64 (6 * s i)
        · rw [dT c2, if_pos ⟨c, c2⟩]
        · rw [dF c2, if_neg (by simp [c2])]
    simp only [bad]
    by_cases hc : i ≠ x ∧ s x < IntKind.wrap .i64 (6 * s i)
    · left
      rw [if_pos hc]
      refine ⟨rfl, i, fun m n hn R k0 k1 => ?_⟩
      obtain ⟨n', rfl⟩ : ∃ n', n = n' + 1 := ⟨n - 1, by omega⟩
      rw [st, if_pos hc]
    · rw [if_neg hc]
      rcases lp91_13 s x hx d (i + 1) (by omega) with ⟨h1, j, h2⟩ | ⟨h1, h2⟩
      · left
        refine ⟨h1, j, fun m n hn R k0 k1 => ?_⟩
        obtain ⟨n', rfl⟩ : ∃ n', n = n' + 1 := ⟨n - 1, by omega⟩
        rw [st, if_neg hc]
        exact h2 m n' (by omega) R k0 k1
      · right
        refine ⟨h1, fun m n hn R k0 k1 => ?_⟩
        obtain ⟨n', rfl⟩ : ∃ n', n = n' + 1 := ⟨n - 1, by omega⟩
        rw [st, if_neg hc]
        exact h2 m n' (by omega) R k0 k1
theorem lp92_11 (s : Nat → Int) (x : Nat) (hx : x < 4) (hg : ¬ s x < 4000000) : ∀ (d i : Nat), i + d = 4 → (bad s x d i = true ∧ ∃ j : Int, ∀ (m n : Nat), d ≤ n → ∀ (R : Type) (k0 : Int → Int → Option R) (k1 : Int → Option R), Lp92_11 m k0 k1 (mk .i64 s 4) x 4 4 (n + 1) i = k0 (-1) j) ∨
    (bad s x d i = false ∧ ∀ (m n : Nat), d ≤ n → ∀ (R : Type) (k0 : Int → Int → Option R) (k1 : Int → Option R), Lp92_11 m k0 k1 (mk .i64 s 4) x 4 4 (n + 1) i = k1 4)
  | 0, i, h => by
    right
    refine ⟨rfl, fun m n hn R k0 k1 => ?_⟩
    have : i = 4 := by omega
    subst this
    simp only [Lp92_11, Lp92_11_step]
    rw [dF (by omega)]
    rfl
  | d + 1, i, h => by
    have e : Int.toNat (i : Int) = i := by omega
    have ex : Int.toNat (x : Int) = x := by omega
    have e2 : IntKind.wrap IntKind.i64 ((i : Int) + 1) = ((i + 1 : Nat) : Int) := by rw [w64 (by omega) (by omega)]; omega
    have st : ∀ (m n' : Nat) (R : Type) (k0 : Int → Int → Option R) (k1 : Int → Option R), Lp92_11 m k0 k1 (mk .i64 s 4) x 4 4 (n' + 1 + 1) i = if i ≠ x ∧ s x < IntKind.wrap .i64 (6 * s i) then k0 (-1) i else Lp92_11 m k0 k1 (mk .i64 s 4) x 4 4 (n' + 1) ((i + 1 : Nat) : Int) := by
      intro m n' R k0 k1
      rw [Lp92_11]
      simp only [Lp92_11_step, e, e2, mk_len, ex]
      rw [dT (by omega), dT (by omega), dT (by omega), mkI s hx, dF hg]
      by_cases c : i = x
      · rw [nF (by omega), if_neg (by simp [c])]
      · rw [nT (by omega), dT (by omega), mkI s (by omega)]
        by_cases c2 : s x < IntKind.wrap .i64 (6 * s i)
        · rw [dT c2, if_pos ⟨c, c2⟩]
        · rw [dF c2, if_neg (by simp [c2])]
    simp only [bad]
    by_cases hc : i ≠ x ∧ s x < IntKind.wrap .i64 (6 * s i)
    · left
      rw [if_pos hc]
      refine ⟨rfl, i, fun m n hn R k0 k1 => ?_⟩
      obtain ⟨n', rfl⟩ : ∃ n', n = n' + 1 := ⟨n - 1, by omega⟩
      rw [st, if_pos hc]
    · rw [if_neg hc]
      rcases lp92_11 s x hx hg d (i + 1) (by omega) with ⟨h1, j, h2⟩ | ⟨h1, h2⟩
      · left
        refine ⟨h1, j, fun m n hn R k0 k1 => ?_⟩
        obtain ⟨n', rfl⟩ : ∃ n', n = n' + 1 := ⟨n - 1, by omega⟩
        rw [st, if_neg hc]
        exact h2 m n' (by omega) R k0 k1
      · right
        refine ⟨h1, fun m n hn R k0 k1 => ?_⟩
        obtain ⟨n', rfl⟩ : ∃ n', n = n' + 1 := ⟨n - 1, by omega⟩
        rw [st, if_neg hc]
        exact h2 m n' (by omega) R k0 k1
/-- both find the strongest alike; the ref says -1 where the program says that there is none -/
theorem strongest (L b : Abs.Rows) (hL : L.length = 4) (hl : b.length ≤ 1000) (hs : ∀ j, j < b.length → Smp (fI b j 0)) : ∃ (v w : Int) (f : Bool), (f = true → v = w ∧ 0 ≤ v ∧ v ≤ 3) ∧ (f = false → w = -1) ∧
    ∀ (m : Nat), 1010 ≤ m → ∀ (R : Type), (∀ k : Int → Bool → Option R, Fn91 (m + 4) L b k = k v f) ∧ ∀ k : Int → Option R, Fn92 (m + 4) L b k = k w := by
  let s : Nat → Int := fun j => (fn98 (fI L j 0) b hl hs).choose
  have hs1 : ∀ j, j < 4 → ∀ (m : Nat), 1001 ≤ m → ∀ (R : Type) (k : Int → Option R), Fn98 (m + 2) (fI L j 0) b k = k (s j) := fun j _ m hm R k => ((fn98 (fI L j 0) b hl hs).choose_spec m hm R k).1
  have hs2 : ∀ j, j < 4 → ∀ (m : Nat), 1001 ≤ m → ∀ (R : Type) (k : Int → Option R), Fn99 (m + 2) (fI L j 0) b k = k (s j) := fun j _ m hm R k => ((fn98 (fI L j 0) b hl hs).choose_spec m hm R k).2
  have hx : bst s 4 < 4 := bst_lt s 4 (by omega)
  have ex : Int.toNat ((bst s 4 : Nat) : Int) = bst s 4 := by omega
  -- the program
  have p1 : ∀ (m : Nat), 1010 ≤ m → ∀ (R : Type) (k : Int → Bool → Option R), Fn91 (m + 4) L b k = Lp91_13 (m + 3) (fun i403 b404 i405 => k i403 b404) (fun i406 => bif decide ((0 : Int) ≤ ((bst s 4 : Nat) : Int) ∧ ((bst s 4 : Nat) : Int) < (((mk .i64 s 4).length : Nat) : Int)) then (k ((bst s 4 : Nat) : Int) (decide (fI (mk .i64 s 4) (Int.toNat ((bst s 4 : Nat) : Int)) 0 ≥ 4000000))) else none) (mk .i64 s 4) (bst s 4) (mk .i64 s 4).length (((mk .i64 s 4).length : Nat) : Int) (m + 3) 0 := by
    intro m hm R k
    simp only [Fn91]
    exact lp91_4 L b s hL hs1 4 0 (by omega) (m + 1) (m + 2) (by omega) (by omega) R _
  have p2 : ∀ (m : Nat), 1010 ≤ m → ∀ (R : Type) (k : Int → Option R), Fn92 (m + 4) L b k = Lp92_11 (m + 3) (fun i567 i568 => k i567) (fun i569 => k ((bst s 4 : Nat) : Int)) (mk .i64 s 4) (bst s 4) (mk .i64 s 4).length (((mk .i64 s 4).length : Nat) : Int) (m + 3) 0 := by
    intro m hm R k
    simp only [Fn92]
    refine (lp92_3 L b s hL hs2 4 0 (by omega) (m + 1) (m + 2) (by omega) (by omega) R _).trans ?_
    rw [fn80 s (m + 2) (by omega), fn96 s (m + 2) (by omega)]
  simp only [mk_len] at p1 p2
  by_cases hg : s (bst s 4) < 4000000
  · have r2 : ∀ (m : Nat), 1010 ≤ m → ∀ (R : Type) (k : Int → Option R), Fn92 (m + 4) L b k = k (-1) := by
      intro m hm R k
      rw [p2 m hm, Lp92_11]
      simp only [Lp92_11_step, mk_len, ex]
      rw [dT (by omega), dT (by omega), dT (by omega), mkI s hx, dT hg]
    rcases lp91_13 s (bst s 4) hx 4 0 (by omega) with ⟨h1, j, h2⟩ | ⟨h1, h2⟩
    · exact ⟨0, -1, false, (fun h => by cases h), fun _ => rfl, fun m hm R => ⟨fun k => by rw [p1 m hm]; exact h2 (m + 3) (m + 2) (by omega) R _ _, fun k => r2 m hm R k⟩⟩
    · refine ⟨(bst s 4 : Nat), -1, false, (fun h => by cases h), fun _ => rfl, fun m hm R => ⟨fun k => ?_, fun k => r2 m hm R k⟩⟩
      rw [p1 m hm]
      refine (h2 (m + 3) (m + 2) (by omega) R _ _).trans ?_
      rw [dT (by omega), ex, mkI s hx, decide_eq_false (by omega)]
  · rcases lp91_13 s (bst s 4) hx 4 0 (by omega) with ⟨h1, j, h2⟩ | ⟨h1, h2⟩
    · rcases lp92_11 s (bst s 4) hx hg 4 0 (by omega) with ⟨h3, j2, h4⟩ | ⟨h3, h4⟩
      · exact ⟨0, -1, false, (fun h => by cases h), fun _ => rfl, fun m hm R => ⟨fun k => by rw [p1 m hm]; exact h2 (m + 3) (m + 2) (by omega) R _ _, fun k => by rw [p2 m hm]; exact h4 (m + 3) (m + 2) (by omega) R _ _⟩⟩
      · rw [h1] at h3; cases h3
    · rcases lp92_11 s (bst s 4) hx hg 4 0 (by omega) with ⟨h3, j2, h4⟩ | ⟨h3, h4⟩
      · rw [h1] at h3; cases h3
      · refine ⟨(bst s 4 : Nat), (bst s 4 : Nat), true, fun _ => ⟨rfl, by omega, by omega⟩, (fun h => by cases h), fun m hm R => ⟨fun k => ?_, fun k => by rw [p2 m hm]; exact h4 (m + 3) (m + 2) (by omega) R _ _⟩⟩
        rw [p1 m hm]
        refine (h2 (m + 3) (m + 2) (by omega) R _ _).trans ?_
        rw [dT (by omega), ex, mkI s hx, decide_eq_true (by omega)]
end Go.Proofs.Ytjhfbmhblpjigaa.Med
end
section
set_option linter.unusedVariables false
set_option linter.unusedSimpArgs false
namespace Go.Proofs.Ytjhfbmhblpjigaa.Med
open Go Go.Abs Go.Proofs
set_option linter.unusedVariables false
set_option linter.unusedSimpArgs false
/-- the byte that is heard for a key -/
def hv (c : Int) : Int := if c < 0 then 32 else ((Array.getD (ByteArray.data kB) (Int.toNat c) 0).toNat : Int)
abbrev u8r (x : Int) : List F := [F.lit (Value.int IntKind.u8 x)]
def Key (c : Int) : Prop := -1 ≤ c ∧ c ≤ 15
theorem hv_neg {c : Int} (h : c < 0) : hv c = 32 := if_pos h
theorem hv_pos {c : Int} (h : ¬ c < 0) : hv c = ((Array.getD (ByteArray.data kB) (Int.toNat c) 0).toNat : Int) := if_neg h
theorem hv_inj {a b : Int} (ha : Key a) (hb : Key b) (h : hv a = hv b) : a = b := by
  have all : ∀ x y : Fin 17, hv ((x.val : Int) - 1) = hv ((y.val : Int) - 1) → x = y := by decide +kernel
  obtain ⟨a0, a1⟩ := ha
  obtain ⟨b0, b1⟩ := hb
  have := all ⟨(a + 1).toNat, by omega⟩ ⟨(b + 1).toNat, by omega⟩ (by
    simp only [show (((a + 1).toNat : Nat) : Int) - 1 = a by omega, show (((b + 1).toNat : Nat) : Int) - 1 = b by omega]; exact h)
  have := congrArg Fin.val this
  simp only at this
  omega
theorem hv_enc {c : Int} (h0 : 0 ≤ c) (h1 : c ≤ 15) : (Utf8.encode (IntKind.wrap IntKind.i32 (hv c))) = ByteArray.empty.push (UInt8.ofNat (hv c).toNat) ∧ hv c ≠ 32 := by
  have all : ∀ x : Fin 16, (Utf8.encode (IntKind.wrap IntKind.i32 (hv (x.val : Int)))).data = (ByteArray.empty.push (UInt8.ofNat (hv (x.val : Int)).toNat)).data ∧ hv (x.val : Int) ≠ 32 := by decide +kernel
  have := all ⟨c.toNat, by omega⟩
  simp only [show ((c.toNat : Nat) : Int) = c by omega] at this
  exact ⟨ByteArray.ext this.1, this.2⟩
/-! one block -/
theorem blk (b : Abs.Rows) (hl : b.length ≤ 1000) (hs : ∀ j, j < b.length → Smp (fI b j 0)) : ∃ c : Int, Key c ∧ ∀ (m : Nat), 1020 ≤ m →
    (∀ (R : Type) (K : Int → Option R), Fn85 m (fun r360 => Fn91 m r360 b (fun i409 b410 => Fn86 m (fun r411 => Fn91 m r411 b (fun i412 b413 => bif b410 then (bif b413 then (K (IntKind.wrap IntKind.i64 (IntKind.wrap IntKind.i64 ((4 : Int) * i409) + i412))) else K (-1)) else K (-1))))) = K c) ∧
    ∀ (R : Type) (K : Abs.Rows → Option R) (r h : Abs.Rows), h.length ≤ 1000 → Fn89 m (fun r496 => Fn92 m r496 b (fun i571 => Fn90 m (fun r572 => Fn92 m r572 b (fun i573 => bif decide (i571 < (0 : Int)) then (Jn57_6 m (fun x _ => K x) r h i571 i573 true) else (Jn57_6 m (fun x _ => K x) r h i571 i573 (decide (i573 < (0 : Int)))))))) = K (h ++ [u8r (hv c)]) := by
  obtain ⟨v1, w1, f1, g1, g2, g3⟩ := strongest [[F.lit (Value.int IntKind.i64 (27980 : Int))], [F.lit (Value.int IntKind.i64 (26956 : Int))], [F.lit (Value.int IntKind.i64 (25701 : Int))], [F.lit (Value.int IntKind.i64 (24219 : Int))]] b rfl hl hs
  obtain ⟨v2, w2, f2, g4, g5, g6⟩ := strongest [[F.lit (Value.int IntKind.i64 (19073 : Int))], [F.lit (Value.int IntKind.i64 (16325 : Int))], [F.lit (Value.int IntKind.i64 (13085 : Int))], [F.lit (Value.int IntKind.i64 (9315 : Int))]] b rfl hl hs
  have nonec : ∀ (m : Nat) (R : Type) (K : Abs.Rows → Option R) (r h : Abs.Rows) (x y : Int), h.length ≤ 1000 → Jn57_6 m (fun x _ => K x) r h x y true = K (h ++ [u8r (hv (-1))]) := by
    intro m R K r h x y hh
    simp only [Jn57_6, letV]
    rw [bT rfl, dT (by rw [rM]; simp; omega)]
    rfl
  cases f1 with
  | false =>
    have hw := g2 rfl
    refine ⟨-1, ⟨by omega, by omega⟩, fun m hm => ?_⟩
    obtain ⟨m, rfl⟩ : ∃ m', m = m' + 4 := ⟨m - 4, by omega⟩
    refine ⟨fun R K => ?_, fun R K r h hh => ?_⟩
    · simp only [Fn85, Fn86]
      rw [(g3 m (by omega) R).1, (g6 m (by omega) R).1]
      rfl
    · simp only [Fn89, Fn90]
      rw [(g3 m (by omega) R).2, (g6 m (by omega) R).2, dT (by omega)]
      exact nonec _ R K r h _ _ hh
  | true =>
    obtain ⟨ha, hb, hc⟩ := g1 rfl
    cases f2 with
    | false =>
      have hw := g5 rfl
      refine ⟨-1, ⟨by omega, by omega⟩, fun m hm => ?_⟩
      obtain ⟨m, rfl⟩ : ∃ m', m = m' + 4 := ⟨m - 4, by omega⟩
      refine ⟨fun R K => ?_, fun R K r h hh => ?_⟩
      · simp only [Fn85, Fn86]
        rw [(g3 m (by omega) R).1, (g6 m (by omega) R).1]
        rfl
      · simp only [Fn89, Fn90]
        rw [(g3 m (by omega) R).2, (g6 m (by omega) R).2, dF (by omega), decide_eq_true (show w2 < 0 by omega)]
        exact nonec _ R K r h _ _ hh
    | true =>
      obtain ⟨hd, he, hf⟩ := g4 rfl
      have e1 : IntKind.wrap IntKind.i64 (IntKind.wrap IntKind.i64 ((4 : Int) * v1) + v2) = 4 * v1 + v2 := by
        rw [w64 (x := 4 * v1) (by omega) (by omega), w64 (by omega) (by omega)]
      refine ⟨4 * v1 + v2, ⟨by omega, by omega⟩, fun m hm => ?_⟩
      obtain ⟨m, rfl⟩ : ∃ m', m = m' + 4 := ⟨m - 4, by omega⟩
      refine ⟨fun R K => ?_, fun R K r h hh => ?_⟩
      · simp only [Fn85, Fn86]
        rw [(g3 m (by omega) R).1, (g6 m (by omega) R).1, e1]
        rfl
      · simp only [Fn89, Fn90]
        rw [(g3 m (by omega) R).2, (g6 m (by omega) R).2, ← ha, ← hd, dF (by omega), decide_eq_false (show ¬ v2 < 0 by omega)]
        simp only [Jn57_6, letV, e1]
        rw [bF rfl, dT (by show (0 : Int) ≤ 4 * v1 + v2 ∧ 4 * v1 + v2 < 16; omega), dT (by rw [rM]; simp; omega), hv_pos (by omega)]
/-! the keys, one after another -/
def keysFrom (key : Nat → Int) : Nat → Nat → List Int
  | 0, _ => []
  | d + 1, j => key j :: keysFrom key d (j + 1)
def emit (last many : Int) : List Int → List Int
  | [] => []
  | c :: cs => if c = last then (if many + 1 = 2 ∧ c ≥ 0 then [hv c] else []) ++ emit c (many + 1) cs else emit c 1 cs
def blkOf (r : Abs.Rows) (j : Nat) : Abs.Rows := List.take 205 (List.drop (205 * j) r)
theorem fI_blk (r : Abs.Rows) (j i : Nat) (h : i < 205) : fI (blkOf r j) i 0 = fI r (205 * j + i) 0 := by
  simp [fI, dropF, Abs.rowAt, List.getD_eq_getElem?_getD, blkOf, h]
theorem blk_len (r : Abs.Rows) (j : Nat) : (blkOf r j).length ≤ 205 := by simp [blkOf]; omega
theorem jn56 (m : Nat) (c last many : Int) (out : Abs.Rows) (hc : Key c) (hm0 : 0 ≤ many) (hm1 : many ≤ 1000) (ho : out.length ≤ 1000) (a : Abs.Rows) (z : Int) : ∃ (out' : Abs.Rows) (many' : Int), 0 ≤ many' ∧ many' ≤ many + 1 ∧ out'.length ≤ out.length + 1 ∧ (∀ cs, out ++ (emit last many (c :: cs)).map u8r = out' ++ (emit c many' cs).map u8r) ∧
    ∀ (R : Type) (K : Abs.Rows → Int → Int → Option R), Jn56_16 m K a out last many z c = K out' c many' := by
  obtain ⟨hc0, hc1⟩ := hc
  by_cases h : c = last
  · have e : IntKind.wrap IntKind.i64 (many + 1) = many + 1 := w64 (by omega) (by omega)
    by_cases h2 : many + 1 = 2 ∧ c ≥ 0
    · refine ⟨out ++ [u8r (hv c)], many + 1, by omega, by omega, by simp, fun cs => by simp [emit, h2, ← h], fun R K => ?_⟩
      simp only [Jn56_16, Jn56_18, e, letV]
      rw [nF h, eT h2.1, dT h2.2, dT (by show (0 : Int) ≤ c ∧ c < 16; omega), dT (by rw [rM]; simp; omega), hv_pos (by omega), h]
    · refine ⟨out, many + 1, by omega, by omega, by omega, fun cs => by simp only [emit]; rw [if_pos h, if_neg h2]; simp, fun R K => ?_⟩
      simp only [Jn56_16, Jn56_18, e, letV]
      rw [nF h]
      by_cases h3 : many + 1 = 2
      · rw [eT h3, dF (by omega), h]
      · rw [eF h3, h]
  · refine ⟨out, 1, by omega, by omega, by omega, fun cs => by simp [emit, h], fun R K => ?_⟩
    simp only [Jn56_16, Jn56_18]
    rw [nT h, eF (by rw [w64 (by omega) (by omega)]; omega)]
    rfl
theorem lp56 (r : Abs.Rows) (key : Nat → Int) (hr : r.length ≤ 20000) (N : Nat) (hN : 205 * N ≤ r.length) (hN2 : r.length < 205 * N + 205) (hk : ∀ j, j < N → Key (key j) ∧ ∀ (m : Nat), 1020 ≤ m → ∀ (R : Type) (K : Int → Option R), Fn85 m (fun r360 => Fn91 m r360 (blkOf r j) (fun i409 b410 => Fn86 m (fun r411 => Fn91 m r411 (blkOf r j) (fun i412 b413 => bif b410 then (bif b413 then (K (IntKind.wrap IntKind.i64 (IntKind.wrap IntKind.i64 ((4 : Int) * i409) + i412))) else K (-1)) else K (-1))))) = K (key j)) :
    ∀ (d j : Nat), j + d = N → ∀ (out : Abs.Rows) (last many : Int), 0 ≤ many → many + d ≤ 500 → out.length + d ≤ 500 → ∀ (m n : Nat), 1020 ≤ m → d ≤ n → ∀ (R : Type) (K : Abs.Rows → Option R), Lp56_8 m (fun x _ _ _ => K x) r (n + 1) out last many ((205 * j : Nat) : Int) = K (out ++ (emit last many (keysFrom key d j)).map u8r)
  | 0, j, h, out, last, many, h0, h1, h2, m, n, hm, hn, R, K => by
    simp only [Lp56_8, Lp56_8_step, keysFrom, emit]
    rw [dF (by rw [w64 (by omega) (by omega)]; omega)]
    simp
  | d + 1, j, h, out, last, many, h0, h1, h2, m, n, hm, hn, R, K => by
    obtain ⟨n', rfl⟩ : ∃ n', n = n' + 1 := ⟨n - 1, by omega⟩
    have e : IntKind.wrap IntKind.i64 (((205 * j : Nat) : Int) + 205) = ((205 * (j + 1) : Nat) : Int) := by rw [w64 (by omega) (by omega)]; omega
    obtain ⟨kk, g⟩ := hk j (by omega)
    obtain ⟨out', many', q0, q1, q2, q3, q4⟩ := jn56 m (key j) last many out kk h0 (by omega) (by omega) r ((205 * j : Nat) : Int)
    rw [Lp56_8]
    simp only [Lp56_8_step, e, Int.toNat_natCast]
    rw [dT (by omega), dT (by omega), dT (by omega), show 205 * (j + 1) - 205 * j = 205 by omega]
    have := g m hm R (fun c => Jn56_16 m (fun r436 i437 i438 => Lp56_8 m (fun x _ _ _ => K x) r (n' + 1) r436 i437 i438 ((205 * (j + 1) : Nat) : Int)) r out last many ((205 * j : Nat) : Int) c)
    refine Eq.trans this ?_
    rw [q4 R, lp56 r key hr N hN hN2 hk d (j + 1) (by omega) out' (key j) many' q0 (by omega) (by omega) m n' hm (by omega) R K]
    simp only [keysFrom, q3]
theorem lp57 (r : Abs.Rows) (key : Nat → Int) (hr : r.length ≤ 20000) (N : Nat) (hN : 205 * N ≤ r.length) (hN2 : r.length < 205 * N + 205) (hk : ∀ j, j < N → ∀ (m : Nat), 1020 ≤ m → ∀ (R : Type) (K : Abs.Rows → Option R) (r' h : Abs.Rows), h.length ≤ 1000 → Fn89 m (fun r496 => Fn92 m r496 (blkOf r j) (fun i571 => Fn90 m (fun r572 => Fn92 m r572 (blkOf r j) (fun i573 => bif decide (i571 < (0 : Int)) then (Jn57_6 m (fun x _ => K x) r' h i571 i573 true) else (Jn57_6 m (fun x _ => K x) r' h i571 i573 (decide (i573 < (0 : Int)))))))) = K (h ++ [u8r (hv (key j))])) :
    ∀ (d j : Nat), j + d = N → ∀ (h : Abs.Rows), h.length + d ≤ 500 → ∀ (m n : Nat), 1020 ≤ m → d ≤ n → ∀ (R : Type) (K : Abs.Rows → Option R), Lp57_2 m (fun _ x => K x) (n + 1) (List.drop (205 * j) r) h = K (h ++ (keysFrom key d j).map (fun c => u8r (hv c)))
  | 0, j, h, out, h1, m, n, hm, hn, R, K => by
    simp only [Lp57_2, Lp57_2_step, keysFrom]
    rw [dF (by simp; omega)]
    simp
  | d + 1, j, h, out, h1, m, n, hm, hn, R, K => by
    obtain ⟨n', rfl⟩ : ∃ n', n = n' + 1 := ⟨n - 1, by omega⟩
    have e : (List.drop (205 * j) r).length = r.length - 205 * j := by simp
    have e3 : List.take (r.length - 205 * j - Int.toNat (205 : Int)) (List.drop (Int.toNat (205 : Int)) (List.drop (205 * j) r)) = List.drop (205 * (j + 1)) r := by
      rw [List.drop_drop, List.take_of_length_le]
      · congr 1
      · simp; omega
    have c1 : (0 : Int) ≤ 205 ∧ (205 : Int) ≤ (((r.length - 205 * j : Nat)) : Int) := by omega
    rw [Lp57_2]
    simp only [Lp57_2_step, e, e3, decide_eq_true c1, cond_true]
    rw [dT (by omega)]
    have := hk j (by omega) m hm R (fun x => Lp57_2 m (fun _ x => K x) (n' + 1) (List.drop (205 * (j + 1)) r) x) (List.drop (205 * j) r) out (by omega)
    refine Eq.trans this ?_
    rw [lp57 r key hr N hN hN2 hk d (j + 1) (by omega) _ (by simp; omega) m n' hm (by omega) R K]
    simp [keysFrom]
end Go.Proofs.Ytjhfbmhblpjigaa.Med
end
section
set_option linter.unusedVariables false
set_option linter.unusedSimpArgs false
namespace Go.Proofs.Ytjhfbmhblpjigaa.Med
open Go Go.Abs Go.Proofs
set_option linter.unusedVariables false
set_option linter.unusedSimpArgs false
/-! byte lists as texts -/
theorem rb_app (a b : Abs.Rows) : rowsBytes (a ++ b) = rowsBytes a ++ rowsBytes b := by
  have push_app : ∀ (s t : ByteArray) (x : UInt8), s ++ t.push x = (s ++ t).push x := by
    intro s t x
    apply ByteArray.ext
    simp [ByteArray.data_append, ByteArray.data_push]
  have gen : ∀ (l : List Int) (s t : ByteArray), l.foldl (fun r n => r.push (UInt8.ofNat n.toNat)) (s ++ t) = s ++ l.foldl (fun r n => r.push (UInt8.ofNat n.toNat)) t := by
    intro l
    induction l with
    | nil => intro s t; rfl
    | cons x xs ih => intro s t; simp only [List.foldl_cons]; rw [← push_app, ih]
  have := gen (b.map rowInt) (rowsBytes a) ByteArray.empty
  simp only [rowsBytes, List.map_append, List.foldl_append]
  simpa [rowsBytes] using this
theorem rb_one {c : Int} (h0 : 0 ≤ c) (h1 : c ≤ 15) : rowsBytes [u8r (hv c)] = Utf8.encode (IntKind.wrap IntKind.i32 (hv c)) := by
  rw [(hv_enc h0 h1).1]; rfl
theorem rb_size (r : Abs.Rows) : (rowsBytes r).size = r.length := by
  have gen : ∀ (l : List Int) (s : ByteArray), (l.foldl (fun r n => r.push (UInt8.ofNat n.toNat)) s).size = s.size + l.length := by
    intro l
    induction l with
    | nil => intro s; rfl
    | cons x xs ih => intro s; simp only [List.foldl_cons]; rw [ih]; simp; omega
  simp only [rowsBytes, gen]
  simp
def nxt (h : Nat → Int) (v : Int) : Nat → Nat → Nat
  | 0, i => i
  | d + 1, i => if h i = v then nxt h v d (i + 1) else i
theorem nxt_b (h : Nat → Int) (v : Int) : ∀ (d i : Nat), i ≤ nxt h v d i ∧ nxt h v d i ≤ i + d ∧ (nxt h v d i < i + d → h (nxt h v d i) ≠ v)
  | 0, i => ⟨Nat.le_refl _, Nat.le_refl _, fun h => by simp [nxt] at h⟩
  | d + 1, i => by
    simp only [nxt]
    split
    · have := nxt_b h v d (i + 1)
      refine ⟨by omega, by omega, fun hh => this.2.2 (by omega)⟩
    · rename_i hn
      exact ⟨Nat.le_refl _, by omega, fun _ => hn⟩
theorem emit_ge2 (key : Nat → Int) (x : Int) : ∀ (d i : Nat) (many : Int), 2 ≤ many → ∃ many' : Int, 2 ≤ many' ∧ emit x many (keysFrom key d i) = emit x many' (keysFrom key (i + d - nxt key x d i) (nxt key x d i))
  | 0, i, many, h => ⟨many, h, by simp [nxt]⟩
  | d + 1, i, many, h => by
    by_cases hk : key i = x
    · obtain ⟨many', h1, h2⟩ := emit_ge2 key x d (i + 1) (many + 1) (by omega)
      refine ⟨many', h1, ?_⟩
      have e1 : nxt key x (d + 1) i = nxt key x d (i + 1) := by simp [nxt, hk]
      rw [e1, show i + (d + 1) = i + 1 + d by omega, ← h2]
      simp only [keysFrom, emit]
      rw [if_pos hk, if_neg (by omega), hk]
      rfl
    · refine ⟨many, h, ?_⟩
      have e1 : nxt key x (d + 1) i = i := by simp [nxt, hk]
      rw [e1, show i + (d + 1) - i = d + 1 by omega]
theorem emit_1 (key : Nat → Int) (x : Int) (d i : Nat) : ∃ many' : Int, 1 ≤ many' ∧ emit x 1 (keysFrom key d i) = (if i < nxt key x d i ∧ x ≥ 0 then [hv x] else []) ++ emit x many' (keysFrom key (i + d - nxt key x d i) (nxt key x d i)) := by
  cases d with
  | zero => exact ⟨1, by omega, by simp [nxt]⟩
  | succ d =>
    by_cases hk : key i = x
    · obtain ⟨many', h1, h2⟩ := emit_ge2 key x d (i + 1) 2 (by omega)
      refine ⟨many', by omega, ?_⟩
      have e1 : nxt key x (d + 1) i = nxt key x d (i + 1) := by simp [nxt, hk]
      have b := nxt_b key x d (i + 1)
      rw [e1, show i + (d + 1) = i + 1 + d by omega, ← h2]
      simp only [keysFrom, emit]
      rw [if_pos hk, hk]
      by_cases hx : x ≥ 0
      · rw [if_pos ⟨by omega, hx⟩, if_pos ⟨by omega, hx⟩]; rfl
      · rw [if_neg (by omega), if_neg (by omega)]; rfl
    · refine ⟨1, by omega, ?_⟩
      have e1 : nxt key x (d + 1) i = i := by simp [nxt, hk]
      rw [e1, show i + (d + 1) - i = d + 1 by omega, if_neg (by omega)]
      rfl
/-! the runs of the ref -/
theorem keys_map (key : Nat → Int) : ∀ (N i : Nat), (keysFrom key N i).map (fun c => u8r (hv c)) = (List.range N).map (fun j => u8r (hv (key (i + j))))
  | 0, i => rfl
  | N + 1, i => by
    rw [keysFrom, List.range_succ_eq_map, List.map_cons, keys_map key N (i + 1), List.map_cons, List.map_map]
    simp only [Function.comp_def]
    congr 1
    apply List.map_congr_left
    intro j _
    rw [show i + 1 + j = i + (j + 1) by omega]
theorem lp57_15 (key : Nat → Int) (N : Nat) (hN : N ≤ 1000) (hk : ∀ j, j < N → Key (key j)) (i0 : Nat) (hi0 : i0 < N) (s : ByteArray) : ∀ (d i : Nat), i + d = N → ∀ (m n : Nat), d ≤ n → ∀ (R : Type) (K : Int → Option R),
    Lp57_15 m K (mk .u8 (fun j => hv (key j)) N) s i0 (n + 1) i = K (nxt key (key i0) d i : Nat)
  | 0, i, h, m, n, hn, R, K => by
    simp only [Lp57_15, Lp57_15_step, mk_len, nxt]
    rw [dF (by omega)]
  | d + 1, i, h, m, n, hn, R, K => by
    obtain ⟨n', rfl⟩ : ∃ n', n = n' + 1 := ⟨n - 1, by omega⟩
    have e2 : IntKind.wrap IntKind.i64 ((i : Int) + 1) = ((i + 1 : Nat) : Int) := by rw [w64 (by omega) (by omega)]; omega
    rw [Lp57_15]
    simp only [Lp57_15_step, mk_len, e2, Int.toNat_natCast]
    rw [dT (by omega), dT (by omega), dT (by omega), mk_fI _ _ (by omega), mk_fI _ _ hi0]
    by_cases hx : key i = key i0
    · rw [eT (by rw [hx])]
      simp only [nxt]
      rw [if_pos hx]
      exact lp57_15 key N hN hk i0 hi0 s d (i + 1) (by omega) m n' (by omega) R K
    · rw [eF (fun h => hx (hv_inj (hk i (by omega)) (hk i0 hi0) h))]
      simp only [nxt]
      rw [if_neg hx]
theorem lp57_11 (key : Nat → Int) (N : Nat) (hN : N ≤ 400) (hk : ∀ j, j < N → Key (key j)) : ∀ (D d : Nat), d ≤ D → ∀ (i : Nat), i + d = N → ∀ (s : ByteArray) (last many : Int), (d = 0 ∨ key i ≠ last ∨ many = 0) → s.size ≤ 500 * i → ∀ (m n : Nat), 500 ≤ m → d ≤ n → ∀ (R : Type) (K : ByteArray → Option R),
    Lp57_11 m (fun x _ => K x) (mk .u8 (fun j => hv (key j)) N) (n + 1) s i = K (s ++ rowsBytes ((emit last many (keysFrom key d i)).map u8r))
  | D, 0, h, i, hi, s, last, many, hf, hs, m, n, hm, hn, R, K => by
    simp only [Lp57_11, Lp57_11_step, mk_len, keysFrom, emit]
    rw [dF (by omega)]
    simp [rowsBytes]
  | 0, d + 1, h, i, hi, s, last, many, hf, hs, m, n, hm, hn, R, K => by omega
  | D + 1, d + 1, h, i, hi, s, last, many, hf, hs, m, n, hm, hn, R, K => by
    obtain ⟨n', rfl⟩ : ∃ n', n = n' + 1 := ⟨n - 1, by omega⟩
    obtain ⟨m, rfl⟩ : ∃ m', m = m' + 1 := ⟨m - 1, by omega⟩
    have kk := hk i (by omega)
    have hfirst : emit last many (keysFrom key (d + 1) i) = emit (key i) 1 (keysFrom key d (i + 1)) := by
      simp only [keysFrom, emit]
      rcases hf with h0 | h0 | h0
      · omega
      · rw [if_neg h0]
      · split
        · rw [if_neg (by omega), h0]; rfl
        · rfl
    obtain ⟨many', h1, h2⟩ := emit_1 key (key i) d (i + 1)
    have b := nxt_b key (key i) d (i + 1)
    generalize hj : nxt key (key i) d (i + 1) = j at h2 b
    have e1 : nxt key (key i) (d + 1) i = j := by simp [nxt, hj]
    have e2 : IntKind.wrap IntKind.i64 ((j : Int) - (i : Int)) = (j : Int) - i := w64 (by omega) (by omega)
    rw [Lp57_11]
    simp only [Lp57_11_step, mk_len]
    rw [dT (by omega), lp57_15 key N (by omega) hk i (by omega) s (d + 1) i hi (m + 1) m (by omega), e1, e2, hfirst, h2]
    have ih := fun (s' : ByteArray) (hs' : s'.size ≤ 500 * j) => lp57_11 key N hN hk D (i + 1 + d - j) (by omega) j (by omega) s' (key i) many' (by
      by_cases hz : i + 1 + d - j = 0
      · exact .inl hz
      · exact .inr (.inl (b.2.2 (by omega)))) hs' (m + 1) n' hm (by omega) R K
    obtain ⟨c0, c1⟩ := kk
    by_cases hrun : i + 1 < j
    · rw [dT (by omega), dT (by omega), Int.toNat_natCast, mk_fI _ _ (by omega)]
      by_cases hx : key i ≥ 0
      · have en := hv_enc hx c1
        have one := rb_one hx c1
        have sz : (Utf8.encode (IntKind.wrap IntKind.i32 (hv (key i)))).size = 1 := by rw [← one, rb_size]; rfl
        have ef : fI (mk .u8 (fun j => hv (key j)) N) i 0 = hv (key i) := mk_fI _ _ (by omega)
        simp only [Jn57_19, mk_len, Int.toNat_natCast, ef]
        rw [bne_iff_ne.2 en.2, bT rfl, dT (by omega), dT (by rw [sz]; show s.size + 1 ≤ 1099511627776; omega), ih _ (by rw [ByteArray.size_append, sz]; omega), if_pos ⟨hrun, hx⟩, List.map_append, rb_app]
        rw [List.map_cons, List.map_nil, one, ByteArray.append_assoc]
      · have e32 : hv (key i) = 32 := hv_neg (by omega)
        simp only [Jn57_19]
        rw [e32, bne_self_eq_false, bF rfl, ih s (by omega), if_neg (by omega), List.nil_append]
    · simp only [Jn57_19]
      rw [dF (by omega), bF rfl, ih s (by omega), if_neg (by omega), List.nil_append]
end Go.Proofs.Ytjhfbmhblpjigaa.Med
end
section
set_option linter.unusedVariables false
set_option linter.unusedSimpArgs false
namespace Go.Proofs.Ytjhfbmhblpjigaa.Med
open Go Go.Abs Go.Proofs
set_option linter.unusedVariables false
set_option linter.unusedSimpArgs false
set_option maxRecDepth 20000 in
theorem jn13 (m : Nat) (b : Bool) (r : Abs.Rows) (hl : r.length ≤ 20000) (hm : 21000 ≤ m) {R : Type} (k : Bool → Option R) : Jn8_13 (m + 10) k b r = k true := by
  have f0 : ∀ (K : ByteArray → Int → Option R), Fn56 (m + 10) r K = if smpF r ≠ 0 then K { data := #[] } (smpF r) else Lp56_8 (m + 9) (fun r449 _ _ _ => K (rowsBytes r449) 0) r (m + 9) rows0 (-1) 0 0 := by
    intro K
    simp only [Fn56]
    rw [fn29 (m + 6) r _ (by omega)]
    by_cases h : smpF r = 0
    · rw [nF h, if_neg (by omega)]
    · rw [nT h, if_pos h]
  simp only [Jn8_13]
  rw [f0]
  by_cases h : smpF r = 0
  · rw [if_neg (by omega)]
    obtain ⟨hl2, hs⟩ := smpF_ok h
    let N := r.length / 205
    have hN1 : 205 * N ≤ r.length := by omega
    have hN2 : r.length < 205 * N + 205 := by omega
    have hb : ∀ j, j < N → ∀ i, i < (blkOf r j).length → Smp (fI (blkOf r j) i 0) := by
      intro j hj i hi
      have := blk_len r j
      rw [fI_blk r j i (by omega)]
      exact hs _ (by omega)
    let key : Nat → Int := fun j => if hj : j < N then (blk (blkOf r j) (by have := blk_len r j; omega) (hb j hj)).choose else 0
    have hkey : ∀ j, (hj : j < N) → key j = (blk (blkOf r j) (by have := blk_len r j; omega) (hb j hj)).choose := fun j hj => dif_pos hj
    have hspec := fun j (hj : j < N) => (blk (blkOf r j) (by have := blk_len r j; omega) (hb j hj)).choose_spec
    have hk0 : ∀ j, j < N → Key (key j) := fun j hj => by rw [hkey j hj]; exact (hspec j hj).1
    have p := lp56 r key hl N hN1 hN2 (fun j hj => ⟨hk0 j hj, fun m hm => by rw [hkey j hj]; exact ((hspec j hj).2 m hm).1⟩) N 0 (by omega) rows0 (-1) 0 (by omega) (by omega) (by simp; omega) (m + 9) (m + 8) (by omega) (by omega)
    have q := lp57 r key hl N hN1 hN2 (fun j hj m hm => by rw [hkey j hj]; exact ((hspec j hj).2 m hm).2) N 0 (by omega) [] (by simp; omega) (m + 9) (m + 8) (by omega) (by omega)
    have u := lp57_11 key N (by omega) hk0 N N (Nat.le_refl _) 0 (by omega) { data := #[] } (-1) 0 (.inr (.inr rfl)) (Nat.le_refl 0) (m + 9) (m + 8) (by omega) (by omega)
    have e0 : (List.map (fun c => u8r (hv c)) (keysFrom key N 0)) = mk .u8 (fun j => hv (key j)) N := by
      rw [keys_map]; simp [mk]
    refine (p R _).trans ?_
    rw [fn28 (m + 4) r _ (by omega), h, nF rfl, eT rfl]
    simp only [Fn57]
    have q' := q R (fun r590 => Lp57_11 (m + 9) (fun s613 _ => (fun s616 => bif ByteArray.toList (rowsBytes (rows0 ++ List.map u8r (emit (-1) 0 (keysFrom key N 0)))) == ByteArray.toList s616 then (Fn19 (m + 10) (fun b617 => k b617)) else (k false)) s613) r590 (m + 9) { data := #[] } 0)
    refine Eq.trans q' ?_
    rw [e0, List.nil_append]
    refine (u R _).trans ?_
    rw [show (({ data := #[] } : ByteArray) ++ rowsBytes (List.map u8r (emit (-1) 0 (keysFrom key N 0)))) = rowsBytes (List.map u8r (emit (-1) 0 (keysFrom key N 0))) from ByteArray.ext (by simp [ByteArray.data_append])]
    rw [beq_self_eq_true, bT rfl]
    exact fn19 (m + 8) k
  · rw [if_pos h, fn28 (m + 4) r _ (by omega), nT h, eT rfl, beq_self_eq_true, bT rfl]
    exact fn19 (m + 8) k
theorem jn10 (m : Nat) (b b2 : Bool) (r t : Abs.Rows) (e x : Int) (u v : Abs.Rows) (hl : r.length ≤ 20000) (ht : t.length ≤ 20000) (hm : 21000 ≤ m) {R : Type} (k : Bool → Option R) (k0 : Bool → Option R) : Jn8_10 (m + 10) k0 k b r t e e t x u b2 v = k true := by
  simp only [Jn8_10]
  rw [nF rfl, fn38 (m + 9) t _ (by omega) (by omega), notC, bT rfl]
  exact jn13 m b r hl hm k
theorem jn10v (m : Nat) (b : Bool) (r t : Abs.Rows) (e x : Int) (hl : r.length ≤ 20000) (ht : t.length ≤ 20000) (hm : 21000 ≤ m) {R : Type} (k : Bool → Option R) (k0 : Bool → Option R) : Jn8_10v1 (m + 10) k0 k b r t e e t x = k true := by
  simp only [Jn8_10v1]
  rw [nF rfl, fn38v1 (m + 9) t _ (by omega) (by omega), notC, bT rfl]
  exact jn13 m b r hl hm k
theorem jn7x (m : Nat) (b : Bool) (kk n : Int) (r : Abs.Rows) {e : Int} (he : e ≠ 0) (x : Int) (hl : r.length ≤ 20000) (hm : 21000 ≤ m) {R : Type} (k : Bool → Option R) (k0 : Bool → Option R) : Jn8_7 (m + 10) k0 k b kk n r rows0 e e x = k true := by
  simp only [Jn8_7]
  rw [eF he]
  exact jn10v m b r rows0 e x hl (by simp) hm k k0
def MnyOk (n : Int) : Prop := n = -1 ∨ n = 20001 ∨ (0 ≤ n ∧ n ≤ 20000)
theorem jn4 (m : Nat) (b : Bool) {kk n : Int} (hk : Byt kk) (hn : MnyOk n) (r : Abs.Rows) (hl : r.length ≤ 20000) (hm : 21000 ≤ m) {R : Type} (k : Bool → Option R) : Jn8_4 (m + 10) k b kk n r = k true := by
  have fn24 : ∀ (b : Bool) (x : Int) (K : Int → Option R), Fn24 (m + 10) b x K = bif b then K x else K 0 := fun b x K => rfl
  have hb := kx_b kk
  simp only [Jn8_4, fn24]
  by_cases hx : kx kk < 0
  · have f54 : ∀ (K : Abs.Rows → Int → Option R), Fn54 (m + 10) kk n K = K rows0 4 := by
      intro K
      simp only [Fn54]
      rw [fn83 (m + 8) kk _ (by omega), dT hx]
    rw [f54, fn55n (m + 5) hk hx]
    simp only [Bool.not_false, cond_true]
    by_cases h1 : n < 0
    · rw [dT h1, fn35 (m + 5), if_pos (by omega)]
      exact jn7x m b kk n r (by omega) _ hl hm k k
    · rw [dF h1]
      by_cases h2 : n > 20000
      · rw [dT h2, fn35 (m + 5), if_pos (by omega)]
        exact jn7x m b kk n r (by omega) _ hl hm k k
      · rw [dF h2, fn35 (m + 5), if_pos (by omega)]
        exact jn7x m b kk n r (by omega) _ hl hm k k
  · obtain ⟨T0, t0, g0⟩ := tone hk hx 0 (by omega)
    simp only [Int.natCast_zero] at g0
    by_cases hv : 0 ≤ n ∧ n ≤ 20000
    · obtain ⟨N, rfl⟩ := Int.eq_ofNat_of_zero_le hv.1
      obtain ⟨T, t1, g1⟩ := tone hk hx N (by omega)
      rw [(g1 (m + 5) (by omega) R).1, (g0 (m + 5) (by omega) R).2]
      simp only [Bool.not_true, cond_false]
      rw [dF (by omega), dF (by omega), fn35 (m + 5), if_neg (by omega)]
      simp only [Jn8_7]
      rw [eT rfl, (g1 (m + 5) (by omega) R).2]
      exact jn10 m b true r T 0 0 T T hl (by omega) hm k k
    · have f54 : ∀ (K : Abs.Rows → Int → Option R), Fn54 (m + 10) kk n K = K rows0 1 := by
        intro K
        simp only [Fn54]
        rw [fn83 (m + 8) kk _ (by omega), dF hx, (inT (m + 8) _).1, decide_eq_false hv, notC, bF rfl]
      rw [f54, (g0 (m + 5) (by omega) R).2]
      simp only [Bool.not_true, cond_false]
      rcases hn with rfl | rfl | h
      · rw [dT (by omega), bT rfl, fn35 (m + 5), if_neg (by omega)]
        exact jn7x m b kk _ r (by omega) _ hl hm k k
      · rw [dF (by omega), dT (by omega), fn35 (m + 5), if_neg (by omega)]
        exact jn7x m b kk _ r (by omega) _ hl hm k k
      · exact absurd h hv
theorem fn8a (M : Nat) (hM : 21000 ≤ M) (q : Abs.Rows) {R : Type} (k : Bool → Option R) : Fn8 (M + 60) q k = k true := by
  obtain ⟨v, hv, g⟩ := fn52 (M + 56) q (i := 0) (by omega) (by omega)
  have hm : MnyOk (pk ([[F.lit (Value.int IntKind.i64 (0 : Int))], [F.lit (Value.int IntKind.i64 (1 : Int))], [F.lit (Value.int IntKind.i64 (2 : Int))], [F.lit (Value.int IntKind.i64 (3 : Int))], [F.lit (Value.int IntKind.i64 (50 : Int))], [F.lit (Value.int IntKind.i64 (410 : Int))], [F.lit (Value.int IntKind.i64 (-1 : Int))], [F.lit (Value.int IntKind.i64 (20001 : Int))]]) q (0 + 1)) := by
    apply pk_all _ _ _ (by decide)
    intro j hj
    have : j < 8 := hj
    rcases (by omega : j = 0 ∨ j = 1 ∨ j = 2 ∨ j = 3 ∨ j = 4 ∨ j = 5 ∨ j = 6 ∨ j = 7) with rfl | rfl | rfl | rfl | rfl | rfl | rfl | rfl
    · exact .inr (.inr (by decide))
    · exact .inr (.inr (by decide))
    · exact .inr (.inr (by decide))
    · exact .inr (.inr (by decide))
    · exact .inr (.inr (by decide))
    · exact .inr (.inr (by decide))
    · exact .inl (by decide)
    · exact .inr (.inl (by decide))
  obtain ⟨r', i', n0, n1, n2, n3⟩ := fn53 (M + 48) (by omega) q (i := 0 + 1 + 1) (by omega) (by omega)
  simp only [Fn8]
  rw [g, fn20 (M + 56) q _ (by omega) (by omega) (by simp) (by simp), n3, fn39 (M + 56) q (by omega) (by omega) (by omega) (by omega)]
  by_cases h : nx q i' % 12 = 0
  · rw [beq_iff_eq.2 h, bT rfl, fn20 (M + 56) q _ (by omega) (by omega) (by simp) (by simp)]
    exact jn4 (M + 49) _ (w8b _) hm r' (by omega) (by omega) k
  · rw [beq_false_of_ne h, bF rfl]
    exact jn4 (M + 49) _ hv hm r' (by omega) (by omega) k
theorem fn8 (m : Nat) (q : Abs.Rows) {R : Type} (k : Bool → Option R) : Fn8 (m + 21000 + 60) q k = k true := fn8a (m + 21000) (by omega) q k
end Go.Proofs.Ytjhfbmhblpjigaa.Med
end
section
set_option linter.unusedVariables false
set_option linter.unusedSimpArgs false
namespace Go.Proofs.Ytjhfbmhblpjigaa.Med
open Go Go.Abs Go.Proofs Go.RowKit
theorem fn8_ok (rows : Abs.Rows) (m : Nat) (h : ∀ (R : Type) (k : Bool → Option R), Fn8 m rows k = k true) : FnOk Try.prog 8 [.f (.lst [.int .i64] rows)] (vBool true) [.undef] := by
  refine law_of (okT46 m) fun R k => ?_
  exact h R _
theorem walk8 (w : World) (a : Option Addr) (len cap : Nat) (zs : List Int) (h : IsInts .i64 w a len cap zs) : Calls Try.prog 8 #[.slice a len cap] w fun e w' => e = .returned (.bool true) ∧ Below w.heap.size w w' := by
  obtain ⟨body, hb⟩ : ∃ b, Try.f8.body = some b := ⟨_, rfl⟩
  exact law_calls Try.func8 (by kernel_rfl) hb h (fn8_ok _ _ fun R k => fn8 0 _ k)
end Go.Proofs.Ytjhfbmhblpjigaa.Med
end
