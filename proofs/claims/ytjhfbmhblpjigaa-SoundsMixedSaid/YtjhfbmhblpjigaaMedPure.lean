/- A part of the proofs of the seat Ytjhfbmhblpjigaa: no statement of the seat stands here. -/
import Derived.Test.YtjhfbmhblpjigaaRows
import Derived.Test.YtjhfbmhblpjigaaMedTyped
section
set_option linter.unusedVariables false
set_option linter.unusedSimpArgs false
namespace Go.Proofs.Ytjhfbmhblpjigaa.Med
open Go Go.Abs Go.Proofs
set_option linter.unusedVariables false
set_option linter.unusedSimpArgs false
section
variable {α : Type} {a b : α}
theorem dT {p : Prop} [Decidable p] (h : p) : (bif decide p then a else b) = a := by rw [decide_eq_true h]; rfl
theorem dF {p : Prop} [Decidable p] (h : ¬p) : (bif decide p then a else b) = b := by rw [decide_eq_false h]; rfl
theorem eT {x y : Int} (h : x = y) : (bif x == y then a else b) = a := by simp [h]
theorem nT {x y : Int} (h : ¬ x = y) : (bif x != y then a else b) = a := by rw [bne_iff_ne.2 h]; rfl
theorem nF {x y : Int} (h : x = y) : (bif x != y then a else b) = b := by subst h; rw [bne_self_eq_false]; rfl
theorem eF {x y : Int} (h : ¬ x = y) : (bif x == y then a else b) = b := by rw [beq_false_of_ne h]; rfl
theorem andC {p q : Bool} : (bif p && q then a else b) = bif p then (bif q then a else b) else b := by cases p <;> rfl
theorem orC {p q : Bool} : (bif p || q then a else b) = bif p then a else (bif q then a else b) := by cases p <;> rfl
theorem notC {p : Bool} : (bif !p then a else b) = bif p then b else a := by cases p <;> rfl
theorem bT {c : Bool} (h : c = true) : (bif c then a else b) = a := by subst h; rfl
theorem bF {c : Bool} (h : c = false) : (bif c then a else b) = b := by subst h; rfl
end
theorem w64 {x : Int} (h0 : -9223372036854775808 ≤ x) (h1 : x < 9223372036854775808) : IntKind.wrap .i64 x = x := by
  rw [IntKind.wrap_i64]; omega
theorem w64b (x : Int) : -9223372036854775808 ≤ IntKind.wrap .i64 x ∧ IntKind.wrap .i64 x < 9223372036854775808 := by
  rw [IntKind.wrap_i64]; omega
theorem w8 {x : Int} (h0 : 0 ≤ x) (h1 : x < 256) : IntKind.wrap .u8 x = x := by
  rw [IntKind.wrap_u8]; omega
theorem w8b (x : Int) : 0 ≤ IntKind.wrap .u8 x ∧ IntKind.wrap .u8 x < 256 := by
  rw [IntKind.wrap_u8]; omega
theorem rM : rowMax = 1073741824 := rfl
theorem tm_pos {x y : Int} (h : 0 ≤ x) : Int.tmod x y = x % y := Int.tmod_eq_emod_of_nonneg h
theorem td_pos {x y : Int} (h : 0 ≤ x) : Int.tdiv x y = x / y := Int.tdiv_eq_ediv_of_nonneg h
/-- a row of one whole number -/
theorem stR1 (t : LT) (r : Abs.Rows) (i : Nat) (x : F) : stR [t] r i 0 [x] = r.set i [x] := rfl
theorem fI_set {r : Abs.Rows} {i : Nat} {k : IntKind} {n : Int} (h : i < r.length) : fI (r.set i [F.lit (.int k n)]) i 0 = n := by
  simp [fI, dropF, Abs.rowAt, List.getD_eq_getElem?_getD, h, F.toInt]
theorem fI_set_ne {r : Abs.Rows} {i j : Nat} {x : List F} (h : i ≠ j) : fI (r.set i x) j 0 = fI r j 0 := by
  simp [fI, dropF, Abs.rowAt, List.getD_eq_getElem?_getD, List.getElem?_set_ne h]
theorem fI_app {r : Abs.Rows} {k : IntKind} {n : Int} : fI (r ++ [[F.lit (.int k n)]]) r.length 0 = n := by
  simp [fI, dropF, Abs.rowAt, List.getD_eq_getElem?_getD, F.toInt]
theorem fI_app_lt {r s : Abs.Rows} {i : Nat} (h : i < r.length) : fI (r ++ s) i 0 = fI r i 0 := by
  simp [fI, dropF, Abs.rowAt, List.getD_eq_getElem?_getD, List.getElem?_append_left h]
/-! lists that are made place by place -/
def mk (t : IntKind) (g : Nat → Int) (n : Nat) : Abs.Rows := (List.range n).map fun j => [F.lit (.int t (g j))]
theorem mk_len (t : IntKind) (g : Nat → Int) (n : Nat) : (mk t g n).length = n := by simp [mk]
theorem mk_succ (t : IntKind) (g : Nat → Int) (n : Nat) : mk t g (n + 1) = mk t g n ++ [[F.lit (.int t (g n))]] := by simp [mk, List.range_succ]
theorem mk_set (t : IntKind) (g : Nat → Int) (n d : Nat) (z : List F) : (mk t g n ++ List.replicate (d + 1) z).set n [F.lit (.int t (g n))] = mk t g (n + 1) ++ List.replicate d z := by
  rw [mk_succ, List.set_append_right _ _ (by simp [mk_len]), mk_len, Nat.sub_self, List.replicate_succ, List.set_cons_zero]
  simp
theorem mk_fI (t : IntKind) (g : Nat → Int) {n i : Nat} (h : i < n) : fI (mk t g n) i 0 = g i := by
  simp [fI, dropF, Abs.rowAt, List.getD_eq_getElem?_getD, mk, h, F.toInt]
def Byt (x : Int) : Prop := 0 ≤ x ∧ x < 256
end Go.Proofs.Ytjhfbmhblpjigaa.Med
end
section
set_option linter.unusedVariables false
set_option linter.unusedSimpArgs false
namespace Go.Proofs.Ytjhfbmhblpjigaa.Med
open Go Go.Abs Go.Proofs
set_option linter.unusedVariables false
set_option linter.unusedSimpArgs false
theorem fn93 (m : Nat) {x y : Int} (hy : 1 ≤ y) (hy2 : y ≤ 1099511627776) {R : Type} {k : Int → Option R} : Fn93 (m + 1) x y k = k (x % y) := by
  have h2 : Int.tmod x y = x % y ∨ (Int.tmod x y + y = x % y ∧ Int.tmod x y < 0 ∧ -y < Int.tmod x y) := by
    by_cases h : 0 ≤ x
    · exact .inl (Int.tmod_eq_emod_of_nonneg h)
    · have h3 := Int.tmod_eq_emod (a := x) (b := y)
      have h4 := Int.emod_nonneg x (show y ≠ 0 by omega)
      have h5 := Int.emod_lt_of_pos x (show 0 < y by omega)
      by_cases hd : y ∣ x
      · left; rw [h3]; simp [hd]
      · right
        have h6 : Int.tmod x y = x % y - y := by
          rw [h3, if_neg (by simp; exact ⟨by omega, hd⟩)]
          omega
        have h7 : x % y ≠ 0 := fun h => hd (Int.dvd_of_emod_eq_zero h)
        omega
  have h4 := Int.emod_nonneg x (show y ≠ 0 by omega)
  simp only [Fn93]
  rw [dF (by omega), dT (by omega)]
  rcases h2 with h2 | ⟨h2, h3, h5⟩
  · rw [dF (by omega), h2]
  · rw [dT h3, w64 (by omega) (by omega), h2]
def nx (r : Abs.Rows) (i : Int) : Int := if (r.length : Int) = 0 then IntKind.wrap .i64 ((i + 1) * 7919) else
  IntKind.wrap IntKind.i64 (fI r (Int.toNat (Int.tmod i (r.length : Int))) 0 % 1073741824 + IntKind.wrap IntKind.i64 (IntKind.wrap IntKind.i64 (Int.tdiv i (r.length : Int)) * IntKind.wrap IntKind.i64 (7919 + Int.tmod i (r.length : Int))))
theorem fn59 (m : Nat) (r : Abs.Rows) {i n : Int} (h0 : 0 ≤ i) (h1 : i ≤ 1099511627776) (hn : 1 ≤ n) (hn2 : n ≤ 1099511627776) {R : Type} {k : Int → Int → Option R} :
    Fn59 (m + 2) r i n k = k (nx r i % n) (i + 1) := by
  have e1 : IntKind.wrap .i64 (i + 1) = i + 1 := w64 (by omega) (by omega)
  have e2 : IntKind.wrap .i64 (i + 1 - 1) = i := by rw [show i + 1 - 1 = i by omega]; exact w64 (by omega) (by omega)
  by_cases hr : (r.length : Int) = 0
  · simp only [Fn59, e1, nx, hr, if_true]
    rw [eT rfl, fn93 m hn hn2]
  · have hm1 : 0 ≤ Int.tmod i (r.length : Int) := Int.tmod_nonneg _ h0
    have hm2 : Int.tmod i (r.length : Int) < (r.length : Int) := Int.tmod_lt_of_pos _ (by omega)
    simp only [Fn59, e1, e2, nx, if_neg hr]
    rw [eF hr, dT hr, dT hr, dT ⟨hm1, hm2⟩, fn93 m (by omega) (by omega), fn93 m hn hn2]
    try rfl
theorem fn39 (m : Nat) (r : Abs.Rows) {i n : Int} (h0 : 0 ≤ i) (h1 : i ≤ 1099511627776) (hn : 1 ≤ n) (hn2 : n ≤ 1099511627776) {R : Type} {k : Bool → Int → Option R} :
    Fn39 (m + 3) r i n k = k (nx r i % n == 0) (i + 1) := by
  simp only [Fn39]
  rw [fn59 m r h0 h1 hn hn2]
/-- one of some numbers -/
def pk (rows q : Abs.Rows) (i : Int) : Int := fI rows (nx q i % (rows.length : Int)).toNat 0
theorem fn20 (m : Nat) (r : Abs.Rows) {i : Int} (rows : Abs.Rows) (h0 : 0 ≤ i) (h1 : i ≤ 1099511627776) (hn : 1 ≤ (rows.length : Int)) (hn2 : (rows.length : Int) ≤ 1099511627776) {R : Type} {k : Int → Int → Option R} :
    Fn20 (m + 3) r i rows k = k (pk rows r i) (i + 1) := by
  have h4 := Int.emod_nonneg (nx r i) (show (rows.length : Int) ≠ 0 by omega)
  have h5 := Int.emod_lt_of_pos (nx r i) (show 0 < (rows.length : Int) by omega)
  simp only [Fn20]
  rw [fn59 m r h0 h1 hn hn2, dT ⟨h4, h5⟩]
  rfl
/-- each of some numbers is so: the one that is drawn is so -/
theorem pk_all {P : Int → Prop} (rows q : Abs.Rows) (i : Int) (h0 : 0 < rows.length) (h : ∀ j, j < rows.length → P (fI rows j 0)) : P (pk rows q i) := by
  have h4 := Int.emod_nonneg (nx q i) (show (rows.length : Int) ≠ 0 by omega)
  have h5 := Int.emod_lt_of_pos (nx q i) (show 0 < (rows.length : Int) by omega)
  exact h _ (by omega)
theorem fn21 (m : Nat) (r : Abs.Rows) {i lo hi : Int} (h0 : 0 ≤ i) (h1 : i ≤ 1099511627776) (hl : -500000000000 ≤ lo) (hh : hi ≤ 500000000000) (hlh : lo ≤ hi) {R : Type} {k : Int → Int → Option R} :
    Fn21 (m + 3) r i lo hi k = k (lo + nx r i % (hi - lo + 1)) (i + 1) := by
  have h4 := Int.emod_nonneg (nx r i) (show hi - lo + 1 ≠ 0 by omega)
  have h5 := Int.emod_lt_of_pos (nx r i) (show 0 < hi - lo + 1 by omega)
  simp only [Fn21]
  rw [dF (by omega), w64 (x := hi - lo) (by omega) (by omega), w64 (x := hi - lo + 1) (by omega) (by omega), fn59 m r h0 h1 (by omega) (by omega), w64 (by omega) (by omega)]
end Go.Proofs.Ytjhfbmhblpjigaa.Med
end
section
set_option linter.unusedVariables false
set_option linter.unusedSimpArgs false
namespace Go.Proofs.Ytjhfbmhblpjigaa.Med
open Go Go.Abs Go.Proofs
set_option linter.unusedVariables false
set_option linter.unusedSimpArgs false
theorem fn60 (m : Nat) (r : Abs.Rows) {i : Int} (lo hi : Int) (h0 : 0 ≤ i) (h1 : i ≤ 1000000000) (hl : -500000000000 ≤ lo) (hh : hi ≤ 500000000000) (hlh : lo ≤ hi) :
    ∃ v i' : Int, i ≤ i' ∧ i' ≤ i + 2 ∧ ∀ (R : Type) (k : Int → Int → Option R), Fn60 (m + 4) r i lo hi k = k v i' := by
  by_cases h : nx r i % 12 = 0
  · apply Exists.intro
    refine ⟨i + 1 + 1, by omega, by omega, fun R k => ?_⟩
    simp only [Fn60]
    rw [fn39 m r h0 (by omega) (by omega) (by omega), bT (by simpa using h), fn20 m r _ (by omega) (by omega) (by simp) (by simp)]
  · apply Exists.intro
    refine ⟨i + 1 + 1, by omega, by omega, fun R k => ?_⟩
    simp only [Fn60]
    rw [fn39 m r h0 (by omega) (by omega) (by omega), bF (by simpa using h), fn21 m r (by omega) (by omega) hl hh hlh]
end Go.Proofs.Ytjhfbmhblpjigaa.Med
end
section
set_option linter.unusedVariables false
set_option linter.unusedSimpArgs false
namespace Go.Proofs.Ytjhfbmhblpjigaa.Med
open Go Go.Abs Go.Proofs
set_option linter.unusedVariables false
set_option linter.unusedSimpArgs false
/-! sounds that are drawn -/
theorem lp22 (m : Nat) (q : Abs.Rows) {hi : Int} (hh : hi ≤ 100000) : ∀ (d n : Nat) (r : Abs.Rows) (j i : Int), 0 ≤ i → i + d ≤ 100000000 → j + d = hi → 0 ≤ j → d < n → r.length + d ≤ 100000 →
    ∃ r' : Abs.Rows, r'.length = r.length + d ∧ ∀ (R : Type) (k : Abs.Rows → Int → Int → Option R), Lp22_3 (m + 3) k hi q n r j i = k r' hi (i + d)
  | _, 0, r, j, i, h0, h1, h2, h3, h4, h5 => by omega
  | 0, n + 1, r, j, i, h0, h1, h2, h3, h4, h5 => by
    refine ⟨r, rfl, fun R k => ?_⟩
    simp only [Lp22_3, Lp22_3_step]
    rw [dF (by omega)]
    congr 1 <;> omega
  | d + 1, n + 1, r, j, i, h0, h1, h2, h3, h4, h5 => by
    have key : ∃ x : Int, ∀ (R : Type) (k : Abs.Rows → Int → Int → Option R), Lp22_3 (m + 3) k hi q (n + 1) r j i = Lp22_3 (m + 3) k hi q n (r ++ [[F.lit (.int .i64 x)]]) (j + 1) (i + 1) := ⟨_, fun R k => by
      simp only [Lp22_3, Lp22_3_step]
      rw [dT (by omega), fn20 m q _ (by omega) (by omega) (by simp) (by simp), dT (by simp [rM]; omega), w64 (by omega) (by omega)]
      rfl⟩
    obtain ⟨x, hx⟩ := key
    obtain ⟨r', h6, h7⟩ := lp22 m q hh d n (r ++ [[F.lit (.int .i64 x)]]) (j + 1) (i + 1) (by omega) (by omega) (by omega) (by omega) (by omega) (by simp; omega)
    refine ⟨r', by simp at h6; omega, fun R k => ?_⟩
    rw [hx, h7]
    congr 1
    omega
theorem fn22 (m : Nat) (q : Abs.Rows) {i most : Int} (h0 : 0 ≤ i) (h1 : i ≤ 1000000) (hm0 : 0 ≤ most) (hm1 : most ≤ 10000) (hm : most < m) :
    ∃ (r' : Abs.Rows) (i' : Int), (r'.length : Int) ≤ most ∧ i ≤ i' ∧ i' ≤ i + most + 5 ∧ ∀ (R : Type) (k : Abs.Rows → Int → Option R), Fn22 (m + 5) q i most k = k r' i' := by
  have a1 := Int.emod_nonneg (nx q i) (show most - 0 + 1 ≠ 0 by omega)
  have a2 := Int.emod_lt_of_pos (nx q i) (show 0 < most - 0 + 1 by omega)
  obtain ⟨d, hd⟩ := Int.eq_ofNat_of_zero_le a1
  obtain ⟨r', h2, h3⟩ := lp22 (m + 1) q (hi := 0 + nx q i % (most - 0 + 1)) (by omega) d (m + 4) rows0 0 (i + 1) (by omega) (by omega) (by omega) (by omega) (by omega) (by simp [rows0]; omega)
  simp only [List.length_nil, Nat.zero_add] at h2
  have hl : (r'.length : Int) = d := by omega
  by_cases c1 : (r'.length : Int) > 0
  · by_cases c2 : nx q (i + 1 + d) % 25 = 0
    · have b1 := Int.emod_nonneg (nx q (i + 1 + d + 1)) (show (r'.length : Int) ≠ 0 by omega)
      have b2 := Int.emod_lt_of_pos (nx q (i + 1 + d + 1)) (show 0 < (r'.length : Int) by omega)
      obtain ⟨v, i', h4, h5, h6⟩ := fn60 m q (-32768) 32767 (i := i + 1 + d + 1 + 1) (by omega) (by omega) (by omega) (by omega) (by omega)
      apply Exists.intro
      refine ⟨i', ?_, ?_, ?_, fun R k => ?_⟩
      rotate_left 3
      · simp only [Fn22]
        rw [fn21 (m + 1) q h0 (by omega) (by omega) (by omega) hm0, h3, dT c1, fn39 (m + 1) q (by omega) (by omega) (by omega) (by omega), beq_iff_eq.2 c2]
        simp only [Jn22_8, cond_true]
        rw [fn59 (m + 2) q (by omega) (by omega) (by omega) (by omega), h6, dT ⟨b1, b2⟩]
      · simp [stR1]; omega
      · omega
      · omega
    · refine ⟨r', i + 1 + d + 1, by omega, by omega, by omega, fun R k => ?_⟩
      simp only [Fn22]
      rw [fn21 (m + 1) q h0 (by omega) (by omega) (by omega) hm0, h3, dT c1, fn39 (m + 1) q (by omega) (by omega) (by omega) (by omega), beq_false_of_ne c2]
      simp only [Jn22_8, cond_false]
  · refine ⟨r', i + 1 + d, by omega, by omega, by omega, fun R k => ?_⟩
    simp only [Fn22]
    rw [fn21 (m + 1) q h0 (by omega) (by omega) (by omega) hm0, h3, dF c1]
    simp only [Jn22_8, cond_false]
end Go.Proofs.Ytjhfbmhblpjigaa.Med
end
section
set_option linter.unusedVariables false
set_option linter.unusedSimpArgs false
namespace Go.Proofs.Ytjhfbmhblpjigaa.Med
open Go Go.Abs Go.Proofs
set_option linter.unusedVariables false
set_option linter.unusedSimpArgs false
theorem inT {x lo hi : Int} (m : Nat) {R : Type} (k : Bool → Option R) : Fn67 (m + 1) x lo hi k = k (decide (lo ≤ x ∧ x ≤ hi)) ∧ Fn63 (m + 1) x lo hi k = k (decide (lo ≤ x ∧ x ≤ hi)) := by
  constructor
  · simp only [Fn67]
    by_cases h : x ≥ lo
    · rw [dT h]; congr 1; simp; omega
    · rw [dF h]; congr 1; symm; simp; omega
  · simp only [Fn63]
    by_cases h : lo ≤ x
    · rw [dT h]; congr 1; simp; omega
    · rw [dF h]; congr 1; symm; simp; omega
def Smp (x : Int) : Prop := -32768 ≤ x ∧ x ≤ 32767
instance (x : Int) : Decidable (Smp x) := inferInstanceAs (Decidable (_ ∧ _))
theorem fn68 (m : Nat) (x : Int) {R : Type} (k : Bool → Option R) : Fn68 (m + 2) x k = k (decide (Smp x)) := by
  simp only [Fn68]; rw [(inT m _).1]; rfl
theorem fn25 (m : Nat) (x : Int) {R : Type} (k : Bool → Option R) : Fn25 (m + 2) x k = k (decide (Smp x)) := by
  simp only [Fn25]; rw [(inT m _).2]; rfl
/-! faults of samples -/
def badFrom (r : Abs.Rows) : Nat → Nat → Bool
  | 0, _ => false
  | n + 1, i => if Smp (fI r i 0) then badFrom r n (i + 1) else true
def smpF (r : Abs.Rows) : Int := if (r.length : Int) > 20000 then 2 else if badFrom r r.length 0 then 1 else 0
theorem lp94 (m : Nat) (r : Abs.Rows) {R : Type} (kx0 : Int → Int → Option R) (kx1 : Int → Option R) (z : Int) (hl : (r.length : Int) ≤ 20000) : ∀ (d n i : Nat), i + d = r.length → d < n →
    (badFrom r d i = true ∧ ∃ j : Int, 0 ≤ j ∧ Lp94_2 (m + 3) kx0 kx1 r z r.length n i = kx0 j j) ∨ (badFrom r d i = false ∧ Lp94_2 (m + 3) kx0 kx1 r z r.length n i = kx1 r.length)
  | d, 0, i, h1, h2 => by omega
  | 0, n + 1, i, h1, h2 => by
    right
    refine ⟨rfl, ?_⟩
    simp only [Lp94_2, Lp94_2_step]
    rw [dF (by omega)]
    congr 1; omega
  | d + 1, n + 1, i, h1, h2 => by
    have e : Int.toNat (i : Int) = i := by omega
    have e2 : IntKind.wrap IntKind.i64 ((i : Int) + 1) = ((i + 1 : Nat) : Int) := by rw [w64 (by omega) (by omega)]; omega
    have st : Lp94_2 (m + 3) kx0 kx1 r z r.length (n + 1) i = bif !decide (Smp (fI r i 0)) then kx0 i i else Lp94_2 (m + 3) kx0 kx1 r z r.length n ((i + 1 : Nat) : Int) := by
      simp only [Lp94_2, Lp94_2_step]
      rw [dT (by omega), dT (by omega), e, e2]
      simp only [Fn70]
      rw [fn25]
    by_cases hs : Smp (fI r i 0)
    · rw [st, decide_eq_true hs]
      simp only [badFrom, hs, if_true, Bool.not_true, cond_false]
      exact lp94 m r kx0 kx1 z hl d n (i + 1) (by omega) (by omega)
    · left
      rw [st, decide_eq_false hs]
      simp only [badFrom, hs, if_false, Bool.not_false, cond_true]
      exact ⟨trivial, i, by omega, rfl⟩
theorem lp29 (m : Nat) (r : Abs.Rows) {R : Type} (kx0 : Int → Int → Option R) (kx1 : Int → Option R) (z : Int) (hl : (r.length : Int) ≤ 20000) : ∀ (d n i : Nat), i + d = r.length → d < n →
    (badFrom r d i = true ∧ ∃ j : Int, Lp29_5 (m + 2) kx0 kx1 r z r r.length n i = kx0 1 j) ∨ (badFrom r d i = false ∧ Lp29_5 (m + 2) kx0 kx1 r z r r.length n i = kx1 r.length)
  | d, 0, i, h1, h2 => by omega
  | 0, n + 1, i, h1, h2 => by
    right
    refine ⟨rfl, ?_⟩
    simp only [Lp29_5, Lp29_5_step]
    rw [dF (by omega)]
    congr 1; omega
  | d + 1, n + 1, i, h1, h2 => by
    have e : Int.toNat (i : Int) = i := by omega
    have e2 : IntKind.wrap IntKind.i64 ((i : Int) + 1) = ((i + 1 : Nat) : Int) := by rw [w64 (by omega) (by omega)]; omega
    have st : Lp29_5 (m + 2) kx0 kx1 r z r r.length (n + 1) i = bif !decide (Smp (fI r i 0)) then kx0 1 i else Lp29_5 (m + 2) kx0 kx1 r z r r.length n ((i + 1 : Nat) : Int) := by
      simp only [Lp29_5, Lp29_5_step]
      rw [dT (by omega), dT (by omega), e, e2, fn68]
    by_cases hs : Smp (fI r i 0)
    · rw [st, decide_eq_true hs]
      simp only [badFrom, hs, if_true, Bool.not_true, cond_false]
      exact lp29 m r kx0 kx1 z hl d n (i + 1) (by omega) (by omega)
    · left
      rw [st, decide_eq_false hs]
      simp only [badFrom, hs, if_false, Bool.not_false, cond_true]
      exact ⟨trivial, i, rfl⟩
theorem fn28 (m : Nat) (r : Abs.Rows) {R : Type} (k : Int → Option R) (hm : r.length < m) : Fn28 (m + 6) r k = k (smpF r) := by
  simp only [Fn28]
  by_cases h : (r.length : Int) > 20000
  · rw [dT h, smpF, if_pos h]
  · rw [dF h]
    simp only [Fn69, Fn94, smpF, if_neg h]
    rcases lp94 m r (fun i693 i694 => bif decide (i693 ≥ (0 : Int)) then k 1 else k 0) (fun i695 => bif decide ((-1 : Int) ≥ (0 : Int)) then k 1 else k 0) 0 (by omega) r.length (m + 3) 0 (by omega) (by omega) with ⟨h1, j, h2, h3⟩ | ⟨h1, h3⟩
    · rw [h1, if_pos rfl]
      refine h3.trans ?_
      rw [dT h2]
    · rw [h1]
      refine h3.trans ?_
      rw [dF (by omega)]
      rfl
theorem fn29 (m : Nat) (r : Abs.Rows) {R : Type} (k : Int → Option R) (hm : r.length < m) : Fn29 (m + 3) r k = k (smpF r) := by
  simp only [Fn29]
  by_cases h : (r.length : Int) > 20000
  · rw [dT h, smpF, if_pos h]
  · rw [dF h, smpF, if_neg h]
    rcases lp29 m r (fun i659 i660 => k i659) (fun i661 => k ((0 : Int))) 0 (by omega) r.length (m + 2) 0 (by omega) (by omega) with ⟨h1, j, h3⟩ | ⟨h1, h3⟩
    · rw [h1, if_pos rfl]
      exact h3
    · rw [h1]
      exact h3
theorem smp_all (r : Abs.Rows) : ∀ (d i : Nat), badFrom r d i = false → ∀ j, i ≤ j → j < i + d → Smp (fI r j 0)
  | 0, i, h, j, h1, h2 => by omega
  | d + 1, i, h, j, h1, h2 => by
    simp only [badFrom] at h
    by_cases hs : Smp (fI r i 0)
    · rw [if_pos hs] at h
      by_cases hj : j = i
      · subst hj; exact hs
      · exact smp_all r d (i + 1) h j (by omega) (by omega)
    · rw [if_neg hs] at h; cases h
theorem smpF_ok {r : Abs.Rows} (h : smpF r = 0) : (r.length : Int) ≤ 20000 ∧ ∀ j, j < r.length → Smp (fI r j 0) := by
  unfold smpF at h
  split at h
  · cases h
  · rename_i h1
    split at h
    · cases h
    · rename_i h2
      exact ⟨by omega, fun j hj => smp_all r r.length 0 (by simpa using h2) j (by omega) (by omega)⟩
theorem lp94v1 (m : Nat) (r : Abs.Rows) {R : Type} (kx0 : Int → Int → Option R) (kx1 : Int → Option R) (z : Int) (hl : (r.length : Int) ≤ 20000) : ∀ (d n i : Nat), i + d = r.length → d < n →
    (badFrom r d i = true ∧ ∃ j : Int, 0 ≤ j ∧ Lp94_2v1 (m + 3) kx0 kx1 r z r.length n i = kx0 j j) ∨ (badFrom r d i = false ∧ Lp94_2v1 (m + 3) kx0 kx1 r z r.length n i = kx1 r.length)
  | d, 0, i, h1, h2 => by omega
  | 0, n + 1, i, h1, h2 => by
    right
    refine ⟨rfl, ?_⟩
    simp only [Lp94_2v1, Lp94_2v1_step]
    rw [dF (by omega)]
    congr 1; omega
  | d + 1, n + 1, i, h1, h2 => by
    have e : Int.toNat (i : Int) = i := by omega
    have e2 : IntKind.wrap IntKind.i64 ((i : Int) + 1) = ((i + 1 : Nat) : Int) := by rw [w64 (by omega) (by omega)]; omega
    have st : Lp94_2v1 (m + 3) kx0 kx1 r z r.length (n + 1) i = bif !decide (Smp (fI r i 0)) then kx0 i i else Lp94_2v1 (m + 3) kx0 kx1 r z r.length n ((i + 1 : Nat) : Int) := by
      simp only [Lp94_2v1, Lp94_2v1_step]
      rw [dT (by omega), dT (by omega), e, e2]
      simp only [Fn70]
      rw [fn25]
    by_cases hs : Smp (fI r i 0)
    · rw [st, decide_eq_true hs]
      simp only [badFrom, hs, if_true, Bool.not_true, cond_false]
      exact lp94v1 m r kx0 kx1 z hl d n (i + 1) (by omega) (by omega)
    · left
      rw [st, decide_eq_false hs]
      simp only [badFrom, hs, if_false, Bool.not_false, cond_true]
      exact ⟨trivial, i, by omega, rfl⟩
theorem lp29v1 (m : Nat) (r : Abs.Rows) {R : Type} (kx0 : Int → Int → Option R) (kx1 : Int → Option R) (z : Int) (hl : (r.length : Int) ≤ 20000) : ∀ (d n i : Nat), i + d = r.length → d < n →
    (badFrom r d i = true ∧ ∃ j : Int, Lp29_5v1 (m + 2) kx0 kx1 r z r r.length n i = kx0 1 j) ∨ (badFrom r d i = false ∧ Lp29_5v1 (m + 2) kx0 kx1 r z r r.length n i = kx1 r.length)
  | d, 0, i, h1, h2 => by omega
  | 0, n + 1, i, h1, h2 => by
    right
    refine ⟨rfl, ?_⟩
    simp only [Lp29_5v1, Lp29_5v1_step]
    rw [dF (by omega)]
    congr 1; omega
  | d + 1, n + 1, i, h1, h2 => by
    have e : Int.toNat (i : Int) = i := by omega
    have e2 : IntKind.wrap IntKind.i64 ((i : Int) + 1) = ((i + 1 : Nat) : Int) := by rw [w64 (by omega) (by omega)]; omega
    have st : Lp29_5v1 (m + 2) kx0 kx1 r z r r.length (n + 1) i = bif !decide (Smp (fI r i 0)) then kx0 1 i else Lp29_5v1 (m + 2) kx0 kx1 r z r r.length n ((i + 1 : Nat) : Int) := by
      simp only [Lp29_5v1, Lp29_5v1_step]
      rw [dT (by omega), dT (by omega), e, e2, fn68]
    by_cases hs : Smp (fI r i 0)
    · rw [st, decide_eq_true hs]
      simp only [badFrom, hs, if_true, Bool.not_true, cond_false]
      exact lp29v1 m r kx0 kx1 z hl d n (i + 1) (by omega) (by omega)
    · left
      rw [st, decide_eq_false hs]
      simp only [badFrom, hs, if_false, Bool.not_false, cond_true]
      exact ⟨trivial, i, rfl⟩
theorem fn28v1 (m : Nat) (r : Abs.Rows) {R : Type} (k : Int → Option R) (hm : r.length < m) : Fn28v1 (m + 6) r k = k (smpF r) := by
  simp only [Fn28v1]
  by_cases h : (r.length : Int) > 20000
  · rw [dT h, smpF, if_pos h]
  · rw [dF h]
    simp only [Fn69v1, Fn94v1, smpF, if_neg h]
    rcases lp94v1 m r (fun i693 i694 => bif decide (i693 ≥ (0 : Int)) then k 1 else k 0) (fun i695 => bif decide ((-1 : Int) ≥ (0 : Int)) then k 1 else k 0) 0 (by omega) r.length (m + 3) 0 (by omega) (by omega) with ⟨h1, j, h2, h3⟩ | ⟨h1, h3⟩
    · rw [h1, if_pos rfl]
      refine h3.trans ?_
      rw [dT h2]
    · rw [h1]
      refine h3.trans ?_
      rw [dF (by omega)]
      rfl
theorem fn29v1 (m : Nat) (r : Abs.Rows) {R : Type} (k : Int → Option R) (hm : r.length < m) : Fn29v1 (m + 3) r k = k (smpF r) := by
  simp only [Fn29v1]
  by_cases h : (r.length : Int) > 20000
  · rw [dT h, smpF, if_pos h]
  · rw [dF h, smpF, if_neg h]
    rcases lp29v1 m r (fun i659 i660 => k i659) (fun i661 => k ((0 : Int))) 0 (by omega) r.length (m + 2) 0 (by omega) (by omega) with ⟨h1, j, h3⟩ | ⟨h1, h3⟩
    · rw [h1, if_pos rfl]
      exact h3
    · rw [h1]
      exact h3
end Go.Proofs.Ytjhfbmhblpjigaa.Med
end
section
set_option linter.unusedVariables false
set_option linter.unusedSimpArgs false
namespace Go.Proofs.Ytjhfbmhblpjigaa.Med
open Go Go.Abs Go.Proofs
set_option linter.unusedVariables false
set_option linter.unusedSimpArgs false
theorem lp38 (m : Nat) (r : Abs.Rows) {R : Type} (kx0 : Bool → Int → Option R) (kx1 : Int → Option R) (hl : (r.length : Int) ≤ 1073741824) : ∀ (d n : Nat) (i : Int), 0 ≤ i → i + d = r.length → d < n → Lp38_5 m kx0 kx1 r r false r.length n i = kx1 r.length
  | d, 0, i, h0, h1, h2 => by omega
  | 0, n + 1, i, h0, h1, h2 => by
    simp only [Lp38_5, Lp38_5_step]
    rw [dF (by omega)]
    congr 1; omega
  | d + 1, n + 1, i, h0, h1, h2 => by
    simp only [Lp38_5, Lp38_5_step]
    rw [dT (by omega), dT (by omega), dT (by omega), nF rfl, w64 (by omega) (by omega)]
    exact lp38 m r kx0 kx1 hl d n (i + 1) (by omega) (by omega) (by omega)
theorem fn38 (m : Nat) (r : Abs.Rows) {R : Type} (k : Bool → Option R) (hl : (r.length : Int) ≤ 1073741824) (hm : r.length < m) : Fn38 (m + 1) r r k = k true := by
  simp only [Fn38]
  rw [nF rfl, lp38 m r _ _ hl r.length m 0 (by omega) (by omega) hm]
theorem fn35 (m : Nat) (a b : Int) {R : Type} (k : Int → Option R) : Fn35 (m + 5) [[F.lit (Value.int IntKind.i64 a)], [F.lit (Value.int IntKind.i64 b)]] k = k (if a ≠ 0 then a else b) := by
  have e0 : fI [[F.lit (Value.int IntKind.i64 a)], [F.lit (Value.int IntKind.i64 b)]] 0 0 = a := rfl
  have e1 : fI [[F.lit (Value.int IntKind.i64 a)], [F.lit (Value.int IntKind.i64 b)]] 1 0 = b := rfl
  simp (disch := omega) only [Fn35, Lp35_2, Lp35_2_step, List.length_cons, List.length_nil, ↓dT, ↓dF, w64, Int.toNat_zero, e0, e1, Int.reduceAdd, Int.reduceToNat]
  by_cases ha : a = 0
  · rw [nF ha, if_neg (by simpa using ha)]
    by_cases hb : b = 0
    · rw [nF hb, hb]
    · rw [nT hb]
  · rw [nT ha, if_pos (by simpa using ha)]
theorem fn19 (m : Nat) {R : Type} (k : Bool → Option R) : Fn19 (m + 2) k = k true := by rfl
theorem fn75g (m : Nat) {x c : Int} (h0 : -9223372036854775808 ≤ x) (h1 : x < 9223372036854775808) (hc : c = 256) {R : Type} (k : Int → Option R) : Fn75 (m + 1) x c k = k (x / c) := by
  subst hc
  simp only [Fn75]
  rw [dT (by decide)]
  by_cases hx : 0 ≤ x
  · rw [tm_pos hx, td_pos hx, dF (by omega), dT (by decide), w64 (by omega) (by omega)]
  · have h3 : Int.tdiv x 256 = -((-x) / 256) := by
      rw [← Int.neg_neg x, Int.neg_tdiv, Int.neg_neg, td_pos (by omega)]
    have h4 : Int.tmod x 256 = -((-x) % 256) := by
      rw [← Int.neg_neg x, Int.neg_tmod, Int.neg_neg, tm_pos (by omega)]
    rw [h3, h4]
    by_cases h5 : -(-x % 256) < 0
    · rw [dT h5, dT (by decide), w64 (x := -(-x / 256)) (by omega) (by omega), w64 (by omega) (by omega)]
      congr 1
      omega
    · rw [dF h5, dT (by decide), w64 (by omega) (by omega)]
      congr 1
      omega
def cut (x : Int) : Int := if (32767 : Int) < if (-32768 : Int) > x then (-32768 : Int) else x then (32767 : Int) else if (-32768 : Int) > x then (-32768 : Int) else x
theorem fn76 (m : Nat) (x : Int) {R : Type} (k : Int → Option R) : Fn76 (m + 1) x k = k (cut x) ∧ Fn77 (m + 1) x k = k (cut x) := ⟨rfl, rfl⟩
/-! louder -/
def ld (by_ x : Int) : Int := cut (IntKind.wrap .i64 (x * by_) / 256)
theorem lp41 (m : Nat) (r : Abs.Rows) (by_ : Int) {R : Type} (k : Abs.Rows → Int → Option R) (hl : (r.length : Int) ≤ 20000) : ∀ (d n i : Nat), i + d = r.length → d < n →
    Lp41_10 (m + 1) k r by_ r r.length n (mk .i64 (fun j => ld by_ (fI r j 0)) i ++ List.replicate d [F.lit (Value.int IntKind.i64 (0 : Int))]) i = k (mk .i64 (fun j => ld by_ (fI r j 0)) r.length) r.length
  | d, 0, i, h1, h2 => by omega
  | 0, n + 1, i, h1, h2 => by
    simp only [Lp41_10, Lp41_10_step]
    rw [dF (by omega)]
    have : i = r.length := by omega
    subst this
    simp
  | d + 1, n + 1, i, h1, h2 => by
    have e : Int.toNat (i : Int) = i := by omega
    have e2 : IntKind.wrap IntKind.i64 ((i : Int) + 1) = ((i + 1 : Nat) : Int) := by rw [w64 (by omega) (by omega)]; omega
    have e3 : ∀ x : Int, Int.fdiv x ((2 : Int) ^ min (Int.toNat (8 : Int)) (64 : Nat)) = x / 256 := fun x => Int.fdiv_eq_ediv_of_nonneg _ (by decide)
    simp only [Lp41_10, Lp41_10_step, e3]
    rw [dT (by omega), dT (by omega), e, e2, (fn76 m _ _).1, dT (by simp [mk_len]; omega), stR1]
    rw [show cut (IntKind.wrap IntKind.i64 (fI r i 0 * by_) / 256) = (fun j => ld by_ (fI r j 0)) i from rfl, mk_set .i64 (fun j => ld by_ (fI r j 0))]
    exact lp41 m r by_ k hl d n (i + 1) (by omega) (by omega)
theorem lp44 (m : Nat) (r : Abs.Rows) (by_ : Int) {R : Type} (k : Abs.Rows → Int → Option R) (hl : (r.length : Int) ≤ 20000) : ∀ (d n i : Nat), i + d = r.length → d < n →
    Lp44_3 (m + 1) k r by_ r r.length n (mk .i64 (fun j => ld by_ (fI r j 0)) i) i = k (mk .i64 (fun j => ld by_ (fI r j 0)) r.length) r.length
  | d, 0, i, h1, h2 => by omega
  | 0, n + 1, i, h1, h2 => by
    simp only [Lp44_3, Lp44_3_step]
    rw [dF (by omega)]
    have : i = r.length := by omega
    subst this
    rfl
  | d + 1, n + 1, i, h1, h2 => by
    have e : Int.toNat (i : Int) = i := by omega
    have e2 : IntKind.wrap IntKind.i64 ((i : Int) + 1) = ((i + 1 : Nat) : Int) := by rw [w64 (by omega) (by omega)]; omega
    simp only [Lp44_3, Lp44_3_step]
    have hb := w64b (fI r i 0 * by_)
    rw [dT (by omega), dT (by omega), e, e2, fn75g m hb.1 hb.2 rfl, (fn76 m _ _).2, dT (by simp [mk_len, rM]; omega)]
    simp only [letV]
    rw [show cut (IntKind.wrap IntKind.i64 (fI r i 0 * by_) / 256) = (fun j => ld by_ (fI r j 0)) i from rfl, ← mk_succ .i64 (fun j => ld by_ (fI r j 0))]
    exact lp44 m r by_ k hl d n (i + 1) (by omega) (by omega)
/-- both make louder alike -/
theorem fn41 (m : Nat) (r : Abs.Rows) (by_ : Int) (hm : r.length < m) (hl : r.length ≤ 20000) : ∃ x : Abs.Rows, x.length ≤ 20000 ∧ (∀ (R : Type) (k : Abs.Rows → Int → Option R), Fn41 (m + 4) r by_ k = k x (if smpF r ≠ 0 then smpF r else if 0 ≤ by_ ∧ by_ ≤ 65536 then 0 else 1)) ∧
    ((smpF r = 0 ∧ 0 ≤ by_ ∧ by_ ≤ 65536) → ∀ (m' : Nat) (R : Type) (k : Abs.Rows → Option R), r.length < m' → Fn44 (m' + 2) r by_ k = k x) ∧ (¬(smpF r = 0 ∧ 0 ≤ by_ ∧ by_ ≤ 65536) → x = rows0) := by
  have st : ∀ (R : Type) (k : Abs.Rows → Int → Option R), Fn41 (m + 4) r by_ k = if smpF r ≠ 0 then k rows0 (smpF r) else if 0 ≤ by_ ∧ by_ ≤ 65536 then k (mk .i64 (fun j => ld by_ (fI r j 0)) r.length) 0 else k rows0 1 := by
    intro R k
    simp only [Fn41]
    rw [fn29v1 m r _ hm]
    by_cases c1 : smpF r = 0
    · rw [nF c1, if_neg (by simpa using c1), (inT (m + 2) _).1]
      by_cases c2 : 0 ≤ by_ ∧ by_ ≤ 65536
      · rw [decide_eq_true c2, Bool.not_true, bF rfl, if_pos c2, dT (by simp [rM]; omega)]
        have := lp41 (m + 2) r by_ (fun r274 i275 => k r274 0) (by omega) r.length (m + 3) 0 (by omega) (by omega)
        simp only [mk, List.range_zero, List.map_nil, List.nil_append] at this
        exact this
      · rw [decide_eq_false c2, Bool.not_false, bT rfl, if_neg c2]
    · rw [nT c1, if_pos (by simpa using c1)]
  by_cases c : smpF r = 0 ∧ 0 ≤ by_ ∧ by_ ≤ 65536
  · refine ⟨mk .i64 (fun j => ld by_ (fI r j 0)) r.length, by rw [mk_len]; exact hl, fun R k => ?_, fun _ m' R k hm' => ?_, fun h => (h c).elim⟩
    · rw [st, if_neg (by simpa using c.1), if_pos c.2, if_neg (by simpa using c.1), if_pos c.2]
    · simp only [Fn44]
      exact lp44 m' r by_ (fun r470 i471 => k r470) (by omega) r.length (m' + 1) 0 (by omega) (by omega)
  · refine ⟨rows0, by simp, fun R k => ?_, fun h => (c h).elim, fun _ => rfl⟩
    rw [st]
    by_cases c1 : smpF r = 0
    · rw [if_neg (by simpa using c1), if_neg (fun h => c ⟨c1, h⟩), if_neg (by simpa using c1), if_neg (fun h => c ⟨c1, h⟩)]
    · rw [if_pos (by simpa using c1), if_pos (by simpa using c1)]
/-! silence -/
theorem jn42 (w : Abs.Rows) (hw : w.length ≤ 30000) (a f i : Int) : ∃ (w' : Abs.Rows) (f' : Int), w.length ≤ w'.length ∧ w'.length ≤ w.length + 1 ∧ ∀ (m : Nat) (R : Type) (k : Abs.Rows → Int → Option R) (r : Abs.Rows) (x y z : Int), Jn42_16 m k r x a w f i y z = k w' f' ∧ Jn45_9 m k r x a w f i y z = k w' f' := by
  by_cases c : IntKind.wrap IntKind.i64 (i - f) ≥ a
  · refine ⟨w ++ [[F.lit (Value.int IntKind.i64 f), F.lit (Value.int IntKind.i64 i)]], IntKind.wrap IntKind.i64 (i + 1), by simp, by simp, fun m R k r x y z => ?_⟩
    simp only [Jn42_16, Jn45_9, letV]
    rw [dT c, dT (by simp [rM]; omega)]
    exact ⟨rfl, rfl⟩
  · refine ⟨w, IntKind.wrap IntKind.i64 (i + 1), by omega, by omega, fun m R k r x y z => ?_⟩
    simp only [Jn42_16, Jn45_9, letV]
    rw [dF c]
    exact ⟨rfl, rfl⟩
theorem lp42 (r : Abs.Rows) (low a : Int) (hl : r.length ≤ 20000) : ∀ (d i : Nat) (w : Abs.Rows) (f : Int), i + d = r.length + 1 → w.length + d ≤ 30000 →
    ∃ (w' : Abs.Rows), w'.length ≤ w.length + d ∧ ∀ (m n : Nat), d ≤ n → ∀ (R : Type), (∀ (k : Abs.Rows → Option R), Lp42_11 (m + 1) (fun x y z => k x) r low a ((r.length : Int) + 1) (n + 1) w f i = k w') ∧ (∀ (k : Abs.Rows → Option R), Lp45_4 (m + 1) (fun x y z => k x) r low a ((r.length : Int) + 1) (n + 1) w f i = k w')
  | 0, i, w, f, h1, h2 => by
    refine ⟨w, by omega, fun m n hn R => ⟨fun k => ?_, fun k => ?_⟩⟩
    · simp only [Lp42_11, Lp42_11_step]
      rw [dF (by omega)]
    · simp only [Lp45_4, Lp45_4_step]
      rw [dF (by omega)]
  | d + 1, i, w, f, h1, h2 => by
    have e : Int.toNat (i : Int) = i := by omega
    have e2 : IntKind.wrap IntKind.i64 ((i : Int) + 1) = ((i + 1 : Nat) : Int) := by rw [w64 (by omega) (by omega)]; omega
    obtain ⟨w1, f1, g1, g2, g3⟩ := jn42 w (by omega) a f i
    by_cases c : i < r.length ∧ IntKind.wrap IntKind.i64 (0 - low) ≤ fI r i 0 ∧ fI r i 0 ≤ low
    · obtain ⟨w', k1, k2⟩ := lp42 r low a hl d (i + 1) w f (by omega) (by omega)
      refine ⟨w', by omega, fun m n hn R => ⟨fun k => ?_, fun k => ?_⟩⟩
      · obtain ⟨n', rfl⟩ : ∃ n', n = n' + 1 := ⟨n - 1, by omega⟩
        rw [Lp42_11]
        simp only [Lp42_11_step, e, e2]
        rw [dT (by omega), dT (by omega), dT (by omega), (inT m _).1, decide_eq_true c.2, bT rfl]
        exact (k2 m n' (by omega) R).1 k
      · obtain ⟨n', rfl⟩ : ∃ n', n = n' + 1 := ⟨n - 1, by omega⟩
        rw [Lp45_4]
        simp only [Lp45_4_step, e, e2]
        rw [dT (by omega), dT (by omega), dT (by omega), (inT m _).2, decide_eq_true c.2, bT rfl]
        exact (k2 m n' (by omega) R).2 k
    · obtain ⟨w', k1, k2⟩ := lp42 r low a hl d (i + 1) w1 f1 (by omega) (by omega)
      refine ⟨w', by omega, fun m n hn R => ⟨fun k => ?_, fun k => ?_⟩⟩
      · obtain ⟨n', rfl⟩ : ∃ n', n = n' + 1 := ⟨n - 1, by omega⟩
        rw [Lp42_11]
        simp only [Lp42_11_step, e, e2]
        rw [dT (by omega)]
        by_cases c2 : i < r.length
        · rw [dT (by omega), dT (by omega), (inT m _).1, decide_eq_false (fun h => c ⟨c2, h⟩), bF rfl]
          refine ((g3 _ R _ _ _ _ _).1).trans ?_
          exact (k2 m n' (by omega) R).1 k
        · rw [dF (by omega)]
          refine ((g3 _ R _ _ _ _ _).1).trans ?_
          exact (k2 m n' (by omega) R).1 k
      · obtain ⟨n', rfl⟩ : ∃ n', n = n' + 1 := ⟨n - 1, by omega⟩
        rw [Lp45_4]
        simp only [Lp45_4_step, e, e2]
        rw [dT (by omega)]
        by_cases c2 : i < r.length
        · rw [dT (by omega), dT (by omega), (inT m _).2, decide_eq_false (fun h => c ⟨c2, h⟩), bF rfl]
          refine ((g3 _ R _ _ _ _ _).2).trans ?_
          exact (k2 m n' (by omega) R).2 k
        · rw [dF (by omega)]
          refine ((g3 _ R _ _ _ _ _).2).trans ?_
          exact (k2 m n' (by omega) R).2 k
theorem fn42 (r : Abs.Rows) (low a : Int) (hl : r.length ≤ 20000) : ∃ x : Abs.Rows, x.length ≤ 20001 ∧ (∀ (m : Nat) (R : Type) (k : Abs.Rows → Int → Option R), r.length < m → Fn42 (m + 4) r low a k = k x (if smpF r ≠ 0 then smpF r else if 0 ≤ low ∧ low ≤ 32767 ∧ 1 ≤ a ∧ a ≤ 20000 then 0 else 1)) ∧
    ((smpF r = 0 ∧ 0 ≤ low ∧ low ≤ 32767 ∧ 1 ≤ a ∧ a ≤ 20000) → ∀ (m : Nat) (R : Type) (k : Abs.Rows → Option R), r.length < m → Fn45 (m + 2) r low a k = k x) ∧ (¬(smpF r = 0 ∧ 0 ≤ low ∧ low ≤ 32767 ∧ 1 ≤ a ∧ a ≤ 20000) → x = rows0) := by
  obtain ⟨w, hw, hp⟩ := lp42 r low a hl (r.length + 1) 0 rows0 0 (by omega) (by simp; omega)
  have ew : IntKind.wrap IntKind.i64 ((r.length : Int) + 1) = (r.length : Int) + 1 := w64 (by omega) (by omega)
  have st : ∀ (m : Nat) (R : Type) (k : Abs.Rows → Int → Option R), r.length < m → Fn42 (m + 4) r low a k = if smpF r ≠ 0 then k rows0 (smpF r) else if 0 ≤ low ∧ low ≤ 32767 ∧ 1 ≤ a ∧ a ≤ 20000 then k w 0 else k rows0 1 := by
    intro m R k hm
    simp only [Fn42]
    rw [fn29v1 m r _ hm]
    by_cases c1 : smpF r = 0
    · rw [nF c1, if_neg (by simpa using c1), (inT (m + 2) _).1]
      by_cases c2 : 0 ≤ low ∧ low ≤ 32767
      · rw [decide_eq_true c2, Bool.not_true, bF rfl, (inT (m + 2) _).1]
        by_cases c3 : 1 ≤ a ∧ a ≤ 20000
        · rw [decide_eq_true c3, Bool.not_true, bF rfl, if_pos ⟨c2.1, c2.2, c3.1, c3.2⟩]
          simp only [Jn42_7, ew]
          exact (hp (m + 2) (m + 2) (by omega) R).1 (fun x => k x 0)
        · rw [decide_eq_false c3, Bool.not_false, bT rfl, if_neg (by omega)]
      · rw [decide_eq_false c2, Bool.not_false, bT rfl, if_neg (by omega)]
    · rw [nT c1, if_pos (by simpa using c1)]
  by_cases c : smpF r = 0 ∧ 0 ≤ low ∧ low ≤ 32767 ∧ 1 ≤ a ∧ a ≤ 20000
  · refine ⟨w, by simp at hw; omega, fun m R k hm => ?_, fun _ m R k hm => ?_, fun h => (h c).elim⟩
    · rw [st m R k hm, if_neg (by simpa using c.1), if_pos c.2, if_neg (by simpa using c.1), if_pos c.2]
    · simp only [Fn45, ew]
      exact (hp m m (by omega) R).2 k
  · refine ⟨rows0, by simp, fun m R k hm => ?_, fun h => (c h).elim, fun _ => rfl⟩
    rw [st m R k hm]
    by_cases c1 : smpF r = 0
    · rw [if_neg (by simpa using c1), if_neg (fun h => c ⟨c1, h⟩), if_neg (by simpa using c1), if_neg (fun h => c ⟨c1, h⟩)]
    · rw [if_pos (by simpa using c1), if_pos (by simpa using c1)]
theorem lp46 (m : Nat) (r : Abs.Rows) {R : Type} (kx0 : Bool → Int → Option R) (kx1 : Int → Option R) (hl : (r.length : Int) ≤ 1073741824) : ∀ (d n : Nat) (i : Int), 0 ≤ i → i + d = r.length → d < n → Lp46_5 m kx0 kx1 r r false r.length n i = kx1 r.length
  | d, 0, i, h0, h1, h2 => by omega
  | 0, n + 1, i, h0, h1, h2 => by
    simp only [Lp46_5, Lp46_5_step]
    rw [dF (by omega)]
    congr 1; omega
  | d + 1, n + 1, i, h0, h1, h2 => by
    simp only [Lp46_5, Lp46_5_step]
    rw [dT (by omega), dT (by omega), dT (by omega), bF (by simp), w64 (by omega) (by omega)]
    exact lp46 m r kx0 kx1 hl d n (i + 1) (by omega) (by omega) (by omega)
theorem fn46 (m : Nat) (r : Abs.Rows) {R : Type} (k : Bool → Option R) (hl : (r.length : Int) ≤ 1073741824) (hm : r.length < m) : Fn46 (m + 1) r r k = k true := by
  simp only [Fn46]
  rw [nF rfl, lp46 m r _ _ hl r.length m 0 (by omega) (by omega) hm]
end Go.Proofs.Ytjhfbmhblpjigaa.Med
end
section
set_option linter.unusedVariables false
set_option linter.unusedSimpArgs false
namespace Go.Proofs.Ytjhfbmhblpjigaa.Med
open Go Go.Abs Go.Proofs
set_option linter.unusedVariables false
set_option linter.unusedSimpArgs false
def snd (row : List F) : Abs.Rows := F.toRows (row.headD default)
def sF : Abs.Rows → Int
  | [] => 0
  | row :: s => if smpF (snd row) ≠ 0 then smpF (snd row) else sF s
def mL : Abs.Rows → Nat → Nat
  | [], x => x
  | row :: s, x => mL s (if (snd row).length > x then (snd row).length else x)
theorem mL_ge : ∀ (s : Abs.Rows) (x : Nat), x ≤ mL s x
  | [], x => Nat.le_refl _
  | row :: s, x => by
    have := mL_ge s (if (snd row).length > x then (snd row).length else x)
    simp only [mL]
    split at this <;> split <;> omega
theorem mL_mem : ∀ (s : Abs.Rows) (x : Nat) (row : List F), row ∈ s → (snd row).length ≤ mL s x
  | [], x, row, h => by simp at h
  | a :: s, x, row, h => by
    simp only [mL]
    rcases List.mem_cons.1 h with rfl | h
    · have := mL_ge s (if (snd row).length > x then (snd row).length else x)
      split at this <;> split <;> omega
    · exact mL_mem s _ row h
theorem mL_le : ∀ (s : Abs.Rows) (x b : Nat), x ≤ b → (∀ row ∈ s, (snd row).length ≤ b) → mL s x ≤ b
  | [], x, b, h, hs => h
  | a :: s, x, b, h, hs => by
    simp only [mL]
    refine mL_le s _ b ?_ fun row hr => hs row (by simp [hr])
    have := hs a (by simp)
    split <;> omega
theorem fR_snd (r : Abs.Rows) (i : Nat) : fR r i 0 = snd (Abs.rowAt r i) := rfl
theorem drop_row {r : Abs.Rows} {i : Nat} (h : i < r.length) : r.drop i = Abs.rowAt r i :: r.drop (i + 1) := by
  rw [List.drop_eq_getElem_cons h]
  congr 1
  unfold Abs.rowAt
  rw [List.getD_eq_getElem?_getD, List.getElem?_eq_getElem h]
  rfl
theorem row_mem {r : Abs.Rows} {i : Nat} (h : i < r.length) : Abs.rowAt r i ∈ r := by
  unfold Abs.rowAt
  rw [List.getD_eq_getElem?_getD, List.getElem?_eq_getElem h]
  exact List.getElem_mem h
theorem lp40_6 (r : Abs.Rows) (hs : ∀ row ∈ r, (snd row).length ≤ 8) (hl : r.length ≤ 20) : ∀ (d i x : Nat), i + d = r.length → x ≤ 8 →
    (sF (r.drop i) ≠ 0 ∧ ∃ y j : Int, ∀ (m n : Nat), d ≤ n → ∀ (R : Type) (kx0 : Abs.Rows → Int → Int → Int → Option R) (kx1 : Int → Int → Option R), Lp40_6 (m + 12) kx0 kx1 r rows0 0 r r.length (n + 1) x i = kx0 rows0 (sF (r.drop i)) y j) ∨
    (sF (r.drop i) = 0 ∧ ∀ (m n : Nat), d ≤ n → ∀ (R : Type) (kx0 : Abs.Rows → Int → Int → Int → Option R) (kx1 : Int → Int → Option R), Lp40_6 (m + 12) kx0 kx1 r rows0 0 r r.length (n + 1) x i = kx1 (mL (r.drop i) x) r.length)
  | 0, i, x, h1, h2 => by
    right
    have hd : r.drop i = [] := List.drop_eq_nil_of_le (by omega)
    rw [hd]
    refine ⟨rfl, fun m n hn R kx0 kx1 => ?_⟩
    simp only [Lp40_6, Lp40_6_step]
    rw [dF (by omega)]
    have : (i : Int) = r.length := by omega
    rw [this]
    rfl
  | d + 1, i, x, h1, h2 => by
    have e : Int.toNat (i : Int) = i := by omega
    have e2 : IntKind.wrap IntKind.i64 ((i : Int) + 1) = ((i + 1 : Nat) : Int) := by rw [w64 (by omega) (by omega)]; omega
    have hb := hs _ (row_mem (r := r) (i := i) (by omega))
    rw [drop_row (by omega)]
    by_cases c : smpF (snd (Abs.rowAt r i)) = 0
    · have hx : ∀ (m n : Nat), d + 1 ≤ n + 1 → ∀ (R : Type) (kx0 : Abs.Rows → Int → Int → Int → Option R) (kx1 : Int → Int → Option R), Lp40_6 (m + 12) kx0 kx1 r rows0 0 r r.length (n + 1 + 1) x i = Lp40_6 (m + 12) kx0 kx1 r rows0 0 r r.length (n + 1) ((if (snd (Abs.rowAt r i)).length > x then (snd (Abs.rowAt r i)).length else x : Nat) : Int) ((i + 1 : Nat) : Int) := by
        intro m n hn R kx0 kx1
        rw [Lp40_6]
        simp only [Lp40_6_step, e, e2, fR_snd]
        rw [dT (by omega), dT (by omega), fn29 (m + 9) _ _ (by omega), nF c]
        congr 1
        split <;> split <;> omega
      simp only [sF, mL, if_neg (show ¬ smpF (snd (Abs.rowAt r i)) ≠ 0 by simpa using c)]
      rcases lp40_6 r hs hl d (i + 1) (if (snd (Abs.rowAt r i)).length > x then (snd (Abs.rowAt r i)).length else x) (by omega) (by split <;> omega) with ⟨h3, y, j, h4⟩ | ⟨h3, h4⟩
      · left
        refine ⟨h3, y, j, fun m n hn R kx0 kx1 => ?_⟩
        obtain ⟨n', rfl⟩ : ∃ n', n = n' + 1 := ⟨n - 1, by omega⟩
        rw [hx m n' (by omega), h4 m n' (by omega)]
      · right
        refine ⟨h3, fun m n hn R kx0 kx1 => ?_⟩
        obtain ⟨n', rfl⟩ : ∃ n', n = n' + 1 := ⟨n - 1, by omega⟩
        rw [hx m n' (by omega), h4 m n' (by omega)]
    · left
      simp only [sF, if_pos c]
      refine ⟨c, x, i, fun m n hn R kx0 kx1 => ?_⟩
      rw [Lp40_6]
      simp only [Lp40_6_step, e, e2, fR_snd]
      rw [dT (by omega), dT (by omega), fn29 (m + 9) _ _ (by omega), nT c]
/-! one sound is added -/
theorem lp40_23 (s Z : Abs.Rows) (hl : s.length ≤ 8) : ∀ (d i : Nat) (Q : Abs.Rows), i + d = s.length → s.length ≤ Q.length → Q.length ≤ 1000 →
    ∃ Q' : Abs.Rows, Q'.length = Q.length ∧ ∀ (m n : Nat), d ≤ n → ∀ (R : Type) (k : Abs.Rows → Int → Option R) (a b c : Abs.Rows) (x y : Int) (e : Abs.Rows) (z : Nat) (f : Abs.Rows),
      Lp40_23 m k a b c x y e z f s s.length (n + 1) (Q ++ Z) i = k (Q' ++ Z) s.length ∧ Lp43_12 m k a b c x y e z f s s.length (n + 1) Q i = k Q' s.length
  | 0, i, Q, h1, h2, h3 => by
    refine ⟨Q, rfl, fun m n hn R k a b c x y e z f => ?_⟩
    have : (i : Int) = s.length := by omega
    simp only [Lp40_23, Lp40_23_step, Lp43_12, Lp43_12_step]
    rw [dF (by omega), dF (by omega), this]
    exact ⟨rfl, rfl⟩
  | d + 1, i, Q, h1, h2, h3 => by
    have e : Int.toNat (i : Int) = i := by omega
    have e2 : IntKind.wrap IntKind.i64 ((i : Int) + 1) = ((i + 1 : Nat) : Int) := by rw [w64 (by omega) (by omega)]; omega
    obtain ⟨Q', g1, g2⟩ := lp40_23 s Z hl d (i + 1) (Q.set i [F.lit (Value.int IntKind.i64 (IntKind.wrap IntKind.i64 (fI Q i 0 + fI s i 0)))]) (by omega) (by simp; omega) (by simp; omega)
    refine ⟨Q', by simpa using g1, fun m n hn R k a b c x y e' z f => ?_⟩
    obtain ⟨n', rfl⟩ : ∃ n', n = n' + 1 := ⟨n - 1, by omega⟩
    constructor
    · rw [Lp40_23]
      simp only [Lp40_23_step, e, e2]
      rw [dT (by omega), dT (by omega), dT (by simp; omega), dT (by simp; omega), fI_app_lt (by omega), stR1, List.set_append_left _ _ (by omega)]
      exact (g2 m n' (by omega) R k a b c x y e' z f).1
    · rw [Lp43_12]
      simp only [Lp43_12_step, e, e2]
      rw [dT (by omega), dT (by omega), dT (by omega), dT (by omega), stR1]
      exact (g2 m n' (by omega) R k a b c x y e' z f).2
theorem lp43_7 (s : Abs.Rows) (hl : s.length ≤ 8) : ∀ (d : Nat) (Q : Abs.Rows), s.length - Q.length = d → ∀ (m n : Nat), d ≤ n → ∀ (R : Type) (k : Abs.Rows → Option R) (a c : Abs.Rows) (x y : Int) (e : Abs.Rows) (z : Nat) (f : Abs.Rows),
      Lp43_7 m k a s c x y e z f (n + 1) Q = k (Q ++ List.replicate d [F.lit (Value.int IntKind.i64 (0 : Int))])
  | 0, Q, h1, m, n, hn, R, k, a, c, x, y, e, z, f => by
    simp only [Lp43_7, Lp43_7_step]
    rw [dF (by omega)]
    simp
  | d + 1, Q, h1, m, n, hn, R, k, a, c, x, y, e, z, f => by
    obtain ⟨n', rfl⟩ : ∃ n', n = n' + 1 := ⟨n - 1, by omega⟩
    rw [Lp43_7]
    simp only [Lp43_7_step, letV]
    rw [dT (by omega), dT (by simp [rM]; omega), lp43_7 s hl d (Q ++ [[F.lit (Value.int IntKind.i64 (0 : Int))]]) (by simp; omega) m n' (by omega)]
    simp [List.replicate_succ]
theorem lp40_18 (r : Abs.Rows) (hs : ∀ row ∈ r, (snd row).length ≤ 8) (hl : r.length ≤ 20) (long : Nat) (hlong : long ≤ 8) (hm : ∀ row ∈ r, (snd row).length ≤ long) : ∀ (d i z : Nat) (Q : Abs.Rows), i + d = r.length → Q.length + z = long →
    ∃ (O : Abs.Rows) (z' : Nat), O.length = mL (r.drop i) Q.length ∧ O.length + z' = long ∧ ∀ (m n : Nat), d ≤ n → ∀ (R : Type) (k : Abs.Rows → Int → Option R),
      Lp40_18 (m + 10) k r r r.length (n + 1) (Q ++ List.replicate z [F.lit (Value.int IntKind.i64 (0 : Int))]) i = k (O ++ List.replicate z' [F.lit (Value.int IntKind.i64 (0 : Int))]) r.length ∧ Lp43_3 (m + 10) k r r r.length (n + 1) Q i = k O r.length
  | 0, i, z, Q, h1, h2 => by
    have hd : r.drop i = [] := List.drop_eq_nil_of_le (by omega)
    rw [hd]
    refine ⟨Q, z, rfl, h2, fun m n hn R k => ?_⟩
    have : (i : Int) = r.length := by omega
    simp only [Lp40_18, Lp40_18_step, Lp43_3, Lp43_3_step]
    rw [dF (by omega), dF (by omega), this]
    exact ⟨rfl, rfl⟩
  | d + 1, i, z, Q, h1, h2 => by
    have e : Int.toNat (i : Int) = i := by omega
    have e2 : IntKind.wrap IntKind.i64 ((i : Int) + 1) = ((i + 1 : Nat) : Int) := by rw [w64 (by omega) (by omega)]; omega
    have hb := hs _ (row_mem (r := r) (i := i) (by omega))
    have hb2 := hm _ (row_mem (r := r) (i := i) (by omega))
    rw [drop_row (by omega)]
    simp only [mL]
    -- padded
    have hZ : List.replicate z [F.lit (Value.int IntKind.i64 (0 : Int))] = List.replicate ((snd (Abs.rowAt r i)).length - Q.length) [F.lit (Value.int IntKind.i64 (0 : Int))] ++ List.replicate (z - ((snd (Abs.rowAt r i)).length - Q.length)) [F.lit (Value.int IntKind.i64 (0 : Int))] := by
      rw [List.replicate_append_replicate]
      congr 1
      omega
    obtain ⟨Q', g1, g2⟩ := lp40_23 (snd (Abs.rowAt r i)) (List.replicate (z - ((snd (Abs.rowAt r i)).length - Q.length)) [F.lit (Value.int IntKind.i64 (0 : Int))]) hb (snd (Abs.rowAt r i)).length 0 (Q ++ List.replicate ((snd (Abs.rowAt r i)).length - Q.length) [F.lit (Value.int IntKind.i64 (0 : Int))]) (by omega) (by simp; omega) (by simp; omega)
    simp only [List.length_append, List.length_replicate] at g1
    obtain ⟨O, z', k1, k2, k3⟩ := lp40_18 r hs hl long hlong hm d (i + 1) (z - ((snd (Abs.rowAt r i)).length - Q.length)) Q' (by omega) (by omega)
    have hQ : Q'.length = if (snd (Abs.rowAt r i)).length > Q.length then (snd (Abs.rowAt r i)).length else Q.length := by split <;> omega
    refine ⟨O, z', by rw [k1, hQ], k2, fun m n hn R k => ?_⟩
    obtain ⟨n', rfl⟩ : ∃ n', n = n' + 1 := ⟨n - 1, by omega⟩
    constructor
    · rw [Lp40_18]
      simp only [Lp40_18_step, e, e2, fR_snd]
      rw [dT (by omega), dT (by omega), hZ, ← List.append_assoc]
      refine ((g2 (m + 10) (m + 9) (by omega) R _ _ _ _ _ _ _ _ _).1).trans ?_
      exact (k3 m n' (by omega) R k).1
    · rw [Lp43_3]
      simp only [Lp43_3_step, e, e2, fR_snd]
      rw [dT (by omega), dT (by omega), lp43_7 _ hb _ Q rfl (m + 10) (m + 9) (by omega)]
      refine ((g2 (m + 10) (m + 9) (by omega) R _ _ _ _ _ _ _ _ _).2).trans ?_
      exact (k3 m n' (by omega) R k).2
theorem lp40_31 : ∀ (d i : Nat) (o : Abs.Rows), i + d = o.length → o.length ≤ 1000 → ∃ o' : Abs.Rows, o'.length = o.length ∧ ∀ (m n : Nat), d ≤ n → ∀ (R : Type) (k : Abs.Rows → Int → Option R), Lp40_31 (m + 1) k o.length (n + 1) o i = k o' o.length ∧ Lp43_20 (m + 1) k o.length (n + 1) o i = k o' o.length
  | 0, i, o, h1, h2 => by
    refine ⟨o, rfl, fun m n hn R k => ?_⟩
    have : (i : Int) = o.length := by omega
    simp only [Lp40_31, Lp40_31_step, Lp43_20, Lp43_20_step]
    rw [dF (by omega), dF (by omega), this]
    exact ⟨rfl, rfl⟩
  | d + 1, i, o, h1, h2 => by
    have e : Int.toNat (i : Int) = i := by omega
    have e2 : IntKind.wrap IntKind.i64 ((i : Int) + 1) = ((i + 1 : Nat) : Int) := by rw [w64 (by omega) (by omega)]; omega
    obtain ⟨o', g1, g2⟩ := lp40_31 d (i + 1) (stR [LT.int IntKind.i64] o i 0 [F.lit (Value.int IntKind.i64 (cut (fI o i 0)))]) (by simp [stR]; omega) (by simp [stR]; omega)
    have hlen : (stR [LT.int IntKind.i64] o i 0 [F.lit (Value.int IntKind.i64 (cut (fI o i 0)))]).length = o.length := by simp [stR]
    rw [hlen] at g1 g2
    refine ⟨o', g1, fun m n hn R k => ?_⟩
    obtain ⟨n', rfl⟩ : ∃ n', n = n' + 1 := ⟨n - 1, by omega⟩
    constructor
    · rw [Lp40_31]
      simp only [Lp40_31_step, e, e2]
      rw [dT (by omega), dT (by omega), (fn76 m _ _).1, dT (by omega)]
      exact (g2 m n' (by omega) R k).1
    · rw [Lp43_20]
      simp only [Lp43_20_step, e, e2]
      rw [dT (by omega), dT (by omega), (fn76 m _ _).2, dT (by omega)]
      exact (g2 m n' (by omega) R k).2
def fM (r : Abs.Rows) : Int := if (r.length : Int) > 20 then 2 else sF r
/-- both mix alike -/
theorem fn40 (r : Abs.Rows) (hs : ∀ row ∈ r, (snd row).length ≤ 8) : ∃ x : Abs.Rows, x.length ≤ 8 ∧ (∀ (m : Nat) (R : Type) (k : Abs.Rows → Int → Option R), Fn40 (m + 40) r k = k x (fM r)) ∧ (fM r = 0 → ∀ (m : Nat) (R : Type) (k : Abs.Rows → Option R), Fn43 (m + 40) r k = k x) ∧ (fM r ≠ 0 → x = rows0) := by
  by_cases hl : (r.length : Int) > 20
  · refine ⟨rows0, by simp, fun m R k => ?_, fun h => ?_, fun _ => rfl⟩
    · simp only [Fn40]
      rw [dT hl, fM, if_pos hl]
    · rw [fM, if_pos hl] at h; cases h
  · have e0 : fM r = sF r := by rw [fM, if_neg hl]
    rcases lp40_6 r hs (by omega) r.length 0 0 (by omega) (by omega) with ⟨h3, y, j, h4⟩ | ⟨h3, h4⟩
    · rw [List.drop_zero] at h3 h4
      refine ⟨rows0, by simp, fun m R k => ?_, fun h => (h3 (by rw [← e0]; exact h)).elim, fun _ => rfl⟩
      simp only [Fn40]
      rw [dF hl, e0]
      exact h4 (m + 27) (m + 38) (by omega) R _ _
    · rw [List.drop_zero] at h3 h4
      obtain ⟨O, z', k1, k2, k3⟩ := lp40_18 r hs (by omega) (mL r 0) (mL_le r 0 8 (by omega) hs) (fun row h => mL_mem r 0 row h) r.length 0 (mL r 0) rows0 (by omega) (by simp)
      rw [List.drop_zero] at k1
      simp only [List.length_nil] at k1
      have hz : z' = 0 := by omega
      have h8 : mL r 0 ≤ 8 := mL_le r 0 8 (by omega) hs
      subst hz
      simp only [List.replicate_zero, List.append_nil] at k3
      obtain ⟨o, g1, g2⟩ := lp40_31 O.length 0 O (by omega) (by omega)
      refine ⟨o, by omega, fun m R k => ?_, fun _ m R k => ?_, fun h => (h (by rw [e0]; exact h3)).elim⟩
      · simp only [Fn40]
        rw [dF hl, e0, h3]
        refine (h4 (m + 27) (m + 38) (by omega) R _ _).trans ?_
        rw [dT (by simp [rM]; omega), show Int.toNat ((mL r 0 : Nat) : Int) = mL r 0 by omega]
        refine ((k3 (m + 29) (m + 38) (by omega) R _).1).trans ?_
        exact (g2 (m + 38) (m + 38) (by omega) R _).1
      · simp only [Fn43]
        refine ((k3 (m + 29) (m + 38) (by omega) R _).2).trans ?_
        exact (g2 (m + 38) (m + 38) (by omega) R _).2
end Go.Proofs.Ytjhfbmhblpjigaa.Med
end
section
set_option linter.unusedVariables false
set_option linter.unusedSimpArgs false
namespace Go.Proofs.Ytjhfbmhblpjigaa.Med
open Go Go.Abs Go.Proofs
set_option linter.unusedVariables false
set_option linter.unusedSimpArgs false
theorem sF_app : ∀ (r : Abs.Rows) (row : List F), sF (r ++ [row]) = if sF r ≠ 0 then sF r else smpF (snd row)
  | [], row => by
    simp only [List.nil_append, sF]
    split <;> simp_all
  | a :: r, row => by
    have := sF_app r row
    simp only [List.cons_append, sF]
    split
    · simp_all
    · exact this
theorem lp6_5 (m : Nat) (q : Abs.Rows) {hi : Int} (hh : hi ≤ 10) : ∀ (d n : Nat) (i j : Int) (r : Abs.Rows), 0 ≤ i → i + 20 * d ≤ 1000 → j + d = hi → 0 ≤ j → d < n → r.length + d ≤ 10 → (∀ row ∈ r, (snd row).length ≤ 8) →
    ∃ (r' : Abs.Rows) (i' : Int), r'.length = r.length + d ∧ i ≤ i' ∧ i' ≤ i + 20 * d ∧ (∀ row ∈ r', (snd row).length ≤ 8) ∧ ∀ (R : Type) (k : Int → Abs.Rows → Int → Int → Option R), Lp6_5 (m + 30) k q hi n i r (sF r) j = k i' r' (sF r') hi
  | d, 0, i, j, r, h0, h1, h2, h3, hn, h4, h5 => by omega
  | 0, n + 1, i, j, r, h0, h1, h2, h3, hn, h4, h5 => by
    refine ⟨r, i, rfl, by omega, by omega, h5, fun R k => ?_⟩
    simp only [Lp6_5, Lp6_5_step]
    rw [dF (by omega)]
    congr 1
    omega
  | d + 1, n + 1, i, j, r, h0, h1, h2, h3, hn, h4, h5 => by
    obtain ⟨x, i1, g1, g2, g3, g4⟩ := fn22 (m + 25) q (i := i) (most := 8) h0 (by omega) (by omega) (by omega) (by omega)
    have hx : snd [F.lst [LT.int IntKind.i64] x] = x := rfl
    obtain ⟨r', i', k1, k2, k3, k4, k5⟩ := lp6_5 m q hh d n i1 (j + 1) (r ++ [[F.lst [LT.int IntKind.i64] x]]) (by omega) (by omega) (by omega) (by omega) (by omega) (by simp; omega) (by
      intro row hr
      simp only [List.mem_append, List.mem_singleton] at hr
      rcases hr with hr | rfl
      · exact h5 row hr
      · rw [hx]; omega)
    refine ⟨r', i', by simp at k1; omega, by omega, by omega, k4, fun R k => ?_⟩
    rw [Lp6_5]
    simp only [Lp6_5_step, letV]
    rw [dT (by omega), g4, dT (by simp [rM]; omega), fn28 (m + 24) x _ (by omega), fn35 (m + 25), w64 (x := j + 1) (by omega) (by omega)]
    have := k5 R k
    rw [sF_app, hx] at this
    exact this
theorem jn28 (m : Nat) (f1 f2 f3 : Int) (a b c : Abs.Rows) (ha : a.length ≤ 20001) (hb : b.length ≤ 20001) (hc : c.length ≤ 20001) (hm : 20010 ≤ m) {R : Type} (k : Bool → Option R) (x y z : Int) : Jn6_28 (m + 3) k f1 a f1 b f2 c f3 a f2 f3 b c x y z = k true := by
  simp only [Jn6_28]
  rw [eT rfl, fn38 (m + 2) a _ (by omega) (by omega), bT rfl, eT rfl, fn38 (m + 2) b _ (by omega) (by omega), bT rfl, eT rfl, fn46 (m + 2) c _ (by omega) (by omega), bT rfl, fn19]
theorem jn20 (m : Nat) (x : Abs.Rows) (hx : x.length ≤ 1000) (by_ low long fault : Int) (mm a w : Abs.Rows) (hm : 20100 ≤ m) (hmm : mm.length ≤ 20001) (ha : a.length ≤ 20001) (hw : w.length ≤ 20001)
    (ha1 : (smpF x = 0 ∧ 0 ≤ by_ ∧ by_ ≤ 65536) → ∀ (m' : Nat) (R : Type) (k : Abs.Rows → Option R), x.length < m' → Fn44 (m' + 2) x by_ k = k a) (ha2 : ¬(smpF x = 0 ∧ 0 ≤ by_ ∧ by_ ≤ 65536) → a = rows0)
    (hw1 : (smpF x = 0 ∧ 0 ≤ low ∧ low ≤ 32767 ∧ 1 ≤ long ∧ long ≤ 20000) → ∀ (m : Nat) (R : Type) (k : Abs.Rows → Option R), x.length < m → Fn45 (m + 2) x low long k = k w) (hw2 : ¬(smpF x = 0 ∧ 0 ≤ low ∧ low ≤ 32767 ∧ 1 ≤ long ∧ long ≤ 20000) → w = rows0)
    {R : Type} (k : Bool → Option R) (u v s : Int) :
    Jn6_20 (m + 6) k fault x by_ low long mm fault a (if smpF x ≠ 0 then smpF x else if 0 ≤ by_ ∧ by_ ≤ 65536 then 0 else 1) w (if smpF x ≠ 0 then smpF x else if 0 ≤ low ∧ low ≤ 32767 ∧ 1 ≤ long ∧ long ≤ 20000 then 0 else 1) mm u v s = k true := by
  have j25 : ∀ one two : Int, (two = if smpF x ≠ 0 then smpF x else if 0 ≤ low ∧ low ≤ 32767 ∧ 1 ≤ long ∧ long ≤ 20000 then 0 else 1) → Jn6_25 (m + 6) k fault x low long mm fault a one w two mm one two a u v s = k true := by
    intro one two ht
    simp only [Jn6_25]
    by_cases h : two = 0
    · rw [eT h, hw1 (by
        rw [ht] at h
        split at h
        · rename_i g; exact (g h).elim
        · rename_i g
          split at h
          · rename_i g2; exact ⟨by simpa using g, g2⟩
          · cases h) (m + 4) _ _ (by omega)]
      exact jn28 (m + 3) _ _ _ _ _ _ hmm ha hw (by omega) k _ _ _
    · rw [eF h]
      have hw0 : w = rows0 := hw2 fun hc => h (by rw [ht, if_neg (by simpa using hc.1), if_pos hc.2])
      rw [hw0]
      exact jn28 (m + 3) _ _ _ _ _ _ hmm ha (by simp) (by omega) k _ _ _
  have j22 : ∀ one two : Int, (one = if smpF x ≠ 0 then smpF x else if 0 ≤ by_ ∧ by_ ≤ 65536 then 0 else 1) → (two = if smpF x ≠ 0 then smpF x else if 0 ≤ low ∧ low ≤ 32767 ∧ 1 ≤ long ∧ long ≤ 20000 then 0 else 1) → Jn6_22 (m + 6) k fault x by_ low long mm fault a one w two mm one two u v s = k true := by
    intro one two ho ht
    simp only [Jn6_22]
    by_cases h : one = 0
    · rw [eT h, ha1 (by
        rw [ho] at h
        split at h
        · rename_i g; exact (g h).elim
        · rename_i g
          split at h
          · rename_i g2; exact ⟨by simpa using g, g2⟩
          · cases h) (m + 4) _ _ (by omega)]
      exact j25 one two ht
    · rw [eF h]
      have ha0 : a = rows0 := ha2 fun hc => h (by rw [ho, if_neg (by simpa using hc.1), if_pos hc.2])
      have := j25 one two ht
      rw [ha0] at this ⊢
      exact this
  have j21 : ∀ one : Int, (one = if smpF x ≠ 0 then smpF x else if 0 ≤ by_ ∧ by_ ≤ 65536 then 0 else 1) → Jn6_21 (m + 6) k fault x by_ low long mm fault a one w (if smpF x ≠ 0 then smpF x else if 0 ≤ low ∧ low ≤ 32767 ∧ 1 ≤ long ∧ long ≤ 20000 then 0 else 1) mm one u v s = k true := by
    intro one ho
    simp only [Jn6_21]
    rw [fn28v1 m x _ (by omega)]
    have fin : ∀ b : Int, (b = if 0 ≤ low ∧ low ≤ 32767 ∧ 1 ≤ long ∧ long ≤ 20000 then 0 else 1) → Fn35 (m + 6) [[F.lit (Value.int IntKind.i64 (smpF x))], [F.lit (Value.int IntKind.i64 b)]] (fun t => Jn6_22 (m + 6) k fault x by_ low long mm fault a one w (if smpF x ≠ 0 then smpF x else if 0 ≤ low ∧ low ≤ 32767 ∧ 1 ≤ long ∧ long ≤ 20000 then 0 else 1) mm one t u v s) = k true := by
      intro b hb
      rw [fn35 (m + 1), ← hb]
      exact j22 one _ ho (by rw [← hb])
    by_cases c1 : low < 0
    · rw [dT c1]
      simp only [Fn24, cond_true]
      exact fin 1 (by rw [if_neg (by omega)])
    rw [dF c1]
    by_cases c2 : low > 32767
    · rw [dT c2]
      simp only [Fn24, cond_true]
      exact fin 1 (by rw [if_neg (by omega)])
    rw [dF c2]
    by_cases c3 : long < 1
    · rw [dT c3]
      simp only [Fn24, cond_true]
      exact fin 1 (by rw [if_neg (by omega)])
    rw [dF c3]
    by_cases c4 : long > 20000
    · simp only [Fn24, decide_eq_true c4, cond_true]
      exact fin 1 (by rw [if_neg (by omega)])
    · simp only [Fn24, decide_eq_false c4, cond_false]
      exact fin 0 (by rw [if_pos (by omega)])
  simp only [Jn6_20]
  rw [fn28v1 m x _ (by omega)]
  have fin : ∀ b : Int, (b = if 0 ≤ by_ ∧ by_ ≤ 65536 then 0 else 1) → Fn35 (m + 6) [[F.lit (Value.int IntKind.i64 (smpF x))], [F.lit (Value.int IntKind.i64 b)]] (fun t => Jn6_21 (m + 6) k fault x by_ low long mm fault a (if smpF x ≠ 0 then smpF x else if 0 ≤ by_ ∧ by_ ≤ 65536 then 0 else 1) w (if smpF x ≠ 0 then smpF x else if 0 ≤ low ∧ low ≤ 32767 ∧ 1 ≤ long ∧ long ≤ 20000 then 0 else 1) mm t u v s) = k true := by
    intro b hb
    rw [fn35 (m + 1), ← hb]
    exact j21 _ (by rw [← hb])
  by_cases c1 : by_ < 0
  · rw [dT c1]
    simp only [Fn24, cond_true]
    exact fin 1 (by rw [if_neg (by omega)])
  rw [dF c1]
  by_cases c4 : by_ > 65536
  · simp only [Fn24, decide_eq_true c4, cond_true]
    exact fin 1 (by rw [if_neg (by omega)])
  · simp only [Fn24, decide_eq_false c4, cond_false]
    exact fin 0 (by rw [if_pos (by omega)])
theorem jn13 (m : Nat) (q all : Abs.Rows) {i : Int} (h0 : 0 ≤ i) (h1 : i ≤ 1000) (hs : ∀ row ∈ all, (snd row).length ≤ 8) (hm : 20200 ≤ m) {R : Type} (k : Bool → Option R) : Jn6_13 (m + 50) k q i all (fM all) = k true := by
  obtain ⟨x, j, g1, g2, g3, g4⟩ := fn22 (m + 45) q (i := i) (most := 10) h0 (by omega) (by omega) (by omega) (by omega)
  simp only [Jn6_13]
  rw [g4, fn20 (m + 47) q _ (by omega) (by omega) (by simp) (by simp)]
  generalize pk _ _ _ = by_
  rw [fn20 (m + 47) q _ (by omega) (by omega) (by simp) (by simp)]
  generalize pk _ _ _ = low
  rw [fn20 (m + 47) q _ (by omega) (by omega) (by simp) (by simp)]
  generalize pk _ _ _ = long
  obtain ⟨mm, a1, a2, a3, a4⟩ := fn40 all hs
  obtain ⟨a, b1, b2, b3, b4⟩ := fn41 (m + 46) x by_ (by omega) (by omega)
  obtain ⟨w, c1, c2, c3, c4⟩ := fn42 x low long (by omega)
  rw [a2 (m + 10), b2, c2 (m + 46) R _ (by omega)]
  by_cases h : fM all = 0
  · rw [eT h, a3 h (m + 10)]
    exact jn20 (m + 44) x (by omega) by_ low long _ mm a w (by omega) (by omega) (by omega) c1 b3 b4 c3 c4 k _ _ _
  · rw [eF h, a4 h]
    exact jn20 (m + 44) x (by omega) by_ low long _ rows0 a w (by omega) (by simp) (by omega) c1 b3 b4 c3 c4 k _ _ _
theorem fn6a (M : Nat) (hM : 21000 ≤ M) (q : Abs.Rows) {R : Type} (k : Bool → Option R) : Fn6 (M + 60) q k = k true := by
  have a1 := Int.emod_nonneg (nx q 0) (show (4 : Int) - 0 + 1 ≠ 0 by omega)
  have a2 := Int.emod_lt_of_pos (nx q 0) (show (0 : Int) < 4 - 0 + 1 by omega)
  obtain ⟨d, hd⟩ := Int.eq_ofNat_of_zero_le a1
  obtain ⟨r, i, g1, g2, g3, g4, g5⟩ := lp6_5 (M + 29) q (hi := 0 + nx q 0 % (4 - 0 + 1)) (by omega) d (M + 59) (0 + 1) 0 rows0 (by omega) (by omega) (by omega) (by omega) (by omega) (by simp; omega) (by simp)
  simp only [Fn6]
  rw [fn21 (M + 56) q (by omega) (by omega) (by omega) (by omega) (by omega)]
  refine (g5 R _).trans ?_
  rw [fn39 (M + 56) q (by omega) (by omega) (by omega) (by omega)]
  simp at g1
  by_cases h : nx q i % 40 = 0
  · rw [beq_iff_eq.2 h, bT rfl]
    exact jn13 (M + 9) q _ (by omega) (by omega) (by
      intro row hr
      have : row = [F.lst [LT.int IntKind.i64] rows0] := by simpa using hr
      subst this
      simp [snd, F.toRows]) (by omega) k
  · rw [beq_false_of_ne h, bF rfl]
    have e : sF r = fM r := by rw [fM, if_neg (by omega)]
    rw [e]
    exact jn13 (M + 9) q r (by omega) (by omega) g4 (by omega) k
theorem fn6 (m : Nat) (q : Abs.Rows) {R : Type} (k : Bool → Option R) : Fn6 (m + 21000 + 60) q k = k true := fn6a (m + 21000) (by omega) q k
end Go.Proofs.Ytjhfbmhblpjigaa.Med
end
section
set_option linter.unusedVariables false
set_option linter.unusedSimpArgs false
namespace Go.Proofs.Ytjhfbmhblpjigaa.Med
open Go Go.Abs Go.Proofs Go.RowKit
theorem fn6_ok (rows : Abs.Rows) (m : Nat) (h : ∀ (R : Type) (k : Bool → Option R), Fn6 m rows k = k true) : FnOk Try.prog 6 [.f (.lst [.int .i64] rows)] (vBool true) [.undef] := by
  refine law_of (okT36 m) fun R k => ?_
  exact h R _
theorem walk6 (w : World) (a : Option Addr) (len cap : Nat) (zs : List Int) (h : IsInts .i64 w a len cap zs) : Calls Try.prog 6 #[.slice a len cap] w fun e w' => e = .returned (.bool true) ∧ Below w.heap.size w w' := by
  obtain ⟨body, hb⟩ : ∃ b, Try.f6.body = some b := ⟨_, rfl⟩
  exact law_calls Try.func6 (by kernel_rfl) hb h (fn6_ok _ _ fun R k => fn6 0 _ k)
end Go.Proofs.Ytjhfbmhblpjigaa.Med
end
