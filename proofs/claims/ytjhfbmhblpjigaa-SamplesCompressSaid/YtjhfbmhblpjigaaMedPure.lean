/- A part of the proofs of the seat Ytjhfbmhblpjigaa: no statement of the seat stands here. -/
import Derived.Test.YtjhfbmhblpjigaaRows
import Derived.Test.YtjhfbmhblpjigaaMedTyped
section
set_option linter.unusedVariables false
set_option linter.unusedSimpArgs false
namespace Go.Proofs.Ytjhfbmhblpjigaa.Med
open Go Go.Abs Go.Proofs
section
variable {α : Type} {a b : α}
theorem dT {p : Prop} [Decidable p] (h : p) : (bif decide p then a else b) = a := by rw [decide_eq_true h]; rfl
theorem dF {p : Prop} [Decidable p] (h : ¬p) : (bif decide p then a else b) = b := by rw [decide_eq_false h]; rfl
theorem eT {x y : Int} (h : x = y) : (bif x == y then a else b) = a := by simp [h]
theorem nT {x y : Int} (h : ¬ x = y) : (bif x != y then a else b) = a := by rw [bne_iff_ne.2 h]; rfl
theorem nF {x y : Int} (h : x = y) : (bif x != y then a else b) = b := by subst h; rw [bne_self_eq_false]; rfl
theorem eF {x y : Int} (h : ¬ x = y) : (bif x == y then a else b) = b := by rw [beq_false_of_ne h]; rfl
theorem andC {p q : Bool} : (bif p && q then a else b) = bif p then (bif q then a else b) else b := by cases p <;> rfl
theorem orC {p q : Bool} : (bif p || q then a else b) = bif p then a else (bif q then a else b) := by cases p <;> rfl
theorem notC {p : Bool} : (bif !p then a else b) = bif p then b else a := by cases p <;> rfl
theorem bT {c : Bool} (h : c = true) : (bif c then a else b) = a := by subst h; rfl
theorem bF {c : Bool} (h : c = false) : (bif c then a else b) = b := by subst h; rfl
end
theorem w64 {x : Int} (h0 : -9223372036854775808 ≤ x) (h1 : x < 9223372036854775808) : IntKind.wrap .i64 x = x := by
  rw [IntKind.wrap_i64]; omega
theorem w64b (x : Int) : -9223372036854775808 ≤ IntKind.wrap .i64 x ∧ IntKind.wrap .i64 x < 9223372036854775808 := by
  rw [IntKind.wrap_i64]; omega
theorem w8 {x : Int} (h0 : 0 ≤ x) (h1 : x < 256) : IntKind.wrap .u8 x = x := by
  rw [IntKind.wrap_u8]; omega
theorem w8b (x : Int) : 0 ≤ IntKind.wrap .u8 x ∧ IntKind.wrap .u8 x < 256 := by
  rw [IntKind.wrap_u8]; omega
theorem rM : rowMax = 1073741824 := rfl
theorem tm_pos {x y : Int} (h : 0 ≤ x) : Int.tmod x y = x % y := Int.tmod_eq_emod_of_nonneg h
theorem td_pos {x y : Int} (h : 0 ≤ x) : Int.tdiv x y = x / y := Int.tdiv_eq_ediv_of_nonneg h
/-- a row of one whole number -/
theorem stR1 (t : LT) (r : Abs.Rows) (i : Nat) (x : F) : stR [t] r i 0 [x] = r.set i [x] := rfl
theorem fI_set {r : Abs.Rows} {i : Nat} {k : IntKind} {n : Int} (h : i < r.length) : fI (r.set i [F.lit (.int k n)]) i 0 = n := by
  simp [fI, dropF, Abs.rowAt, List.getD_eq_getElem?_getD, h, F.toInt]
theorem fI_set_ne {r : Abs.Rows} {i j : Nat} {x : List F} (h : i ≠ j) : fI (r.set i x) j 0 = fI r j 0 := by
  simp [fI, dropF, Abs.rowAt, List.getD_eq_getElem?_getD, List.getElem?_set_ne h]
theorem fI_app {r : Abs.Rows} {k : IntKind} {n : Int} : fI (r ++ [[F.lit (.int k n)]]) r.length 0 = n := by
  simp [fI, dropF, Abs.rowAt, List.getD_eq_getElem?_getD, F.toInt]
theorem fI_app_lt {r s : Abs.Rows} {i : Nat} (h : i < r.length) : fI (r ++ s) i 0 = fI r i 0 := by
  simp [fI, dropF, Abs.rowAt, List.getD_eq_getElem?_getD, List.getElem?_append_left h]
/-- the raw number of a stream at a place -/
def below (x n : Int) : Int := x % n
theorem fn93 (m : Nat) {x y : Int} (hy : 1 ≤ y) (hy2 : y ≤ 1099511627776) {R : Type} {k : Int → Option R} : Fn93 (m + 1) x y k = k (x % y) := by
  have h2 : Int.tmod x y = x % y ∨ (Int.tmod x y + y = x % y ∧ Int.tmod x y < 0 ∧ -y < Int.tmod x y) := by
    by_cases h : 0 ≤ x
    · exact .inl (Int.tmod_eq_emod_of_nonneg h)
    · have h3 := Int.tmod_eq_emod (a := x) (b := y)
      have h4 := Int.emod_nonneg x (show y ≠ 0 by omega)
      have h5 := Int.emod_lt_of_pos x (show 0 < y by omega)
      by_cases hd : y ∣ x
      · left; rw [h3]; simp [hd]
      · right
        have h6 : Int.tmod x y = x % y - y := by
          rw [h3, if_neg (by simp; exact ⟨by omega, hd⟩)]
          omega
        have h7 : x % y ≠ 0 := fun h => hd (Int.dvd_of_emod_eq_zero h)
        omega
  have h4 := Int.emod_nonneg x (show y ≠ 0 by omega)
  simp only [Fn93]
  rw [dF (by omega), dT (by omega)]
  rcases h2 with h2 | ⟨h2, h3, h5⟩
  · rw [dF (by omega), h2]
  · rw [dT h3, w64 (by omega) (by omega), h2]
def nx (r : Abs.Rows) (i : Int) : Int := if (r.length : Int) = 0 then IntKind.wrap .i64 ((i + 1) * 7919) else
  IntKind.wrap IntKind.i64 (fI r (Int.toNat (Int.tmod i (r.length : Int))) 0 % 1073741824 + IntKind.wrap IntKind.i64 (IntKind.wrap IntKind.i64 (Int.tdiv i (r.length : Int)) * IntKind.wrap IntKind.i64 (7919 + Int.tmod i (r.length : Int))))
theorem fn59 (m : Nat) (r : Abs.Rows) {i n : Int} (h0 : 0 ≤ i) (h1 : i ≤ 1099511627776) (hn : 1 ≤ n) (hn2 : n ≤ 1099511627776) {R : Type} {k : Int → Int → Option R} :
    Fn59 (m + 2) r i n k = k (nx r i % n) (i + 1) := by
  have e1 : IntKind.wrap .i64 (i + 1) = i + 1 := w64 (by omega) (by omega)
  have e2 : IntKind.wrap .i64 (i + 1 - 1) = i := by rw [show i + 1 - 1 = i by omega]; exact w64 (by omega) (by omega)
  by_cases hr : (r.length : Int) = 0
  · simp only [Fn59, e1, nx, hr, if_true]
    rw [eT rfl, fn93 m hn hn2]
  · have hm1 : 0 ≤ Int.tmod i (r.length : Int) := Int.tmod_nonneg _ h0
    have hm2 : Int.tmod i (r.length : Int) < (r.length : Int) := Int.tmod_lt_of_pos _ (by omega)
    simp only [Fn59, e1, e2, nx, if_neg hr]
    rw [eF hr, dT hr, dT hr, dT ⟨hm1, hm2⟩, fn93 m (by omega) (by omega), fn93 m hn hn2]
    try rfl
theorem fn39 (m : Nat) (r : Abs.Rows) {i n : Int} (h0 : 0 ≤ i) (h1 : i ≤ 1099511627776) (hn : 1 ≤ n) (hn2 : n ≤ 1099511627776) {R : Type} {k : Bool → Int → Option R} :
    Fn39 (m + 3) r i n k = k (nx r i % n == 0) (i + 1) := by
  simp only [Fn39]
  rw [fn59 m r h0 h1 hn hn2]
theorem fn20 (m : Nat) (r : Abs.Rows) {i : Int} (rows : Abs.Rows) (h0 : 0 ≤ i) (h1 : i ≤ 1099511627776) (hn : 1 ≤ (rows.length : Int)) (hn2 : (rows.length : Int) ≤ 1099511627776) {R : Type} {k : Int → Int → Option R} :
    Fn20 (m + 3) r i rows k = k (fI rows (nx r i % (rows.length : Int)).toNat 0) (i + 1) := by
  have h4 := Int.emod_nonneg (nx r i) (show (rows.length : Int) ≠ 0 by omega)
  have h5 := Int.emod_lt_of_pos (nx r i) (show 0 < (rows.length : Int) by omega)
  simp only [Fn20]
  rw [fn59 m r h0 h1 hn hn2, dT ⟨h4, h5⟩]
theorem fn21 (m : Nat) (r : Abs.Rows) {i lo hi : Int} (h0 : 0 ≤ i) (h1 : i ≤ 1099511627776) (hl : -1000000000 ≤ lo) (hh : hi ≤ 1000000000) (hlh : lo ≤ hi) {R : Type} {k : Int → Int → Option R} :
    Fn21 (m + 3) r i lo hi k = k (lo + nx r i % (hi - lo + 1)) (i + 1) := by
  have h4 := Int.emod_nonneg (nx r i) (show hi - lo + 1 ≠ 0 by omega)
  have h5 := Int.emod_lt_of_pos (nx r i) (show 0 < hi - lo + 1 by omega)
  simp only [Fn21]
  rw [dF (by omega), w64 (x := hi - lo) (by omega) (by omega), w64 (x := hi - lo + 1) (by omega) (by omega), fn59 m r h0 h1 (by omega) (by omega), w64 (by omega) (by omega)]
end Go.Proofs.Ytjhfbmhblpjigaa.Med
end
section
set_option linter.unusedVariables false
set_option linter.unusedSimpArgs false
namespace Go.Proofs.Ytjhfbmhblpjigaa.Med
open Go Go.Abs Go.Proofs
set_option linter.unusedVariables false
set_option linter.unusedSimpArgs false
/-! the stream -/
theorem fn60 (m : Nat) (r : Abs.Rows) {i : Int} (lo hi : Int) (h0 : 0 ≤ i) (h1 : i ≤ 1000000000) (hl : -1000000000 ≤ lo) (hh : hi ≤ 1000000000) (hlh : lo ≤ hi) :
    ∃ v i' : Int, i ≤ i' ∧ i' ≤ i + 2 ∧ ∀ (R : Type) (k : Int → Int → Option R), Fn60 (m + 4) r i lo hi k = k v i' := by
  by_cases h : nx r i % 12 = 0
  · apply Exists.intro
    refine ⟨i + 1 + 1, by omega, by omega, fun R k => ?_⟩
    simp only [Fn60]
    rw [fn39 m r h0 (by omega) (by omega) (by omega), bT (by simpa using h), fn20 m r _ (by omega) (by omega) (by simp) (by simp)]
  · apply Exists.intro
    refine ⟨i + 1 + 1, by omega, by omega, fun R k => ?_⟩
    simp only [Fn60]
    rw [fn39 m r h0 (by omega) (by omega) (by omega), bF (by simpa using h), fn21 m r (by omega) (by omega) hl hh hlh]
/-! sounds that are drawn -/
theorem lp22 (m : Nat) (q : Abs.Rows) {hi : Int} (hh : hi ≤ 100000) : ∀ (d n : Nat) (r : Abs.Rows) (j i : Int), 0 ≤ i → i + d ≤ 100000000 → j + d = hi → 0 ≤ j → d < n → r.length + d ≤ 100000 →
    ∃ r' : Abs.Rows, r'.length = r.length + d ∧ ∀ (R : Type) (k : Abs.Rows → Int → Int → Option R), Lp22_3 (m + 3) k hi q n r j i = k r' hi (i + d)
  | _, 0, r, j, i, h0, h1, h2, h3, h4, h5 => by omega
  | 0, n + 1, r, j, i, h0, h1, h2, h3, h4, h5 => by
    refine ⟨r, rfl, fun R k => ?_⟩
    simp only [Lp22_3, Lp22_3_step]
    rw [dF (by omega)]
    congr 1 <;> omega
  | d + 1, n + 1, r, j, i, h0, h1, h2, h3, h4, h5 => by
    have key : ∃ x : Int, ∀ (R : Type) (k : Abs.Rows → Int → Int → Option R), Lp22_3 (m + 3) k hi q (n + 1) r j i = Lp22_3 (m + 3) k hi q n (r ++ [[F.lit (.int .i64 x)]]) (j + 1) (i + 1) := ⟨_, fun R k => by
      simp only [Lp22_3, Lp22_3_step]
      rw [dT (by omega), fn20 m q _ (by omega) (by omega) (by simp) (by simp), dT (by simp [rM]; omega), w64 (by omega) (by omega)]
      rfl⟩
    obtain ⟨x, hx⟩ := key
    obtain ⟨r', h6, h7⟩ := lp22 m q hh d n (r ++ [[F.lit (.int .i64 x)]]) (j + 1) (i + 1) (by omega) (by omega) (by omega) (by omega) (by omega) (by simp; omega)
    refine ⟨r', by simp at h6; omega, fun R k => ?_⟩
    rw [hx, h7]
    congr 1
    omega
theorem fn22 (m : Nat) (q : Abs.Rows) {i most : Int} (h0 : 0 ≤ i) (h1 : i ≤ 1000000) (hm0 : 0 ≤ most) (hm1 : most ≤ 10000) (hm : most < m) :
    ∃ (r' : Abs.Rows) (i' : Int), (r'.length : Int) ≤ most ∧ i ≤ i' ∧ i' ≤ i + most + 5 ∧ ∀ (R : Type) (k : Abs.Rows → Int → Option R), Fn22 (m + 5) q i most k = k r' i' := by
  have a1 := Int.emod_nonneg (nx q i) (show most - 0 + 1 ≠ 0 by omega)
  have a2 := Int.emod_lt_of_pos (nx q i) (show 0 < most - 0 + 1 by omega)
  obtain ⟨d, hd⟩ := Int.eq_ofNat_of_zero_le a1
  obtain ⟨r', h2, h3⟩ := lp22 (m + 1) q (hi := 0 + nx q i % (most - 0 + 1)) (by omega) d (m + 4) rows0 0 (i + 1) (by omega) (by omega) (by omega) (by omega) (by omega) (by simp [rows0]; omega)
  simp only [List.length_nil, Nat.zero_add] at h2
  have hl : (r'.length : Int) = d := by omega
  by_cases c1 : (r'.length : Int) > 0
  · by_cases c2 : nx q (i + 1 + d) % 25 = 0
    · have b1 := Int.emod_nonneg (nx q (i + 1 + d + 1)) (show (r'.length : Int) ≠ 0 by omega)
      have b2 := Int.emod_lt_of_pos (nx q (i + 1 + d + 1)) (show 0 < (r'.length : Int) by omega)
      obtain ⟨v, i', h4, h5, h6⟩ := fn60 m q (-32768) 32767 (i := i + 1 + d + 1 + 1) (by omega) (by omega) (by omega) (by omega) (by omega)
      apply Exists.intro
      refine ⟨i', ?_, ?_, ?_, fun R k => ?_⟩
      rotate_left 3
      · simp only [Fn22]
        rw [fn21 (m + 1) q h0 (by omega) (by omega) (by omega) hm0, h3, dT c1, fn39 (m + 1) q (by omega) (by omega) (by omega) (by omega), beq_iff_eq.2 c2]
        simp only [Jn22_8, cond_true]
        rw [fn59 (m + 2) q (by omega) (by omega) (by omega) (by omega), h6, dT ⟨b1, b2⟩]
      · simp [stR1]; omega
      · omega
      · omega
    · refine ⟨r', i + 1 + d + 1, by omega, by omega, by omega, fun R k => ?_⟩
      simp only [Fn22]
      rw [fn21 (m + 1) q h0 (by omega) (by omega) (by omega) hm0, h3, dT c1, fn39 (m + 1) q (by omega) (by omega) (by omega) (by omega), beq_false_of_ne c2]
      simp only [Jn22_8, cond_false]
  · refine ⟨r', i + 1 + d, by omega, by omega, by omega, fun R k => ?_⟩
    simp only [Fn22]
    rw [fn21 (m + 1) q h0 (by omega) (by omega) (by omega) hm0, h3, dF c1]
    simp only [Jn22_8, cond_false]
/-! samples and bytes -/
/-! the exponent of a sample, found by counting up and by halving -/
theorem expA0 {M s : Int} (hl : 32 ≤ M) (hu : M < 64) (m : Nat) (R : Type) (k : Int → Option R) (n : Nat) : Lp23_9 m k s M (n + 9) 0 = k 0 := by
  simp (disch := omega) only [Lp23_9, Lp23_9_step, ↓dT, ↓dF, w64, Int.reduceAdd, Int.reduceToNat, Nat.min_eq_left, Int.reducePow, Int.reduceMul]
theorem expB0 {M s : Int} (hl : 32 ≤ M) (hu : M < 64) (m : Nat) (R : Type) (l : Int → Int → Option R) (n : Nat) : Lp26_6 m (fun x y => l (IntKind.wrap IntKind.i64 (Int.tdiv x 2)) y) s (n + 9) M 0 = l (M / 2) 0 := by
  simp (disch := omega) only [Lp26_6, Lp26_6_step, ↓dT, ↓dF, w64, td_pos, Int.reduceAdd]
theorem expC0 {M s : Int} (hl : 32 ≤ M) (hu : M < 64) : ∃ e q : Int, 0 ≤ e ∧ e ≤ 7 ∧ 16 ≤ q ∧ q ≤ 31 ∧ Int.fdiv M ((2 : Int) ^ min (Int.toNat (IntKind.wrap IntKind.i64 (e + (1 : Int)))) (64 : Nat)) = q ∧
    ∀ (m : Nat) (R : Type) (k : Int → Option R) (l : Int → Int → Option R) (n : Nat), Lp23_9 m k s M (n + 9) 0 = k e ∧ Lp26_6 m (fun x y => l (IntKind.wrap IntKind.i64 (Int.tdiv x 2)) y) s (n + 9) M 0 = l q e := by
  refine ⟨0, M / 2, by omega, by omega, by omega, by omega, ?_, fun m R k l n => ⟨expA0 hl hu m R k n, expB0 hl hu m R l n⟩⟩
  rw [w64 (by omega) (by omega), Int.fdiv_eq_ediv_of_nonneg _ (by decide)]
  rfl
theorem expA1 {M s : Int} (hl : 64 ≤ M) (hu : M < 128) (m : Nat) (R : Type) (k : Int → Option R) (n : Nat) : Lp23_9 m k s M (n + 9) 0 = k 1 := by
  simp (disch := omega) only [Lp23_9, Lp23_9_step, ↓dT, ↓dF, w64, Int.reduceAdd, Int.reduceToNat, Nat.min_eq_left, Int.reducePow, Int.reduceMul]
theorem expB1 {M s : Int} (hl : 64 ≤ M) (hu : M < 128) (m : Nat) (R : Type) (l : Int → Int → Option R) (n : Nat) : Lp26_6 m (fun x y => l (IntKind.wrap IntKind.i64 (Int.tdiv x 2)) y) s (n + 9) M 0 = l (M / 4) 1 := by
  simp (disch := omega) only [Lp26_6, Lp26_6_step, ↓dT, ↓dF, w64, td_pos, Int.reduceAdd]
  congr 1
  omega
theorem expC1 {M s : Int} (hl : 64 ≤ M) (hu : M < 128) : ∃ e q : Int, 0 ≤ e ∧ e ≤ 7 ∧ 16 ≤ q ∧ q ≤ 31 ∧ Int.fdiv M ((2 : Int) ^ min (Int.toNat (IntKind.wrap IntKind.i64 (e + (1 : Int)))) (64 : Nat)) = q ∧
    ∀ (m : Nat) (R : Type) (k : Int → Option R) (l : Int → Int → Option R) (n : Nat), Lp23_9 m k s M (n + 9) 0 = k e ∧ Lp26_6 m (fun x y => l (IntKind.wrap IntKind.i64 (Int.tdiv x 2)) y) s (n + 9) M 0 = l q e := by
  refine ⟨1, M / 4, by omega, by omega, by omega, by omega, ?_, fun m R k l n => ⟨expA1 hl hu m R k n, expB1 hl hu m R l n⟩⟩
  rw [w64 (by omega) (by omega), Int.fdiv_eq_ediv_of_nonneg _ (by decide)]
  rfl
theorem expA2 {M s : Int} (hl : 128 ≤ M) (hu : M < 256) (m : Nat) (R : Type) (k : Int → Option R) (n : Nat) : Lp23_9 m k s M (n + 9) 0 = k 2 := by
  simp (disch := omega) only [Lp23_9, Lp23_9_step, ↓dT, ↓dF, w64, Int.reduceAdd, Int.reduceToNat, Nat.min_eq_left, Int.reducePow, Int.reduceMul]
theorem expB2 {M s : Int} (hl : 128 ≤ M) (hu : M < 256) (m : Nat) (R : Type) (l : Int → Int → Option R) (n : Nat) : Lp26_6 m (fun x y => l (IntKind.wrap IntKind.i64 (Int.tdiv x 2)) y) s (n + 9) M 0 = l (M / 8) 2 := by
  simp (disch := omega) only [Lp26_6, Lp26_6_step, ↓dT, ↓dF, w64, td_pos, Int.reduceAdd]
  congr 1
  omega
theorem expC2 {M s : Int} (hl : 128 ≤ M) (hu : M < 256) : ∃ e q : Int, 0 ≤ e ∧ e ≤ 7 ∧ 16 ≤ q ∧ q ≤ 31 ∧ Int.fdiv M ((2 : Int) ^ min (Int.toNat (IntKind.wrap IntKind.i64 (e + (1 : Int)))) (64 : Nat)) = q ∧
    ∀ (m : Nat) (R : Type) (k : Int → Option R) (l : Int → Int → Option R) (n : Nat), Lp23_9 m k s M (n + 9) 0 = k e ∧ Lp26_6 m (fun x y => l (IntKind.wrap IntKind.i64 (Int.tdiv x 2)) y) s (n + 9) M 0 = l q e := by
  refine ⟨2, M / 8, by omega, by omega, by omega, by omega, ?_, fun m R k l n => ⟨expA2 hl hu m R k n, expB2 hl hu m R l n⟩⟩
  rw [w64 (by omega) (by omega), Int.fdiv_eq_ediv_of_nonneg _ (by decide)]
  rfl
theorem expA3 {M s : Int} (hl : 256 ≤ M) (hu : M < 512) (m : Nat) (R : Type) (k : Int → Option R) (n : Nat) : Lp23_9 m k s M (n + 9) 0 = k 3 := by
  simp (disch := omega) only [Lp23_9, Lp23_9_step, ↓dT, ↓dF, w64, Int.reduceAdd, Int.reduceToNat, Nat.min_eq_left, Int.reducePow, Int.reduceMul]
theorem expB3 {M s : Int} (hl : 256 ≤ M) (hu : M < 512) (m : Nat) (R : Type) (l : Int → Int → Option R) (n : Nat) : Lp26_6 m (fun x y => l (IntKind.wrap IntKind.i64 (Int.tdiv x 2)) y) s (n + 9) M 0 = l (M / 16) 3 := by
  simp (disch := omega) only [Lp26_6, Lp26_6_step, ↓dT, ↓dF, w64, td_pos, Int.reduceAdd]
  congr 1
  omega
theorem expC3 {M s : Int} (hl : 256 ≤ M) (hu : M < 512) : ∃ e q : Int, 0 ≤ e ∧ e ≤ 7 ∧ 16 ≤ q ∧ q ≤ 31 ∧ Int.fdiv M ((2 : Int) ^ min (Int.toNat (IntKind.wrap IntKind.i64 (e + (1 : Int)))) (64 : Nat)) = q ∧
    ∀ (m : Nat) (R : Type) (k : Int → Option R) (l : Int → Int → Option R) (n : Nat), Lp23_9 m k s M (n + 9) 0 = k e ∧ Lp26_6 m (fun x y => l (IntKind.wrap IntKind.i64 (Int.tdiv x 2)) y) s (n + 9) M 0 = l q e := by
  refine ⟨3, M / 16, by omega, by omega, by omega, by omega, ?_, fun m R k l n => ⟨expA3 hl hu m R k n, expB3 hl hu m R l n⟩⟩
  rw [w64 (by omega) (by omega), Int.fdiv_eq_ediv_of_nonneg _ (by decide)]
  rfl
theorem expA4 {M s : Int} (hl : 512 ≤ M) (hu : M < 1024) (m : Nat) (R : Type) (k : Int → Option R) (n : Nat) : Lp23_9 m k s M (n + 9) 0 = k 4 := by
  simp (disch := omega) only [Lp23_9, Lp23_9_step, ↓dT, ↓dF, w64, Int.reduceAdd, Int.reduceToNat, Nat.min_eq_left, Int.reducePow, Int.reduceMul]
theorem expB4 {M s : Int} (hl : 512 ≤ M) (hu : M < 1024) (m : Nat) (R : Type) (l : Int → Int → Option R) (n : Nat) : Lp26_6 m (fun x y => l (IntKind.wrap IntKind.i64 (Int.tdiv x 2)) y) s (n + 9) M 0 = l (M / 32) 4 := by
  simp (disch := omega) only [Lp26_6, Lp26_6_step, ↓dT, ↓dF, w64, td_pos, Int.reduceAdd]
  congr 1
  omega
theorem expC4 {M s : Int} (hl : 512 ≤ M) (hu : M < 1024) : ∃ e q : Int, 0 ≤ e ∧ e ≤ 7 ∧ 16 ≤ q ∧ q ≤ 31 ∧ Int.fdiv M ((2 : Int) ^ min (Int.toNat (IntKind.wrap IntKind.i64 (e + (1 : Int)))) (64 : Nat)) = q ∧
    ∀ (m : Nat) (R : Type) (k : Int → Option R) (l : Int → Int → Option R) (n : Nat), Lp23_9 m k s M (n + 9) 0 = k e ∧ Lp26_6 m (fun x y => l (IntKind.wrap IntKind.i64 (Int.tdiv x 2)) y) s (n + 9) M 0 = l q e := by
  refine ⟨4, M / 32, by omega, by omega, by omega, by omega, ?_, fun m R k l n => ⟨expA4 hl hu m R k n, expB4 hl hu m R l n⟩⟩
  rw [w64 (by omega) (by omega), Int.fdiv_eq_ediv_of_nonneg _ (by decide)]
  rfl
theorem expA5 {M s : Int} (hl : 1024 ≤ M) (hu : M < 2048) (m : Nat) (R : Type) (k : Int → Option R) (n : Nat) : Lp23_9 m k s M (n + 9) 0 = k 5 := by
  simp (disch := omega) only [Lp23_9, Lp23_9_step, ↓dT, ↓dF, w64, Int.reduceAdd, Int.reduceToNat, Nat.min_eq_left, Int.reducePow, Int.reduceMul]
theorem expB5 {M s : Int} (hl : 1024 ≤ M) (hu : M < 2048) (m : Nat) (R : Type) (l : Int → Int → Option R) (n : Nat) : Lp26_6 m (fun x y => l (IntKind.wrap IntKind.i64 (Int.tdiv x 2)) y) s (n + 9) M 0 = l (M / 64) 5 := by
  simp (disch := omega) only [Lp26_6, Lp26_6_step, ↓dT, ↓dF, w64, td_pos, Int.reduceAdd]
  congr 1
  omega
theorem expC5 {M s : Int} (hl : 1024 ≤ M) (hu : M < 2048) : ∃ e q : Int, 0 ≤ e ∧ e ≤ 7 ∧ 16 ≤ q ∧ q ≤ 31 ∧ Int.fdiv M ((2 : Int) ^ min (Int.toNat (IntKind.wrap IntKind.i64 (e + (1 : Int)))) (64 : Nat)) = q ∧
    ∀ (m : Nat) (R : Type) (k : Int → Option R) (l : Int → Int → Option R) (n : Nat), Lp23_9 m k s M (n + 9) 0 = k e ∧ Lp26_6 m (fun x y => l (IntKind.wrap IntKind.i64 (Int.tdiv x 2)) y) s (n + 9) M 0 = l q e := by
  refine ⟨5, M / 64, by omega, by omega, by omega, by omega, ?_, fun m R k l n => ⟨expA5 hl hu m R k n, expB5 hl hu m R l n⟩⟩
  rw [w64 (by omega) (by omega), Int.fdiv_eq_ediv_of_nonneg _ (by decide)]
  rfl
theorem expA6 {M s : Int} (hl : 2048 ≤ M) (hu : M < 4096) (m : Nat) (R : Type) (k : Int → Option R) (n : Nat) : Lp23_9 m k s M (n + 9) 0 = k 6 := by
  simp (disch := omega) only [Lp23_9, Lp23_9_step, ↓dT, ↓dF, w64, Int.reduceAdd, Int.reduceToNat, Nat.min_eq_left, Int.reducePow, Int.reduceMul]
theorem expB6 {M s : Int} (hl : 2048 ≤ M) (hu : M < 4096) (m : Nat) (R : Type) (l : Int → Int → Option R) (n : Nat) : Lp26_6 m (fun x y => l (IntKind.wrap IntKind.i64 (Int.tdiv x 2)) y) s (n + 9) M 0 = l (M / 128) 6 := by
  simp (disch := omega) only [Lp26_6, Lp26_6_step, ↓dT, ↓dF, w64, td_pos, Int.reduceAdd]
  congr 1
  omega
theorem expC6 {M s : Int} (hl : 2048 ≤ M) (hu : M < 4096) : ∃ e q : Int, 0 ≤ e ∧ e ≤ 7 ∧ 16 ≤ q ∧ q ≤ 31 ∧ Int.fdiv M ((2 : Int) ^ min (Int.toNat (IntKind.wrap IntKind.i64 (e + (1 : Int)))) (64 : Nat)) = q ∧
    ∀ (m : Nat) (R : Type) (k : Int → Option R) (l : Int → Int → Option R) (n : Nat), Lp23_9 m k s M (n + 9) 0 = k e ∧ Lp26_6 m (fun x y => l (IntKind.wrap IntKind.i64 (Int.tdiv x 2)) y) s (n + 9) M 0 = l q e := by
  refine ⟨6, M / 128, by omega, by omega, by omega, by omega, ?_, fun m R k l n => ⟨expA6 hl hu m R k n, expB6 hl hu m R l n⟩⟩
  rw [w64 (by omega) (by omega), Int.fdiv_eq_ediv_of_nonneg _ (by decide)]
  rfl
theorem expA7 {M s : Int} (hl : 4096 ≤ M) (hu : M < 8192) (m : Nat) (R : Type) (k : Int → Option R) (n : Nat) : Lp23_9 m k s M (n + 9) 0 = k 7 := by
  simp (disch := omega) only [Lp23_9, Lp23_9_step, ↓dT, ↓dF, w64, Int.reduceAdd, Int.reduceToNat, Nat.min_eq_left, Int.reducePow, Int.reduceMul]
theorem expB7 {M s : Int} (hl : 4096 ≤ M) (hu : M < 8192) (m : Nat) (R : Type) (l : Int → Int → Option R) (n : Nat) : Lp26_6 m (fun x y => l (IntKind.wrap IntKind.i64 (Int.tdiv x 2)) y) s (n + 9) M 0 = l (M / 256) 7 := by
  simp (disch := omega) only [Lp26_6, Lp26_6_step, ↓dT, ↓dF, w64, td_pos, Int.reduceAdd]
  congr 1
  omega
theorem expC7 {M s : Int} (hl : 4096 ≤ M) (hu : M < 8192) : ∃ e q : Int, 0 ≤ e ∧ e ≤ 7 ∧ 16 ≤ q ∧ q ≤ 31 ∧ Int.fdiv M ((2 : Int) ^ min (Int.toNat (IntKind.wrap IntKind.i64 (e + (1 : Int)))) (64 : Nat)) = q ∧
    ∀ (m : Nat) (R : Type) (k : Int → Option R) (l : Int → Int → Option R) (n : Nat), Lp23_9 m k s M (n + 9) 0 = k e ∧ Lp26_6 m (fun x y => l (IntKind.wrap IntKind.i64 (Int.tdiv x 2)) y) s (n + 9) M 0 = l q e := by
  refine ⟨7, M / 256, by omega, by omega, by omega, by omega, ?_, fun m R k l n => ⟨expA7 hl hu m R k n, expB7 hl hu m R l n⟩⟩
  rw [w64 (by omega) (by omega), Int.fdiv_eq_ediv_of_nonneg _ (by decide)]
  rfl
theorem expo {M s : Int} (h0 : 33 ≤ M) (h1 : M ≤ 8191) : ∃ e q : Int, 0 ≤ e ∧ e ≤ 7 ∧ 16 ≤ q ∧ q ≤ 31 ∧ Int.fdiv M ((2 : Int) ^ min (Int.toNat (IntKind.wrap IntKind.i64 (e + (1 : Int)))) (64 : Nat)) = q ∧
    ∀ (m : Nat) (R : Type) (k : Int → Option R) (l : Int → Int → Option R) (n : Nat), Lp23_9 m k s M (n + 9) 0 = k e ∧ Lp26_6 m (fun x y => l (IntKind.wrap IntKind.i64 (Int.tdiv x 2)) y) s (n + 9) M 0 = l q e := by
  by_cases c0 : M < 64
  · exact expC0 (by omega) c0
  by_cases c1 : M < 128
  · exact expC1 (by omega) c1
  by_cases c2 : M < 256
  · exact expC2 (by omega) c2
  by_cases c3 : M < 512
  · exact expC3 (by omega) c3
  by_cases c4 : M < 1024
  · exact expC4 (by omega) c4
  by_cases c5 : M < 2048
  · exact expC5 (by omega) c5
  by_cases c6 : M < 4096
  · exact expC6 (by omega) c6
  exact expC7 (by omega) (by omega)
theorem inT {x lo hi : Int} (m : Nat) {R : Type} (k : Bool → Option R) : Fn67 (m + 1) x lo hi k = k (decide (lo ≤ x ∧ x ≤ hi)) ∧ Fn63 (m + 1) x lo hi k = k (decide (lo ≤ x ∧ x ≤ hi)) := by
  constructor
  · simp only [Fn67]
    by_cases h : x ≥ lo
    · rw [dT h]; congr 1; simp; omega
    · rw [dF h]; congr 1; symm; simp; omega
  · simp only [Fn63]
    by_cases h : lo ≤ x
    · rw [dT h]; congr 1; simp; omega
    · rw [dF h]; congr 1; symm; simp; omega
def Smp (x : Int) : Prop := -32768 ≤ x ∧ x ≤ 32767
instance (x : Int) : Decidable (Smp x) := inferInstanceAs (Decidable (_ ∧ _))
theorem fn68 (m : Nat) (x : Int) {R : Type} (k : Bool → Option R) : Fn68 (m + 2) x k = k (decide (Smp x)) := by
  simp only [Fn68]; rw [(inT m _).1]; rfl
theorem fn25 (m : Nat) (x : Int) {R : Type} (k : Bool → Option R) : Fn25 (m + 2) x k = k (decide (Smp x)) := by
  simp only [Fn25]; rw [(inT m _).2]; rfl
theorem expo2 {M s : Int} (hs0 : 0 ≤ s) (hs1 : s ≤ 128) (h0 : 33 ≤ M) (h1 : M ≤ 8191) : ∃ v : Int, ∀ (m : Nat) (R : Type), (∀ (k : Int → Option R), Lp23_9 (m + 9) (fun i605 => bif decide ((0 : Int) ≤ IntKind.wrap IntKind.i64 (i605 + (1 : Int))) then (k (IntKind.wrap IntKind.u8 (IntKind.wrap IntKind.i64 ((255 : Int) - IntKind.wrap IntKind.i64 (IntKind.wrap IntKind.i64 (s + IntKind.wrap IntKind.i64 ((16 : Int) * i605)) + IntKind.wrap IntKind.i64 (Int.fdiv M ((2 : Int) ^ min (Int.toNat (IntKind.wrap IntKind.i64 (i605 + (1 : Int)))) (64 : Nat)) - (16 : Int))))))) else none) s M (m + 9) 0 = k v) ∧
    ∀ (k : Int → Option R), Lp26_6 (m + 9) (fun i636 i637 => k (IntKind.wrap IntKind.u8 (IntKind.wrap IntKind.i64 ((255 : Int) - IntKind.wrap IntKind.i64 (IntKind.wrap IntKind.i64 (IntKind.wrap IntKind.i64 (s + IntKind.wrap IntKind.i64 ((16 : Int) * i637)) + IntKind.wrap IntKind.i64 (Int.tdiv i636 (2 : Int))) - (16 : Int)))))) s (m + 9) M 0 = k v := by
  obtain ⟨e, q, he0, he1, hq0, hq1, hf, hlp⟩ := expo (s := s) h0 h1
  refine ⟨IntKind.wrap .u8 (255 - (s + 16 * e + q - 16)), fun m R => ⟨fun k => ?_, fun k => ?_⟩⟩
  · rw [(hlp (m + 9) R _ (fun a b => none) m).1, hf, dT (by rw [w64 (by omega) (by omega)]; omega), w64 (x := 16 * e) (by omega) (by omega), w64 (x := s + 16 * e) (by omega) (by omega), w64 (x := q - 16) (by omega) (by omega), w64 (x := s + 16 * e + (q - 16)) (by omega) (by omega), w64 (by omega) (by omega)]
    congr 2
    omega
  · rw [(hlp (m + 9) R (fun a => none) (fun a b => k (IntKind.wrap IntKind.u8 (IntKind.wrap IntKind.i64 ((255 : Int) - IntKind.wrap IntKind.i64 (IntKind.wrap IntKind.i64 (IntKind.wrap IntKind.i64 (s + IntKind.wrap IntKind.i64 ((16 : Int) * b)) + a) - (16 : Int)))))) m).2, w64 (x := 16 * e) (by omega) (by omega), w64 (x := s + 16 * e) (by omega) (by omega), w64 (x := s + 16 * e + q) (by omega) (by omega), w64 (x := s + 16 * e + q - 16) (by omega) (by omega), w64 (by omega) (by omega)]
theorem cmp (x : Int) (h : Smp x) : ∃ v : Int, ∀ (m : Nat) (R : Type), (∀ k : Int → Int → Option R, Fn23 (m + 11) x k = k v 0) ∧ ∀ k : Int → Option R, Fn26 (m + 11) x k = k v := by
  obtain ⟨g0, g1⟩ := h
  by_cases hx : x < 0
  · have e1 : IntKind.wrap .i64 (0 - x) = 0 - x := w64 (by omega) (by omega)
    have e2 : IntKind.wrap .i64 (0 - x - 1) = 0 - x - 1 := w64 (by omega) (by omega)
    obtain ⟨v, hv⟩ := expo2 (s := 128) (M := IntKind.wrap IntKind.i64 ((if (8158 : Int) < IntKind.wrap IntKind.i64 (Int.tdiv (0 - x - 1) (4 : Int)) then (8158 : Int) else IntKind.wrap IntKind.i64 (Int.tdiv (0 - x - 1) (4 : Int))) + (33 : Int))) (by omega) (by omega)
      (by rw [td_pos (by omega), w64 (x := (0 - x - 1) / 4) (by omega) (by omega)]; split <;> (rw [w64 (by omega) (by omega)]; omega)) (by rw [td_pos (by omega), w64 (x := (0 - x - 1) / 4) (by omega) (by omega)]; split <;> (rw [w64 (by omega) (by omega)]; omega))
    refine ⟨v, fun m R => ⟨fun k => ?_, fun k => ?_⟩⟩
    · simp only [Fn23]
      rw [fn68 (m + 8) x, show (decide (Smp x)) = true from decide_eq_true ⟨g0, g1⟩, Bool.not_true, bF rfl, dT hx, e1, e2]
      simp only [Jn23_6]
      exact (hv (m + 1) R).1 (fun y => k y 0)
    · simp only [Fn26]
      rw [dT hx, e1, e2]
      simp only [Jn26_3]
      exact (hv (m + 1) R).2 k
  · obtain ⟨v, hv⟩ := expo2 (s := 0) (M := IntKind.wrap IntKind.i64 ((if (8158 : Int) < IntKind.wrap IntKind.i64 (Int.tdiv x (4 : Int)) then (8158 : Int) else IntKind.wrap IntKind.i64 (Int.tdiv x (4 : Int))) + (33 : Int))) (by omega) (by omega)
      (by rw [td_pos (by omega), w64 (x := x / 4) (by omega) (by omega)]; split <;> (rw [w64 (by omega) (by omega)]; omega)) (by rw [td_pos (by omega), w64 (x := x / 4) (by omega) (by omega)]; split <;> (rw [w64 (by omega) (by omega)]; omega))
    refine ⟨v, fun m R => ⟨fun k => ?_, fun k => ?_⟩⟩
    · simp only [Fn23]
      rw [fn68 (m + 8) x, show (decide (Smp x)) = true from decide_eq_true ⟨g0, g1⟩, Bool.not_true, bF rfl, dF hx]
      simp only [Jn23_6]
      exact (hv (m + 1) R).1 (fun y => k y 0)
    · simp only [Fn26]
      rw [dF hx]
      simp only [Jn26_3]
      exact (hv (m + 1) R).2 k
end Go.Proofs.Ytjhfbmhblpjigaa.Med
end
section
set_option linter.unusedVariables false
set_option linter.unusedSimpArgs false
namespace Go.Proofs.Ytjhfbmhblpjigaa.Med
open Go Go.Abs Go.Proofs
set_option linter.unusedVariables false
set_option linter.unusedSimpArgs false
/-! lists that are made place by place -/
def mk (t : IntKind) (g : Nat → Int) (n : Nat) : Abs.Rows := (List.range n).map fun j => [F.lit (.int t (g j))]
theorem mk_len (t : IntKind) (g : Nat → Int) (n : Nat) : (mk t g n).length = n := by simp [mk]
theorem mk_succ (t : IntKind) (g : Nat → Int) (n : Nat) : mk t g (n + 1) = mk t g n ++ [[F.lit (.int t (g n))]] := by simp [mk, List.range_succ]
theorem mk_set (t : IntKind) (g : Nat → Int) (n d : Nat) (z : List F) : (mk t g n ++ List.replicate (d + 1) z).set n [F.lit (.int t (g n))] = mk t g (n + 1) ++ List.replicate d z := by
  rw [mk_succ, List.set_append_right _ _ (by simp [mk_len]), mk_len, Nat.sub_self, List.replicate_succ, List.set_cons_zero]
  simp
theorem mk_fI (t : IntKind) (g : Nat → Int) {n i : Nat} (h : i < n) : fI (mk t g n) i 0 = g i := by
  simp [fI, dropF, Abs.rowAt, List.getD_eq_getElem?_getD, mk, h, F.toInt]
/-! equal lists -/
theorem lp17 (m : Nat) (r : Abs.Rows) {R : Type} (kx0 : Bool → Int → Option R) (kx1 : Int → Option R) (hl : (r.length : Int) ≤ 1073741824) : ∀ (d n : Nat) (i : Int), 0 ≤ i → i + d = r.length → d < n → Lp17_5 m kx0 kx1 r r false r.length n i = kx1 r.length
  | d, 0, i, h0, h1, h2 => by omega
  | 0, n + 1, i, h0, h1, h2 => by
    simp only [Lp17_5, Lp17_5_step]
    rw [dF (by omega)]
    congr 1; omega
  | d + 1, n + 1, i, h0, h1, h2 => by
    simp only [Lp17_5, Lp17_5_step]
    rw [dT (by omega), dT (by omega), dT (by omega), nF rfl, w64 (by omega) (by omega)]
    exact lp17 m r kx0 kx1 hl d n (i + 1) (by omega) (by omega) (by omega)
theorem fn17 (m : Nat) (r : Abs.Rows) {R : Type} (k : Bool → Option R) (hl : (r.length : Int) ≤ 1073741824) (hm : r.length < m) : Fn17 (m + 1) r r k = k true := by
  simp only [Fn17]
  rw [nF rfl, lp17 m r _ _ hl r.length m 0 (by omega) (by omega) hm]
/-! faults of samples -/
def badFrom (r : Abs.Rows) : Nat → Nat → Bool
  | 0, _ => false
  | n + 1, i => if Smp (fI r i 0) then badFrom r n (i + 1) else true
def smpF (r : Abs.Rows) : Int := if (r.length : Int) > 20000 then 2 else if badFrom r r.length 0 then 1 else 0
theorem lp94 (m : Nat) (r : Abs.Rows) {R : Type} (kx0 : Int → Int → Option R) (kx1 : Int → Option R) (z : Int) (hl : (r.length : Int) ≤ 20000) : ∀ (d n i : Nat), i + d = r.length → d < n →
    (badFrom r d i = true ∧ ∃ j : Int, 0 ≤ j ∧ Lp94_2 (m + 3) kx0 kx1 r z r.length n i = kx0 j j) ∨ (badFrom r d i = false ∧ Lp94_2 (m + 3) kx0 kx1 r z r.length n i = kx1 r.length)
  | d, 0, i, h1, h2 => by omega
  | 0, n + 1, i, h1, h2 => by
    right
    refine ⟨rfl, ?_⟩
    simp only [Lp94_2, Lp94_2_step]
    rw [dF (by omega)]
    congr 1; omega
  | d + 1, n + 1, i, h1, h2 => by
    have e : Int.toNat (i : Int) = i := by omega
    have e2 : IntKind.wrap IntKind.i64 ((i : Int) + 1) = ((i + 1 : Nat) : Int) := by rw [w64 (by omega) (by omega)]; omega
    have st : Lp94_2 (m + 3) kx0 kx1 r z r.length (n + 1) i = bif !decide (Smp (fI r i 0)) then kx0 i i else Lp94_2 (m + 3) kx0 kx1 r z r.length n ((i + 1 : Nat) : Int) := by
      simp only [Lp94_2, Lp94_2_step]
      rw [dT (by omega), dT (by omega), e, e2]
      simp only [Fn70]
      rw [fn25]
    by_cases hs : Smp (fI r i 0)
    · rw [st, decide_eq_true hs]
      simp only [badFrom, hs, if_true, Bool.not_true, cond_false]
      exact lp94 m r kx0 kx1 z hl d n (i + 1) (by omega) (by omega)
    · left
      rw [st, decide_eq_false hs]
      simp only [badFrom, hs, if_false, Bool.not_false, cond_true]
      exact ⟨trivial, i, by omega, rfl⟩
theorem lp29 (m : Nat) (r : Abs.Rows) {R : Type} (kx0 : Int → Int → Option R) (kx1 : Int → Option R) (z : Int) (hl : (r.length : Int) ≤ 20000) : ∀ (d n i : Nat), i + d = r.length → d < n →
    (badFrom r d i = true ∧ ∃ j : Int, Lp29_5 (m + 2) kx0 kx1 r z r r.length n i = kx0 1 j) ∨ (badFrom r d i = false ∧ Lp29_5 (m + 2) kx0 kx1 r z r r.length n i = kx1 r.length)
  | d, 0, i, h1, h2 => by omega
  | 0, n + 1, i, h1, h2 => by
    right
    refine ⟨rfl, ?_⟩
    simp only [Lp29_5, Lp29_5_step]
    rw [dF (by omega)]
    congr 1; omega
  | d + 1, n + 1, i, h1, h2 => by
    have e : Int.toNat (i : Int) = i := by omega
    have e2 : IntKind.wrap IntKind.i64 ((i : Int) + 1) = ((i + 1 : Nat) : Int) := by rw [w64 (by omega) (by omega)]; omega
    have st : Lp29_5 (m + 2) kx0 kx1 r z r r.length (n + 1) i = bif !decide (Smp (fI r i 0)) then kx0 1 i else Lp29_5 (m + 2) kx0 kx1 r z r r.length n ((i + 1 : Nat) : Int) := by
      simp only [Lp29_5, Lp29_5_step]
      rw [dT (by omega), dT (by omega), e, e2, fn68]
    by_cases hs : Smp (fI r i 0)
    · rw [st, decide_eq_true hs]
      simp only [badFrom, hs, if_true, Bool.not_true, cond_false]
      exact lp29 m r kx0 kx1 z hl d n (i + 1) (by omega) (by omega)
    · left
      rw [st, decide_eq_false hs]
      simp only [badFrom, hs, if_false, Bool.not_false, cond_true]
      exact ⟨trivial, i, rfl⟩
theorem fn28 (m : Nat) (r : Abs.Rows) {R : Type} (k : Int → Option R) (hm : r.length < m) : Fn28 (m + 6) r k = k (smpF r) := by
  simp only [Fn28]
  by_cases h : (r.length : Int) > 20000
  · rw [dT h, smpF, if_pos h]
  · rw [dF h]
    simp only [Fn69, Fn94, smpF, if_neg h]
    rcases lp94 m r (fun i693 i694 => bif decide (i693 ≥ (0 : Int)) then k 1 else k 0) (fun i695 => bif decide ((-1 : Int) ≥ (0 : Int)) then k 1 else k 0) 0 (by omega) r.length (m + 3) 0 (by omega) (by omega) with ⟨h1, j, h2, h3⟩ | ⟨h1, h3⟩
    · rw [h1, if_pos rfl]
      refine h3.trans ?_
      rw [dT h2]
    · rw [h1]
      refine h3.trans ?_
      rw [dF (by omega)]
      rfl
theorem fn29 (m : Nat) (r : Abs.Rows) {R : Type} (k : Int → Option R) (hm : r.length < m) : Fn29 (m + 3) r k = k (smpF r) := by
  simp only [Fn29]
  by_cases h : (r.length : Int) > 20000
  · rw [dT h, smpF, if_pos h]
  · rw [dF h, smpF, if_neg h]
    rcases lp29 m r (fun i659 i660 => k i659) (fun i661 => k ((0 : Int))) 0 (by omega) r.length (m + 2) 0 (by omega) (by omega) with ⟨h1, j, h3⟩ | ⟨h1, h3⟩
    · rw [h1, if_pos rfl]
      exact h3
    · rw [h1]
      exact h3
theorem smp_all (r : Abs.Rows) : ∀ (d i : Nat), badFrom r d i = false → ∀ j, i ≤ j → j < i + d → Smp (fI r j 0)
  | 0, i, h, j, h1, h2 => by omega
  | d + 1, i, h, j, h1, h2 => by
    simp only [badFrom] at h
    by_cases hs : Smp (fI r i 0)
    · rw [if_pos hs] at h
      by_cases hj : j = i
      · subst hj; exact hs
      · exact smp_all r d (i + 1) h j (by omega) (by omega)
    · rw [if_neg hs] at h; cases h
theorem smpF_ok {r : Abs.Rows} (h : smpF r = 0) : (r.length : Int) ≤ 20000 ∧ ∀ j, j < r.length → Smp (fI r j 0) := by
  unfold smpF at h
  split at h
  · cases h
  · rename_i h1
    split at h
    · cases h
    · rename_i h2
      exact ⟨by omega, fun j hj => smp_all r r.length 0 (by simpa using h2) j (by omega) (by omega)⟩
end Go.Proofs.Ytjhfbmhblpjigaa.Med
end
section
set_option linter.unusedVariables false
set_option linter.unusedSimpArgs false
namespace Go.Proofs.Ytjhfbmhblpjigaa.Med
open Go Go.Abs Go.Proofs
set_option linter.unusedVariables false
set_option linter.unusedSimpArgs false
noncomputable def cv (x : Int) : Int := if h : Smp x then (cmp x h).choose else 0
theorem cv_ok (m : Nat) {x : Int} (h : Smp x) (R : Type) : (∀ k : Int → Int → Option R, Fn23 (m + 11) x k = k (cv x) 0) ∧ ∀ k : Int → Option R, Fn26 (m + 11) x k = k (cv x) := by
  unfold cv
  rw [dif_pos h]
  exact (cmp x h).choose_spec m R
theorem fn23n (m : Nat) {x : Int} (h : ¬ Smp x) {R : Type} (k : Int → Int → Option R) : Fn23 (m + 3) x k = k 0 1 := by
  simp only [Fn23]
  rw [fn68 m x, decide_eq_false h]
  rfl
theorem lp27 (m : Nat) (r : Abs.Rows) {R : Type} (kx0 : Abs.Rows → Int → Option R) (hl : (r.length : Int) ≤ 20000) (hs : ∀ j, j < r.length → Smp (fI r j 0)) : ∀ (d n i : Nat), i + d = r.length → d < n →
    Lp27_7 (m + 11) kx0 r r r.length n (mk .u8 (fun j => cv (fI r j 0)) i ++ List.replicate d [F.lit (Value.int IntKind.u8 (0 : Int))]) i = kx0 (mk .u8 (fun j => cv (fI r j 0)) r.length) r.length
  | d, 0, i, h1, h2 => by omega
  | 0, n + 1, i, h1, h2 => by
    simp only [Lp27_7, Lp27_7_step]
    rw [dF (by omega)]
    have : i = r.length := by omega
    subst this
    simp
  | d + 1, n + 1, i, h1, h2 => by
    have e : Int.toNat (i : Int) = i := by omega
    have e2 : IntKind.wrap IntKind.i64 ((i : Int) + 1) = ((i + 1 : Nat) : Int) := by rw [w64 (by omega) (by omega)]; omega
    simp only [Lp27_7, Lp27_7_step]
    rw [dT (by omega), dT (by omega), e, e2, (cv_ok m (hs i (by omega)) R).1, dT (by simp [mk_len]; omega), stR1, mk_set .u8 (fun j => cv (fI r j 0))]
    exact lp27 m r kx0 hl hs d n (i + 1) (by omega) (by omega)
theorem fn27 (m : Nat) (r : Abs.Rows) {R : Type} (k : Abs.Rows → Int → Option R) (hm : r.length < m) :
    Fn27 (m + 12) r k = if smpF r = 0 then k (mk .u8 (fun j => cv (fI r j 0)) r.length) 0 else k rows0 (smpF r) := by
  simp only [Fn27]
  rw [fn29 (m + 8) r _ (by omega)]
  split
  · rename_i h
    obtain ⟨h1, h2⟩ := smpF_ok h
    rw [nF h, dT (by simp [rM]; omega)]
    have := lp27 m r (fun r673 i674 => k r673 0) h1 h2 r.length (m + 11) 0 (by omega) (by omega)
    simp only [mk, List.range_zero, List.map_nil, List.nil_append] at this
    exact this
  · rename_i h
    rw [nT h]
theorem lp4_20 (m : Nat) (r : Abs.Rows) {R : Type} (kx0 : Abs.Rows → Int → Option R) (a : Abs.Rows) (b c : Int) (a' : Abs.Rows) (hl : (r.length : Int) ≤ 20000) (hs : ∀ j, j < r.length → Smp (fI r j 0)) : ∀ (d n i : Nat), i + d = r.length → d < n →
    Lp4_20 (m + 11) kx0 r a b a' c c r.length r.length n (mk .u8 (fun j => cv (fI r j 0)) i) i = kx0 (mk .u8 (fun j => cv (fI r j 0)) r.length) r.length
  | d, 0, i, h1, h2 => by omega
  | 0, n + 1, i, h1, h2 => by
    simp only [Lp4_20, Lp4_20_step]
    rw [dF (by omega)]
    have : i = r.length := by omega
    subst this
    rfl
  | d + 1, n + 1, i, h1, h2 => by
    have e : Int.toNat (i : Int) = i := by omega
    have e2 : IntKind.wrap IntKind.i64 ((i : Int) + 1) = ((i + 1 : Nat) : Int) := by rw [w64 (by omega) (by omega)]; omega
    simp only [Lp4_20, Lp4_20_step]
    rw [dT (by omega), dT (by omega), e, e2, (cv_ok m (hs i (by omega)) R).2, dT (by simp [mk_len, rM]; omega)]
    simp only [letV]
    rw [← mk_succ .u8 (fun j => cv (fI r j 0))]
    exact lp4_20 m r kx0 a b c a' hl hs d n (i + 1) (by omega) (by omega)
/-! bytes -/
def Byt (x : Int) : Prop := 0 ≤ x ∧ x < 256
theorem expand (x : Int) (h : Byt x) : ∃ v : Int, ∀ (m : Nat) (R : Type) (k : Int → Option R), Fn32 (m + 1) x k = k v ∧ Fn31 (m + 1) x k = k v := by
  obtain ⟨h0, h1⟩ := h
  have e0 : IntKind.wrap .i64 x = x := w64 (by omega) (by omega)
  have e1 : IntKind.wrap .i64 (255 - x) = 255 - x := w64 (by omega) (by omega)
  have e2 : IntKind.wrap .i64 (Int.tdiv (255 - x) 16) = (255 - x) / 16 := by rw [td_pos (by omega), w64 (by omega) (by omega)]
  have e3 : IntKind.wrap .i64 (Int.tdiv (255 - x) 128) = (255 - x) / 128 := by rw [td_pos (by omega), w64 (by omega) (by omega)]
  have e4 : Int.tmod ((255 - x) / 16) 8 = (255 - x) / 16 % 8 := tm_pos (by omega)
  by_cases hb : x < 128
  · apply Exists.intro
    refine fun m R k => ⟨?_, ?_⟩
    · simp only [Fn32, e0, e1, e2, e3, e4, letV]
      rw [dT (by omega), eT (by omega)]
    · simp only [Fn31, e0, e1, e2, e3, e4, letV]
      rw [dT (by omega), dT (by omega)]
  · apply Exists.intro
    refine fun m R k => ⟨?_, ?_⟩
    · simp only [Fn32, e0, e1, e2, e3, e4, letV]
      rw [dT (by omega), eF (by omega)]
    · simp only [Fn31, e0, e1, e2, e3, e4, letV]
      rw [dT (by omega), dF (by omega)]
open Classical in
noncomputable def ev (x : Int) : Int := if h : Byt x then (expand x h).choose else 0
theorem ev_ok (m : Nat) {x : Int} (h : Byt x) (R : Type) (k : Int → Option R) : Fn32 (m + 1) x k = k (ev x) ∧ Fn31 (m + 1) x k = k (ev x) := by
  unfold ev
  rw [dif_pos h]
  exact (expand x h).choose_spec m R k
theorem fn19 (m : Nat) {R : Type} (k : Bool → Option R) : Fn19 (m + 2) k = k true := by rfl
theorem lp30 (m : Nat) (r : Abs.Rows) {R : Type} (kx0 : Abs.Rows → Int → Option R) (hl : (r.length : Int) ≤ 20000) (hs : ∀ j, j < r.length → Byt (fI r j 0)) : ∀ (d n i : Nat), i + d = r.length → d < n →
    Lp30_6 (m + 1) kx0 r r r.length n (mk .i64 (fun j => ev (fI r j 0)) i ++ List.replicate d [F.lit (Value.int IntKind.i64 (0 : Int))]) i = kx0 (mk .i64 (fun j => ev (fI r j 0)) r.length) r.length
  | d, 0, i, h1, h2 => by omega
  | 0, n + 1, i, h1, h2 => by
    simp only [Lp30_6, Lp30_6_step]
    rw [dF (by omega)]
    have : i = r.length := by omega
    subst this
    simp
  | d + 1, n + 1, i, h1, h2 => by
    have e : Int.toNat (i : Int) = i := by omega
    have e2 : IntKind.wrap IntKind.i64 ((i : Int) + 1) = ((i + 1 : Nat) : Int) := by rw [w64 (by omega) (by omega)]; omega
    simp only [Lp30_6, Lp30_6_step]
    rw [dT (by omega), dT (by omega), e, e2, (ev_ok m (hs i (by omega)) R _).1, dT (by simp [mk_len]; omega), stR1, mk_set .i64 (fun j => ev (fI r j 0))]
    exact lp30 m r kx0 hl hs d n (i + 1) (by omega) (by omega)
theorem fn30 (m : Nat) (r : Abs.Rows) {R : Type} (k : Abs.Rows → Int → Option R) (hl : (r.length : Int) ≤ 20000) (hs : ∀ j, j < r.length → Byt (fI r j 0)) (hm : r.length < m) : Fn30 (m + 2) r k = k (mk .i64 (fun j => ev (fI r j 0)) r.length) 0 := by
  simp only [Fn30]
  rw [dF (by omega), dT (by simp [rM]; omega)]
  have := lp30 m r (fun r673 i674 => k r673 0) hl hs r.length (m + 1) 0 (by omega) (by omega)
  simp only [mk, List.range_zero, List.map_nil, List.nil_append] at this
  exact this
theorem lp4_31 (m : Nat) (r : Abs.Rows) {R : Type} (kx0 : Bool → Int → Option R) (kx1 : Int → Option R) (hl : (r.length : Int) ≤ 20000) (hs : ∀ j, j < r.length → Byt (fI r j 0)) : ∀ (d n i : Nat), i + d = r.length → d < n →
    Lp4_31 (m + 1) kx0 kx1 r (mk .i64 (fun j => ev (fI r j 0)) r.length) 0 0 r.length r.length n i = kx1 r.length
  | d, 0, i, h1, h2 => by omega
  | 0, n + 1, i, h1, h2 => by
    simp only [Lp4_31, Lp4_31_step]
    rw [dF (by omega)]
    congr 1; omega
  | d + 1, n + 1, i, h1, h2 => by
    have e : Int.toNat (i : Int) = i := by omega
    have e2 : IntKind.wrap IntKind.i64 ((i : Int) + 1) = ((i + 1 : Nat) : Int) := by rw [w64 (by omega) (by omega)]; omega
    simp only [Lp4_31, Lp4_31_step, mk_len]
    rw [dT (by omega), dT (by omega), nF rfl, nF rfl, dT (by omega), e, e2, (ev_ok m (hs i (by omega)) R _).2, mk_fI _ _ (by omega), nF rfl, (ev_ok m (hs i (by omega)) R _).1, dT (by omega), nF rfl]
    exact lp4_31 m r kx0 kx1 hl hs d n (i + 1) (by omega) (by omega)
theorem lp4_5 (m : Nat) (q : Abs.Rows) (a : Int) (b : Abs.Rows) {hi : Int} (hh : hi ≤ 100000) : ∀ (d n : Nat) (r : Abs.Rows) (i j : Int), 0 ≤ i → i + d ≤ 100000000 → j + d = hi → 0 ≤ j → d < n → r.length + d ≤ 20000 → (∀ j, j < r.length → Byt (fI r j 0)) →
    ∃ (r' : Abs.Rows) (i' : Int), r'.length = r.length + d ∧ (∀ j, j < r'.length → Byt (fI r' j 0)) ∧ ∀ (R : Type) (k : Int → Abs.Rows → Int → Option R), Lp4_5 (m + 3) k q a b hi n i r j = k i' r' hi
  | d, 0, r, i, j, h0, h1, h2, h3, h4, h5, h6 => by omega
  | 0, n + 1, r, i, j, h0, h1, h2, h3, h4, h5, h6 => by
    refine ⟨r, i, rfl, h6, fun R k => ?_⟩
    simp only [Lp4_5, Lp4_5_step]
    rw [dF (by omega)]
    congr 1; omega
  | d + 1, n + 1, r, i, j, h0, h1, h2, h3, h4, h5, h6 => by
    have a1 := Int.emod_nonneg (nx q i) (show (255 : Int) - 0 + 1 ≠ 0 by omega)
    have a2 := Int.emod_lt_of_pos (nx q i) (show (0 : Int) < 255 - 0 + 1 by omega)
    obtain ⟨r', i', g1, g2, g3⟩ := lp4_5 m q a b hh d n (r ++ [[F.lit (.int .u8 (IntKind.wrap .u8 (0 + nx q i % (255 - 0 + 1))))]]) (i + 1) (j + 1) (by omega) (by omega) (by omega) (by omega) (by omega) (by simp; omega) (by
      intro t ht
      simp only [List.length_append, List.length_singleton] at ht
      by_cases hc : t < r.length
      · rw [fI_app_lt hc]; exact h6 t hc
      · have : t = r.length := by omega
        subst this
        rw [fI_app]
        exact w8b _)
    refine ⟨r', i', by simp at g1; omega, g2, fun R k => ?_⟩
    simp only [Lp4_5, Lp4_5_step]
    rw [dT (by omega), fn21 m q h0 (by omega) (by omega) (by omega) (by omega), dT (by simp [rM]; omega), w64 (x := j + 1) (by omega) (by omega)]
    exact g3 R k
end Go.Proofs.Ytjhfbmhblpjigaa.Med
end
section
set_option linter.unusedVariables false
set_option linter.unusedSimpArgs false
namespace Go.Proofs.Ytjhfbmhblpjigaa.Med
open Go Go.Abs Go.Proofs
set_option linter.unusedVariables false
set_option linter.unusedSimpArgs false
theorem jn4_28 (m : Nat) (w : Abs.Rows) {R : Type} (kx0 : Bool → Option R) (hl : (w.length : Int) ≤ 20000) (hs : ∀ j, j < w.length → Byt (fI w j 0)) (hm : w.length < m) : Jn4_28 (m + 2) kx0 w = kx0 true := by
  simp only [Jn4_28]
  rw [fn30 m w _ hl hs hm]
  refine (lp4_31 (m + 1) w _ _ hl hs w.length (m + 2) 0 (by omega) (by omega)).trans ?_
  exact fn19 m _
theorem jn4_25 (m : Nat) (x w y : Abs.Rows) (z : Int) {R : Type} (kx0 kx1 : Bool → Option R) (hy : (y.length : Int) ≤ 20000) (hl : (w.length : Int) ≤ 20000) (hs : ∀ j, j < w.length → Byt (fI w j 0)) (h1 : x.length < m) (h2 : w.length < m) (h3 : y.length < m) :
    Jn4_25 (m + 3) kx0 kx1 x w (smpF x) y (smpF x) y z = kx1 true := by
  simp only [Jn4_25]
  rw [fn29 m x _ h1, nF rfl, nF rfl, fn17 (m + 2) y _ (by omega) (by omega), Bool.not_true, bF rfl, jn4_28 (m + 1) w _ hl hs (by omega)]
theorem jn4_14 (m : Nat) (x w : Abs.Rows) {R : Type} (k : Bool → Option R) (hl : (w.length : Int) ≤ 20000) (hs : ∀ j, j < w.length → Byt (fI w j 0)) (h1 : x.length < m) (h2 : w.length < m) : Jn4_14 (m + 12) k k x w = k true := by
  simp only [Jn4_14]
  rw [fn27 m x _ h1]
  by_cases h : smpF x = 0
  · obtain ⟨g1, g2⟩ := smpF_ok h
    rw [if_pos h, fn28 (m + 6) x _ (by omega), h, eT rfl]
    have := lp4_20 (m + 1) x (fun r245 i246 => Jn4_25 (m + 12) k k x w 0 (mk .u8 (fun j => cv (fI x j 0)) x.length) 0 r245 0) w 0 0 (mk .u8 (fun j => cv (fI x j 0)) x.length) g1 g2 x.length (m + 12) 0 (by omega) (by omega)
    refine this.trans ?_
    have h5 := jn4_25 (m + 9) x w (mk .u8 (fun j => cv (fI x j 0)) x.length) 0 k k (by rw [mk_len]; omega) hl hs (by omega) (by omega) (by rw [mk_len]; omega)
    rw [h] at h5
    exact h5
  · rw [if_neg h, fn28 (m + 6) x _ (by omega), eF h]
    exact jn4_25 (m + 9) x w rows0 (smpF x) k k (by simp) hl hs (by omega) (by omega) (by simp)
theorem fn4 (m : Nat) (r : Abs.Rows) {R : Type} (k : Bool → Option R) : Fn4 (m + 100) r k = k true := by
  have a1 := Int.emod_nonneg (nx r 0) (show (32767 : Int) - -32768 + 1 ≠ 0 by omega)
  simp only [Fn4]
  rw [fn21 (m + 96) r (by omega) (by omega) (by omega) (by omega) (by omega), fn20 (m + 96) r _ (by omega) (by omega) (by simp) (by simp)]
  generalize fI _ _ _ = n
  obtain ⟨x, i, g1, g2, g3, g4⟩ := fn22 (m + 94) r (i := 0 + 1 + 1) (most := 12) (by omega) (by omega) (by omega) (by omega) (by omega)
  rw [g4]
  have b1 := Int.emod_nonneg (nx r i) (show (6 : Int) - 0 + 1 ≠ 0 by omega)
  have b2 := Int.emod_lt_of_pos (nx r i) (show (0 : Int) < 6 - 0 + 1 by omega)
  rw [fn21 (m + 96) r (by omega) (by omega) (by omega) (by omega) (by omega)]
  obtain ⟨d, hd⟩ := Int.eq_ofNat_of_zero_le b1
  obtain ⟨w, i', g5, g6, g7⟩ := lp4_5 (m + 96) r n x (hi := 0 + nx r i % (6 - 0 + 1)) (by omega) d (m + 99) rows0 (i + 1) 0 (by omega) (by omega) (by omega) (by omega) (by omega) (by simp; omega) (by simp)
  rw [g7]
  simp only [List.length_nil, Nat.zero_add] at g5
  have fin : Jn4_14 (m + 99) k k x w = k true := jn4_14 (m + 87) x w k (by omega) g6 (by omega) (by omega)
  by_cases hs : Smp n
  · rw [(cv_ok (m + 88) hs R).1, fn25, decide_eq_true hs]
    simp only [Fn24, Bool.not_true, cond_false]
    rw [nF rfl, eT rfl, (cv_ok (m + 88) hs R).2, nF rfl, nF rfl]
    exact fin
  · rw [fn23n (m + 96) hs, fn25, decide_eq_false hs]
    simp only [Fn24, Bool.not_false, cond_true]
    rw [nF rfl, eF (by omega), nT (by omega), nF rfl]
    exact fin
end Go.Proofs.Ytjhfbmhblpjigaa.Med
end
section
set_option linter.unusedVariables false
set_option linter.unusedSimpArgs false
namespace Go.Proofs.Ytjhfbmhblpjigaa.Med
open Go Go.Abs Go.Proofs Go.RowKit
theorem fn4_ok (rows : Abs.Rows) (m : Nat) (h : ∀ (R : Type) (k : Bool → Option R), Fn4 m rows k = k true) : FnOk Try.prog 4 [.f (.lst [.int .i64] rows)] (vBool true) [.undef] := by
  refine law_of (okT26 m) fun R k => ?_
  exact h R _
theorem walk4 (w : World) (a : Option Addr) (len cap : Nat) (zs : List Int) (h : IsInts .i64 w a len cap zs) : Calls Try.prog 4 #[.slice a len cap] w fun e w' => e = .returned (.bool true) ∧ Below w.heap.size w w' := by
  obtain ⟨body, hb⟩ : ∃ b, Try.f4.body = some b := ⟨_, rfl⟩
  exact law_calls Try.func4 (by kernel_rfl) hb h (fn4_ok _ _ fun R k => fn4 0 _ k)
end Go.Proofs.Ytjhfbmhblpjigaa.Med
end
