/- A part of the proofs of the seat Ytjhfbmhblpjigaa: no statement of the seat stands here. -/
import Derived.Test.YtjhfbmhblpjigaaRows
import Derived.Test.YtjhfbmhblpjigaaMedTyped
section
set_option linter.unusedVariables false
set_option linter.unusedSimpArgs false
namespace Go.Proofs.Ytjhfbmhblpjigaa.Med
open Go Go.Abs Go.Proofs
theorem w64 {x : Int} (h0 : -9223372036854775808 ≤ x) (h1 : x < 9223372036854775808) : IntKind.wrap .i64 x = x := by
  rw [IntKind.wrap_i64]; omega
theorem bT {R : Type} {c : Bool} {a b : Option R} (h : c = true) : (bif c then a else b) = a := by subst h; rfl
theorem bF {R : Type} {c : Bool} {a b : Option R} (h : c = false) : (bif c then a else b) = b := by subst h; rfl
theorem tmB (x : Int) {y : Int} (hy : 0 < y) : -y < Int.tmod x y ∧ Int.tmod x y < y := by
  refine ⟨?_, Int.tmod_lt_of_pos _ hy⟩
  by_cases h : 0 ≤ x
  · have := Int.tmod_nonneg y h; omega
  · have h1 := Int.tmod_lt_of_pos (-x) hy
    rw [Int.neg_tmod] at h1
    omega
theorem fn93 (m : Nat) {x y : Int} (hy : 1 ≤ y) (hy2 : y ≤ 1099511627776) : ∃ v, 0 ≤ v ∧ v < y ∧ ∀ (R : Type) (k : Int → Option R), Fn93 (m + 1) x y k = k v := by
  by_cases h : Int.tmod x y < 0
  · refine ⟨Int.tmod x y + y, ?_, by omega, fun R k => ?_⟩
    · have h2 := tmB x (show 0 < y by omega)
      omega
    · have h2 := tmB x (show 0 < y by omega)
      unfold Fn93
      simp only
      rw [bF (by simp; omega), bT (by simp; omega), bT (by simpa using h), w64 (by omega) (by omega)]
  · refine ⟨Int.tmod x y, by omega, ?_, fun R k => ?_⟩
    · have h2 := tmB x (show 0 < y by omega)
      omega
    · unfold Fn93
      simp only
      rw [bF (by simp; omega), bT (by simp; omega), bF (by simpa using h)]
theorem fn59 (m : Nat) (r : Abs.Rows) {i n : Int} (h0 : 0 ≤ i) (h1 : i ≤ 1099511627776) (hn : 1 ≤ n) (hn2 : n ≤ 1099511627776) : ∃ v, 0 ≤ v ∧ v < n ∧ ∀ (R : Type) (k : Int → Int → Option R), Fn59 (m + 2) r i n k = k v (i + 1) := by
  have e1 : IntKind.wrap .i64 (i + 1) = i + 1 := w64 (by omega) (by omega)
  have e2 : IntKind.wrap .i64 (i + 1 - 1) = i := by rw [show i + 1 - 1 = i by omega]; exact w64 (by omega) (by omega)
  by_cases hr : (r.length : Int) = 0
  · obtain ⟨v, h2, h3, h4⟩ := fn93 m (x := IntKind.wrap IntKind.i64 ((i + 1) * 7919)) hn hn2
    refine ⟨v, h2, h3, fun R k => ?_⟩
    unfold Fn59
    simp only [e1]
    rw [bT (by simpa using hr), h4]
  · have hl : 0 < (r.length : Int) := by omega
    obtain ⟨a, h2, h3, h4⟩ := fn93 m (x := F.toInt (List.headD (Abs.rowAt r (Int.toNat (Int.tmod i (r.length : Int)))) default)) (y := 1073741824) (by omega) (by omega)
    obtain ⟨v, h5, h6, h7⟩ := fn93 m (x := IntKind.wrap IntKind.i64 (a + IntKind.wrap IntKind.i64 (IntKind.wrap IntKind.i64 (Int.tdiv i (r.length : Int)) * IntKind.wrap IntKind.i64 (7919 + Int.tmod i (r.length : Int))))) hn hn2
    refine ⟨v, h5, h6, fun R k => ?_⟩
    have hm1 : 0 ≤ Int.tmod i (r.length : Int) := Int.tmod_nonneg _ h0
    have hm2 : Int.tmod i (r.length : Int) < (r.length : Int) := Int.tmod_lt_of_pos _ hl
    unfold Fn59
    simp only [e1, e2]
    rw [bF (by simpa using hr), bT (by simp; simpa using hr), bT (by simp; simpa using hr), bT (by simp; exact ⟨hm1, hm2⟩), h4, h7]
end Go.Proofs.Ytjhfbmhblpjigaa.Med
end
section
set_option linter.unusedVariables false
set_option linter.unusedSimpArgs false
namespace Go.Proofs.Ytjhfbmhblpjigaa.Med
open Go Go.Abs Go.Proofs
theorem fn20 (m : Nat) (r : Abs.Rows) {i : Int} (rows : Abs.Rows) (h0 : 0 ≤ i) (h1 : i ≤ 1099511627776) (hn : 1 ≤ rows.length) (hn2 : rows.length ≤ 1099511627776) :
    ∃ w, (∃ v, v < rows.length ∧ w = F.toInt (List.headD (Abs.rowAt rows v) default)) ∧ ∀ (R : Type) (k : Int → Int → Option R), Fn20 (m + 3) r i rows k = k w (i + 1) := by
  obtain ⟨v, h2, h3, h4⟩ := fn59 m r (n := (rows.length : Int)) h0 h1 (by omega) (by omega)
  refine ⟨_, ⟨v.toNat, by omega, rfl⟩, fun R k => ?_⟩
  unfold Fn20
  simp only
  rw [h4, bT (by simp; omega)]
theorem fn39 (m : Nat) (r : Abs.Rows) {i n : Int} (h0 : 0 ≤ i) (h1 : i ≤ 1099511627776) (hn : 1 ≤ n) (hn2 : n ≤ 1099511627776) :
    ∃ b, ∀ (R : Type) (k : Bool → Int → Option R), Fn39 (m + 3) r i n k = k b (i + 1) := by
  obtain ⟨v, h2, h3, h4⟩ := fn59 m r (n := n) h0 h1 hn hn2
  exact ⟨v == 0, fun R k => by unfold Fn39; simp only; rw [h4]⟩
theorem fn21 (m : Nat) (r : Abs.Rows) {i lo hi : Int} (h0 : 0 ≤ i) (h1 : i ≤ 1099511627776) (hl : lo ≤ hi) (hlo : -549755813888 ≤ lo) (hhi : hi ≤ 549755813887) :
    ∃ v, lo ≤ v ∧ v ≤ hi ∧ ∀ (R : Type) (k : Int → Int → Option R), Fn21 (m + 3) r i lo hi k = k v (i + 1) := by
  have e1 : IntKind.wrap .i64 (hi - lo) = hi - lo := w64 (by omega) (by omega)
  have e2 : IntKind.wrap .i64 (hi - lo + 1) = hi - lo + 1 := w64 (by omega) (by omega)
  obtain ⟨v, h2, h3, h4⟩ := fn59 m r (n := hi - lo + 1) h0 h1 (by omega) (by omega)
  refine ⟨lo + v, by omega, by omega, fun R k => ?_⟩
  unfold Fn21
  simp only
  rw [bF (by simp; omega), e1, e2, h4, w64 (by omega) (by omega)]
theorem fn60 (m : Nat) (r : Abs.Rows) {i lo hi : Int} (h0 : 0 ≤ i) (h1 : i ≤ 1000000) (hl : lo ≤ hi) (hlo : -549755813888 ≤ lo) (hhi : hi ≤ 549755813887) :
    ∃ v i', i ≤ i' ∧ i' ≤ i + 2 ∧ ∀ (R : Type) (k : Int → Int → Option R), Fn60 (m + 4) r i lo hi k = k v i' := by
  obtain ⟨b, hb⟩ := fn39 m r (i := i) (n := 12) h0 (by omega) (by omega) (by omega)
  cases b with
  | true =>
    obtain ⟨w, _, h3⟩ := fn20 m r (i := i + 1) [[F.lit (Value.int IntKind.i64 (IntKind.wrap IntKind.i64 (lo - (1 : Int))))], [F.lit (Value.int IntKind.i64 (IntKind.wrap IntKind.i64 (hi + (1 : Int))))], [F.lit (Value.int IntKind.i64 lo)], [F.lit (Value.int IntKind.i64 hi)], [F.lit (Value.int IntKind.i64 (-1099511627776 : Int))], [F.lit (Value.int IntKind.i64 (1099511627776 : Int))]] (by omega) (by omega) (by simp) (by simp)
    refine ⟨w, i + 1 + 1, by omega, by omega, fun R k => ?_⟩
    unfold Fn60
    simp only
    rw [hb, bT rfl, h3]
  | false =>
    obtain ⟨v, _, _, h3⟩ := fn21 m r (i := i + 1) (lo := lo) (hi := hi) (by omega) (by omega) hl hlo hhi
    refine ⟨v, i + 1 + 1, by omega, by omega, fun R k => ?_⟩
    unfold Fn60
    simp only
    rw [hb, bF rfl, h3]
/-- rows of bytes -/
def Bytes (r : Abs.Rows) : Prop := ∀ row ∈ r, ∃ n : Int, 0 ≤ n ∧ n < 256 ∧ row = [F.lit (.int .u8 n)]
theorem bytes_nil : Bytes [] := by intro row h; cases h
theorem bytes_one {n : Int} : Bytes [[F.lit (Value.int IntKind.u8 (IntKind.wrap IntKind.u8 n))]] := by
  intro row h
  simp at h
  subst h
  exact ⟨_, by rw [IntKind.wrap_u8]; omega, by rw [IntKind.wrap_u8]; omega, rfl⟩
theorem bytes_app {a b : Abs.Rows} (h : Bytes a) (k : Bytes b) : Bytes (a ++ b) := by
  intro row hr
  rcases List.mem_append.1 hr with h1 | h1
  · exact h row h1
  · exact k row h1
theorem lp58 (m : Nat) (r65 : Abs.Rows) (a b c d : Int) (e : Bool) (f : Abs.Rows) (a' b' c' d' : Int) (e' : Bool) {hi : Int} (hh : hi ≤ 1000) : ∀ (n : Nat) (r : Abs.Rows) (j i : Int), 0 ≤ j → 0 ≤ i → i + (hi - j).toNat ≤ 100000 → j ≤ hi + 1 → (hi - j).toNat < n → r.length + (hi - j).toNat ≤ 100000 → Bytes r →
    ∃ r' j' i', i ≤ i' ∧ i' ≤ i + (hi - j).toNat ∧ r'.length ≤ r.length + (hi - j).toNat ∧ Bytes r' ∧ ∀ (R : Type) (kx : Abs.Rows → Int → Int → Option R), Lp58_0 (m + 3) kx a b c d e f a' b' c' d' e' hi r65 n r j i = kx r' j' i'
  | 0, r, j, i, h0, h1, h2, h3, h4, h5, h6 => by omega
  | n + 1, r, j, i, h0, h1, h2, h3, h4, h5, h6 => by
    by_cases hlt : j < hi
    · obtain ⟨v, h7, h8, h9⟩ := fn21 m r65 (i := i) (lo := 0) (hi := 255) h1 (by omega) (by omega) (by omega) (by omega)
      obtain ⟨r', j', i', g1, g2, g3, g4, g5⟩ := lp58 m r65 a b c d e f a' b' c' d' e' hh n (r ++ [[F.lit (Value.int IntKind.u8 (IntKind.wrap IntKind.u8 v))]]) (j + 1) (i + 1) (by omega) (by omega) (by omega) (by omega) (by omega) (by simp; omega) (bytes_app h6 bytes_one)
      refine ⟨r', j', i', by omega, by omega, by simp at g3; omega, g4, fun R kx => ?_⟩
      simp only [Lp58_0, Lp58_0_step]
      rw [bT (by simpa using hlt), h9, bT (by simp [rowMax]; omega), w64 (by omega) (by omega), g5]
    · refine ⟨r, j, i, by omega, by omega, by omega, h6, fun R kx => ?_⟩
      simp only [Lp58_0, Lp58_0_step]
      rw [bF (by simpa using hlt)]
theorem fn58 (m : Nat) (r : Abs.Rows) {i : Int} (h0 : 0 ≤ i) (h1 : i ≤ 1000) : ∃ a b c d e p i', i ≤ i' ∧ i' ≤ i + 11 ∧ p.length ≤ 5 ∧ Bytes p ∧ ∀ (R : Type) (k : Int → Int → Int → Int → Bool → Abs.Rows → Int → Option R), Fn58 (m + 10) r i k = k a b c d e p i' := by
  obtain ⟨a, _, ha⟩ := fn20 (m + 6) r (i := i) [[F.lit (Value.int IntKind.i64 (0 : Int))], [F.lit (Value.int IntKind.i64 (8 : Int))], [F.lit (Value.int IntKind.i64 (127 : Int))]] h0 (by omega) (by simp) (by simp)
  obtain ⟨b, _, hb⟩ := fn20 (m + 6) r (i := i + 1) [[F.lit (Value.int IntKind.i64 (0 : Int))], [F.lit (Value.int IntKind.i64 (1 : Int))], [F.lit (Value.int IntKind.i64 (255 : Int))], [F.lit (Value.int IntKind.i64 (256 : Int))], [F.lit (Value.int IntKind.i64 (65535 : Int))]] (by omega) (by omega) (by simp) (by simp)
  obtain ⟨c, _, hc⟩ := fn20 (m + 6) r (i := i + 1 + 1) [[F.lit (Value.int IntKind.i64 (0 : Int))], [F.lit (Value.int IntKind.i64 (160 : Int))], [F.lit (Value.int IntKind.i64 (4294967295 : Int))], [F.lit (Value.int IntKind.i64 (2147483648 : Int))]] (by omega) (by omega) (by simp) (by simp)
  obtain ⟨d, _, hd⟩ := fn20 (m + 6) r (i := i + 1 + 1 + 1) [[F.lit (Value.int IntKind.i64 (0 : Int))], [F.lit (Value.int IntKind.i64 (7 : Int))], [F.lit (Value.int IntKind.i64 (4294967295 : Int))]] (by omega) (by omega) (by simp) (by simp)
  obtain ⟨e, he⟩ := fn39 (m + 6) r (i := i + 1 + 1 + 1 + 1) (n := 2) (by omega) (by omega) (by omega) (by omega)
  obtain ⟨hi, h2, h3, hhi⟩ := fn21 (m + 6) r (i := i + 1 + 1 + 1 + 1 + 1) (lo := 0) (hi := 5) (by omega) (by omega) (by omega) (by omega) (by omega)
  obtain ⟨p, j', i', g1, g2, g3, g4, g5⟩ := lp58 (m + 6) r 0 0 0 0 false rows0 a b c d e (hi := hi) (by omega) (m + 9) rows0 0 (i + 1 + 1 + 1 + 1 + 1 + 1) (by omega) (by omega) (by omega) (by omega) (by omega) (by simp [rows0]; omega) bytes_nil
  refine ⟨a, b, c, d, e, p, i', by omega, by omega, by simp [rows0] at g3; omega, g4, fun R k => ?_⟩
  unfold Fn58
  simp only
  rw [ha, hb, hc, hd, he, hhi, g5]
end Go.Proofs.Ytjhfbmhblpjigaa.Med
end
section
set_option linter.unusedVariables false
set_option linter.unusedSimpArgs false
namespace Go.Proofs.Ytjhfbmhblpjigaa.Med
open Go Go.Abs Go.Proofs
theorem bytes_rep (n : Nat) : Bytes (List.replicate n [F.lit (Value.int IntKind.u8 (0 : Int))]) := by
  intro row h
  exact ⟨0, by omega, by omega, List.eq_of_mem_replicate h⟩
theorem fn9 (m : Nat) (r : Abs.Rows) {i : Int} (h0 : 0 ≤ i) (h1 : i ≤ 1000) : ∃ a b c d e p i', i ≤ i' ∧ i' ≤ i + 20 ∧ p.length ≤ 2000 ∧ Bytes p ∧ ∀ (R : Type) (k : Int → Int → Int → Int → Bool → Abs.Rows → Int → Option R), Fn9 (m + 11) r i k = k a b c d e p i' := by
  obtain ⟨a, b, c, d, e, p, i1, g1, g2, g3, g4, g5⟩ := fn58 m r h0 h1
  obtain ⟨f, hf⟩ := fn39 (m + 7) r (i := i1) (n := 12) (by omega) (by omega) (by omega) (by omega)
  cases f with
  | false =>
    refine ⟨a, b, c, d, e, p, i1 + 1, by omega, by omega, by omega, g4, fun R k => ?_⟩
    unfold Fn9
    simp only
    rw [g5, hf, bF rfl]
  | true =>
    obtain ⟨v, _, _, hv⟩ := fn59 (m + 8) r (i := i1 + 1) (n := 5) (by omega) (by omega) (by omega) (by omega)
    have i2 : 0 ≤ i1 + 1 + 1 ∧ i1 + 1 + 1 ≤ 1000000 := by omega
    by_cases c0 : v = 0
    · obtain ⟨w, j, q1, q2, q3⟩ := fn60 (m + 6) r (i := i1 + 1 + 1) (lo := 0) (hi := 127) i2.1 i2.2 (by omega) (by omega) (by omega)
      refine ⟨w, b, c, d, e, p, j, by omega, by omega, by omega, g4, fun R k => ?_⟩
      unfold Fn9
      simp only
      rw [g5, hf, bT rfl, hv, bT (by simp [c0]), q3]
    by_cases c1 : v = 1
    · obtain ⟨w, j, q1, q2, q3⟩ := fn60 (m + 6) r (i := i1 + 1 + 1) (lo := 0) (hi := 65535) i2.1 i2.2 (by omega) (by omega) (by omega)
      refine ⟨a, w, c, d, e, p, j, by omega, by omega, by omega, g4, fun R k => ?_⟩
      unfold Fn9
      simp only
      rw [g5, hf, bT rfl, hv, bF (by simp [c0]), bT (by simp [c1]), q3]
    by_cases c2 : v = 2
    · obtain ⟨w, j, q1, q2, q3⟩ := fn60 (m + 6) r (i := i1 + 1 + 1) (lo := 0) (hi := 4294967295) i2.1 i2.2 (by omega) (by omega) (by omega)
      refine ⟨a, b, w, d, e, p, j, by omega, by omega, by omega, g4, fun R k => ?_⟩
      unfold Fn9
      simp only
      rw [g5, hf, bT rfl, hv, bF (by simp [c0]), bF (by simp [c1]), bT (by simp [c2]), q3]
    by_cases c3 : v = 3
    · obtain ⟨w, j, q1, q2, q3⟩ := fn60 (m + 6) r (i := i1 + 1 + 1) (lo := 0) (hi := 4294967295) i2.1 i2.2 (by omega) (by omega) (by omega)
      refine ⟨a, b, c, w, e, p, j, by omega, by omega, by omega, g4, fun R k => ?_⟩
      unfold Fn9
      simp only
      rw [g5, hf, bT rfl, hv, bF (by simp [c0]), bF (by simp [c1]), bF (by simp [c2]), bT (by simp [c3]), q3]
    · obtain ⟨w, ⟨j, hj, hw⟩, q3⟩ := fn20 (m + 7) r (i := i1 + 1 + 1) [[F.lit (Value.int IntKind.i64 (1000 : Int))], [F.lit (Value.int IntKind.i64 (1001 : Int))]] i2.1 (by omega) (by simp) (by simp)
      have hw2 : w = 1000 ∨ w = 1001 := by
        simp at hj
        rcases (by omega : j = 0 ∨ j = 1) with rfl | rfl
        · left; rw [hw]; rfl
        · right; rw [hw]; rfl
      refine ⟨a, b, c, d, e, List.replicate w.toNat [F.lit (Value.int IntKind.u8 (0 : Int))], i1 + 1 + 1 + 1, by omega, by omega, by simp; omega, bytes_rep _, fun R k => ?_⟩
      unfold Fn9
      simp only
      rw [g5, hf, bT rfl, hv, bF (by simp [c0]), bF (by simp [c1]), bF (by simp [c2]), bF (by simp [c3]), q3, bT (by simp [rowMax]; omega)]
end Go.Proofs.Ytjhfbmhblpjigaa.Med
end
section
set_option linter.unusedVariables false
set_option linter.unusedSimpArgs false
namespace Go.Proofs.Ytjhfbmhblpjigaa.Med
open Go Go.Abs Go.Proofs
set_option linter.unusedVariables false
set_option linter.unusedSimpArgs false
/-- one byte of a number, the j-th from the right -/
def pb (x : Int) (j : Nat) : List F := [F.lit (Value.int IntKind.u8 (IntKind.wrap IntKind.u8 (Int.fdiv x ((2 : Int) ^ min (8 * j) (64 : Nat)))))]
def putN (x : Int) : Nat → Abs.Rows → Abs.Rows
  | 0, r => r
  | n + 1, r => putN x n (r ++ [pb x n])
theorem putN_len (x : Int) : ∀ n r, (putN x n r).length = r.length + n
  | 0, r => rfl
  | n + 1, r => by rw [putN, putN_len x n]; simp; omega
theorem putN_bytes (x : Int) : ∀ n r, Bytes r → Bytes (putN x n r)
  | 0, r, h => h
  | n + 1, r, h => putN_bytes x n _ (bytes_app h bytes_one)
theorem w8j {n : Nat} (h : n ≤ 100) : Int.toNat (IntKind.wrap IntKind.i64 ((8 : Int) * (n : Int))) = 8 * n := by
  rw [w64 (by omega) (by omega)]; omega
theorem lp62 {R : Type} (m : Nat) (kx : Abs.Rows → Int → Option R) (x s : Int) : ∀ (n f : Nat) (r : Abs.Rows), n < f → n ≤ 100 → r.length + n ≤ 10000 → Lp62_0 m kx x s f r ((n : Int) - 1) = kx (putN x n r) (-1)
  | 0, 0, r, h0, h1, h2 => by omega
  | 0, f + 1, r, h0, h1, h2 => by
    simp only [Lp62_0, Lp62_0_step]
    rw [bF (by simp)]
    rfl
  | n + 1, 0, r, h0, h1, h2 => by omega
  | n + 1, f + 1, r, h0, h1, h2 => by
    have e : ((n + 1 : Nat) : Int) - 1 = (n : Int) := by omega
    simp only [Lp62_0, Lp62_0_step, e, w8j (show n ≤ 100 by omega)]
    rw [bT (by simp), bT (by rw [w64 (by omega) (by omega)]; simp; omega), bT (by simp [rowMax]; omega), w64 (by omega) (by omega), lp62 m kx x s n f _ (by omega) (by omega) (by simp; omega)]
    rfl
theorem lp131 {R : Type} (m : Nat) (kx : Abs.Rows → Int → Option R) (a b c d : Int) (e : Bool) (p : Abs.Rows) (x s : Int) (rr : Abs.Rows) (u v w : Int) : ∀ (n f : Nat) (r : Abs.Rows), n < f → n ≤ 100 → r.length + n ≤ 10000 → Lp13_1 m kx a b c d e p x s rr u v w f r ((n : Int) - 1) = kx (putN x n r) (-1)
  | 0, 0, r, h0, h1, h2 => by omega
  | 0, f + 1, r, h0, h1, h2 => by
    simp only [Lp13_1, Lp13_1_step]
    rw [bF (by simp)]
    rfl
  | n + 1, 0, r, h0, h1, h2 => by omega
  | n + 1, f + 1, r, h0, h1, h2 => by
    have e : ((n + 1 : Nat) : Int) - 1 = (n : Int) := by omega
    simp only [Lp13_1, Lp13_1_step, e, w8j (show n ≤ 100 by omega)]
    rw [bT (by simp), bT (by rw [w64 (by omega) (by omega)]; simp; omega), bT (by simp [rowMax]; omega), w64 (by omega) (by omega), lp131 m kx a b c d _ p x s rr u v w n f _ (by omega) (by omega) (by simp; omega)]
    rfl
/-- the twelve bytes ahead -/
def hdr (b c d : Int) (r : Abs.Rows) : Abs.Rows := putN d 4 (putN c 4 (putN b 2 r))
theorem hdr_len (b c d : Int) (r : Abs.Rows) : (hdr b c d r).length = r.length + 10 := by simp [hdr, putN_len]
theorem hdr_bytes (b c d : Int) (r : Abs.Rows) (h : Bytes r) : Bytes (hdr b c d r) := putN_bytes _ _ _ (putN_bytes _ _ _ (putN_bytes _ _ _ h))
theorem wr2 : IntKind.wrap IntKind.i64 ((2 : Int) - 1) = ((2 : Nat) : Int) - 1 := by rw [w64 (by omega) (by omega)]; rfl
theorem wr4 : IntKind.wrap IntKind.i64 ((4 : Int) - 1) = ((4 : Nat) : Int) - 1 := by rw [w64 (by omega) (by omega)]; rfl
def t3 (b c d : Int) : Abs.Rows := [[F.lit (Value.int IntKind.i64 b), F.lit (Value.int IntKind.i64 (2 : Int))], [F.lit (Value.int IntKind.i64 c), F.lit (Value.int IntKind.i64 (4 : Int))], [F.lit (Value.int IntKind.i64 d), F.lit (Value.int IntKind.i64 (4 : Int))]]
theorem lp130 {R : Type} (m f : Nat) (kx : Abs.Rows → Int → Option R) (a b c d : Int) (e : Bool) (p r : Abs.Rows) (h : r.length ≤ 100) :
    Lp13_0 (m + 5) kx a b c d e p (t3 b c d) (3 : Int) (f + 4) r 0 = kx (hdr b c d r) 3 := by
  have q0 : Abs.rowAt (t3 b c d) (Int.toNat (0 : Int)) = [F.lit (Value.int IntKind.i64 b), F.lit (Value.int IntKind.i64 (2 : Int))] := rfl
  have q1 : Abs.rowAt (t3 b c d) (Int.toNat (1 : Int)) = [F.lit (Value.int IntKind.i64 c), F.lit (Value.int IntKind.i64 (4 : Int))] := rfl
  have q2 : Abs.rowAt (t3 b c d) (Int.toNat (2 : Int)) = [F.lit (Value.int IntKind.i64 d), F.lit (Value.int IntKind.i64 (4 : Int))] := rfl
  have s1 : IntKind.wrap IntKind.i64 ((0 : Int) + 1) = 1 := by rw [w64 (by omega) (by omega)]; rfl
  have s2 : IntKind.wrap IntKind.i64 ((1 : Int) + 1) = 2 := by rw [w64 (by omega) (by omega)]; rfl
  have s3 : IntKind.wrap IntKind.i64 ((2 : Int) + 1) = 3 := by rw [w64 (by omega) (by omega)]; rfl
  simp only [Lp13_0, Lp13_0_step, q0, List.headD_cons, List.tail_cons, F.toInt, wr2]
  rw [bT (by decide), bT (by simp [t3]), lp131 _ _ _ _ _ _ _ _ _ _ _ _ _ _ 2 (m + 5) r (by omega) (by omega) (by omega)]
  simp only [s1, q1, List.headD_cons, List.tail_cons, F.toInt, wr4]
  rw [bT (by decide), bT (by simp [t3]), lp131 _ _ _ _ _ _ _ _ _ _ _ _ _ _ 4 (m + 5) _ (by omega) (by omega) (by simp [putN_len]; omega)]
  simp only [s2, q2, List.headD_cons, List.tail_cons, F.toInt, wr4]
  rw [bT (by decide), bT (by simp [t3]), lp131 _ _ _ _ _ _ _ _ _ _ _ _ _ _ 4 (m + 5) _ (by omega) (by omega) (by simp [putN_len]; omega)]
  simp only [s3]
  rw [bF (by decide)]
  rfl
def head2 (n : Int) : Abs.Rows := [[F.lit (Value.int IntKind.u8 (128 : Int))], [F.lit (Value.int IntKind.u8 n)]]
theorem head2_bytes (n : Int) : Bytes (head2 (IntKind.wrap IntKind.u8 n)) := by
  rw [show head2 (IntKind.wrap IntKind.u8 n) = [[F.lit (Value.int IntKind.u8 (128 : Int))]] ++ [[F.lit (Value.int IntKind.u8 (IntKind.wrap IntKind.u8 n))]] from rfl]
  refine bytes_app ?_ bytes_one
  intro row h
  simp at h
  exact ⟨128, by omega, by omega, h⟩
def mk2 (a : Int) (e : Bool) : Int := if e then IntKind.wrap .u8 (IntKind.wrap .u8 a + 128) else IntKind.wrap .u8 a
theorem fn13 {R : Type} (m : Nat) (a b c d : Int) (e : Bool) (p : Abs.Rows) (k : Abs.Rows → Option R) (h : p.length ≤ 5000) : Fn13 (m + 6) a b c d e p k = k (hdr b c d (head2 (mk2 a e)) ++ p) := by
  cases e with
  | true =>
    simp only [Fn13]
    rw [bT rfl]
    refine (lp130 m (m + 1) _ a b c d true p _ (by simp)).trans ?_
    rw [bT (by simp [rowMax, hdr_len]; omega)]
    rfl
  | false =>
    simp only [Fn13]
    rw [bF rfl]
    refine (lp130 m (m + 1) _ a b c d false p _ (by simp)).trans ?_
    rw [bT (by simp [rowMax, hdr_len]; omega)]
    rfl
theorem fn62 {R : Type} (m : Nat) (r : Abs.Rows) (x : Int) (k : Abs.Rows → Option R) (h : r.length ≤ 5000) : Fn62 (m + 6) r x 4 k = k (putN x 4 r) := by
  simp only [Fn62]
  rw [wr4, lp62 _ _ _ _ 4 _ _ (by omega) (by omega) (by omega)]
theorem fn62b {R : Type} (m : Nat) (r : Abs.Rows) (x : Int) (k : Abs.Rows → Option R) (h : r.length ≤ 5000) : Fn62 (m + 6) r x 2 k = k (putN x 2 r) := by
  simp only [Fn62]
  rw [wr2, lp62 _ _ _ _ 2 _ _ (by omega) (by omega) (by omega)]
end Go.Proofs.Ytjhfbmhblpjigaa.Med
end
section
set_option linter.unusedVariables false
set_option linter.unusedSimpArgs false
namespace Go.Proofs.Ytjhfbmhblpjigaa.Med
open Go Go.Abs Go.Proofs
set_option linter.unusedVariables false
set_option linter.unusedSimpArgs false
/-- what is wrong with a packet -/
def fault (a b c d : Int) (p : Abs.Rows) : Int :=
  if 0 ≤ a ∧ a ≤ 127 then if 0 ≤ b ∧ b ≤ 65535 then if 0 ≤ c ∧ c ≤ 4294967295 then if 0 ≤ d ∧ d ≤ 4294967295 then if (p.length : Int) > 1000 then 2 else 0 else 1 else 1 else 1 else 1
theorem fn67 {R : Type} (m : Nat) (x lo hi : Int) (k : Bool → Option R) : Fn67 (m + 1) x lo hi k = k (decide (lo ≤ x ∧ x ≤ hi)) := by
  simp only [Fn67]
  by_cases h : lo ≤ x
  · rw [bT (by simpa using h)]; simp [h]
  · rw [bF (by simpa using h)]; simp [h]
theorem fn63 {R : Type} (m : Nat) (x lo hi : Int) (k : Bool → Option R) : Fn63 (m + 1) x lo hi k = k (decide (lo ≤ x ∧ x ≤ hi)) := by
  simp only [Fn63]
  by_cases h : lo ≤ x
  · rw [bT (by simpa using h)]; simp [h]
  · rw [bF (by simpa using h)]; simp [h]
theorem fn16 {R : Type} (m : Nat) (a b c d : Int) (e : Bool) (p : Abs.Rows) (k : Int → Option R) : Fn16 (m + 2) a b c d e p k = k (fault a b c d p) := by
  simp only [Fn16, fn67]
  unfold fault
  by_cases h1 : 0 ≤ a ∧ a ≤ 127
  · rw [bF (by simp [h1]), if_pos h1]
    by_cases h2 : 0 ≤ b ∧ b ≤ 65535
    · rw [bF (by simp [h2]), if_pos h2]
      by_cases h3 : 0 ≤ c ∧ c ≤ 4294967295
      · rw [bF (by simp [h3]), if_pos h3]
        by_cases h4 : 0 ≤ d ∧ d ≤ 4294967295
        · rw [bF (by simp [h4]), if_pos h4]
          by_cases h5 : (p.length : Int) > 1000
          · rw [bT (by simpa using h5), if_pos h5]
          · rw [bF (by simpa using h5), if_neg h5]
        · rw [bT (by simp [h4]), if_neg h4]
      · rw [bT (by simp [h3]), if_neg h3]
    · rw [bT (by simp [h2]), if_neg h2]
  · rw [bT (by simp [h1]), if_neg h1]
theorem fn12 {R : Type} (m : Nat) (a b c d : Int) (e : Bool) (p : Abs.Rows) (k : Int → Option R) : Fn12 (m + 2) a b c d e p k = k (fault a b c d p) := by
  simp only [Fn12, fn63]
  unfold fault
  by_cases h1 : 0 ≤ a ∧ a ≤ 127
  · rw [bF (by simp [h1]), if_pos h1]
    by_cases h2 : 0 ≤ b ∧ b ≤ 65535
    · rw [bF (by simp [h2]), if_pos h2]
      by_cases h3 : 0 ≤ c ∧ c ≤ 4294967295
      · rw [bF (by simp [h3]), if_pos h3]
        by_cases h4 : 0 ≤ d ∧ d ≤ 4294967295
        · rw [bF (by simp [h4]), if_pos h4]
          by_cases h5 : (p.length : Int) > 1000
          · rw [bT (by simpa using h5), if_pos h5]
          · rw [bF (by simpa using h5), if_neg h5]
        · rw [bT (by simp [h4]), if_neg h4]
      · rw [bT (by simp [h3]), if_neg h3]
    · rw [bT (by simp [h2]), if_neg h2]
  · rw [bT (by simp [h1]), if_neg h1]
theorem fault_zero {a b c d : Int} {p : Abs.Rows} (h : fault a b c d p = 0) : (0 ≤ a ∧ a ≤ 127) ∧ (p.length : Int) ≤ 1000 := by
  unfold fault at h
  by_cases h1 : 0 ≤ a ∧ a ≤ 127
  · rw [if_pos h1] at h
    refine ⟨h1, ?_⟩
    by_cases h2 : (p.length : Int) > 1000
    · rw [if_pos h2] at h
      split at h <;> try (exact absurd h (by decide))
      split at h <;> try (exact absurd h (by decide))
      split at h <;> exact absurd h (by decide)
    · omega
  · rw [if_neg h1] at h
    exact absurd h (by decide)
theorem fn11z {R : Type} (m : Nat) (a b c d : Int) (e : Bool) (p : Abs.Rows) (k : Abs.Rows → Int → Option R) (h : fault a b c d p = 0) : Fn11 (m + 7) a b c d e p k = k (hdr b c d (head2 (mk2 a e)) ++ p) 0 := by
  obtain ⟨⟨h1, h2⟩, h3⟩ := fault_zero h
  have e1 : IntKind.wrap IntKind.u8 (IntKind.wrap IntKind.i64 (a + 128)) = IntKind.wrap .u8 (IntKind.wrap .u8 a + 128) := by
    rw [w64 (by omega) (by omega), IntKind.wrap_u8, IntKind.wrap_u8, IntKind.wrap_u8]
    omega
  simp only [Fn11, fn16, h]
  rw [bF (by simp)]
  cases e with
  | true =>
    rw [bT rfl, fn62b _ _ _ _ (by simp), fn62 _ _ _ _ (by simp [putN_len]), fn62 _ _ _ _ (by simp [putN_len]), bT (by simp [putN_len, rowMax]; omega), e1]
    rfl
  | false =>
    rw [bF rfl, fn62b _ _ _ _ (by simp), fn62 _ _ _ _ (by simp [putN_len]), fn62 _ _ _ _ (by simp [putN_len]), bT (by simp [putN_len, rowMax]; omega)]
    rfl
theorem fn11n {R : Type} (m : Nat) (a b c d : Int) (e : Bool) (p : Abs.Rows) (k : Abs.Rows → Int → Option R) (h : fault a b c d p ≠ 0) : Fn11 (m + 7) a b c d e p k = k rows0 (fault a b c d p) := by
  simp only [Fn11, fn16]
  rw [bT (by simpa using h)]
theorem lp17 {R : Type} (m : Nat) (k0 : Bool → Int → Option R) (k1 : Int → Option R) (r : Abs.Rows) (b : Bool) (hr : r.length ≤ 100000) : ∀ (n : Nat) (i : Int), 0 ≤ i → i ≤ r.length → ((r.length : Int) - i).toNat < n → Lp17_0 m k0 k1 r r b r.length n i = k1 r.length
  | 0, i, h0, h1, h2 => by omega
  | n + 1, i, h0, h1, h2 => by
    simp only [Lp17_0, Lp17_0_step]
    by_cases h : i < r.length
    · rw [bT (by simpa using h), bT (by simp; omega), bT (by simp; omega), bF (by simp), w64 (by omega) (by omega), lp17 m k0 k1 r b hr n _ (by omega) (by omega) (by omega)]
    · rw [bF (by simpa using h), show i = (r.length : Int) by omega]
theorem fn17 {R : Type} (m : Nat) (r : Abs.Rows) (k : Bool → Option R) (hr : r.length ≤ 100000) (hm : r.length < m) : Fn17 (m + 1) r r k = k true := by
  simp only [Fn17]
  rw [bF (by simp), lp17 m _ _ r false hr m 0 (by omega) (by omega) (by omega)]
theorem fn18 {R : Type} (m : Nat) (a b c d : Int) (e : Bool) (r : Abs.Rows) (k : Bool → Option R) (hr : r.length ≤ 100000) (hm : r.length < m) : Fn18 (m + 2) a b c d e r a b c d e r k = k true := by
  simp only [Fn18]
  rw [bT (by simp), bT (by simp), fn17 m r _ hr hm]
theorem fn19 {R : Type} (m : Nat) (k : Bool → Option R) : Fn19 (m + 2) k = k true := by
  rfl
end Go.Proofs.Ytjhfbmhblpjigaa.Med
end
section
set_option linter.unusedVariables false
set_option linter.unusedSimpArgs false
namespace Go.Proofs.Ytjhfbmhblpjigaa.Med
open Go Go.Abs Go.Proofs
set_option linter.unusedVariables false
set_option linter.unusedSimpArgs false
theorem bytes_take {r : Abs.Rows} (h : Bytes r) (n : Nat) : Bytes (r.take n) := fun row hr => h row (List.mem_of_mem_take hr)
theorem bytes_drop {r : Abs.Rows} (h : Bytes r) (n : Nat) : Bytes (r.drop n) := fun row hr => h row (List.mem_of_mem_drop hr)
theorem bytes_set {r : Abs.Rows} (h : Bytes r) (i : Nat) (n : Int) : Bytes (r.set i [F.lit (Value.int IntKind.u8 (IntKind.wrap .u8 n))]) := by
  intro row hr
  rcases List.mem_or_eq_of_mem_set hr with h1 | h1
  · exact h row h1
  · exact bytes_one (n := n) row (by simp [h1])
theorem lp61 (m : Nat) (q r9 : Abs.Rows) {hi : Int} (hh : hi ≤ 5) : ∀ (n : Nat) (r : Abs.Rows) (j i : Int), 0 ≤ j → 0 ≤ i → i + 3 * (hi - j).toNat ≤ 100000 → j ≤ hi → (hi - j).toNat < n → r.length + (hi - j).toNat ≤ 100000 → Bytes r →
    ∃ r' i', i ≤ i' ∧ i' ≤ i + 3 * (hi - j).toNat ∧ r'.length ≤ r.length + (hi - j).toNat ∧ Bytes r' ∧ ∀ (R : Type) (k : Abs.Rows → Int → Option R), Lp61_0 (m + 3) (fun r _ i => k r i) (fun r _ i => k r i) q hi r9 n r j i = k r' i'
  | 0, r, j, i, h0, h1, h2, h3, h4, h5, h6 => by omega
  | n + 1, r, j, i, h0, h1, h2, h3, h4, h5, h6 => by
    by_cases hj : j < hi
    · by_cases hl : (r.length : Int) = 0
      · obtain ⟨v, _, _, hv⟩ := fn59 (m + 1) r9 (i := i) (n := 256) (by omega) (by omega) (by omega) (by omega)
        refine ⟨r ++ [[F.lit (Value.int IntKind.u8 (IntKind.wrap IntKind.u8 v))]], i + 1, by omega, by omega, by simp; omega, bytes_app h6 bytes_one, fun R k => ?_⟩
        simp only [Lp61_0, Lp61_0_step]
        rw [bT (by simpa using hj), bT (by simpa using hl), hv, bT (by simp [rowMax]; omega)]
      · obtain ⟨v, hv1, hv2, hv⟩ := fn59 (m + 1) r9 (i := i) (n := (r.length : Int)) (by omega) (by omega) (by omega) (by omega)
        obtain ⟨w, hw1, hw2, hw⟩ := fn59 (m + 1) r9 (i := i + 1) (n := 4) (by omega) (by omega) (by omega) (by omega)
        have ej : IntKind.wrap IntKind.i64 (j + 1) = j + 1 := w64 (by omega) (by omega)
        have ev : IntKind.wrap IntKind.i64 (v + 1) = v + 1 := w64 (by omega) (by omega)
        by_cases c0 : w = 0
        · obtain ⟨r', i', g1, g2, g3, g4, g5⟩ := lp61 m q r9 hh n (List.take (Int.toNat v - (0 : Nat)) (List.drop (0 : Nat) r) ++ List.take (List.length r - Int.toNat (v + 1)) (List.drop (Int.toNat (v + 1)) r)) (j + 1) (i + 1 + 1) (by omega) (by omega) (by omega) (by omega) (by omega) (by simp; omega) (bytes_app (bytes_take (bytes_drop h6 _) _) (bytes_take (bytes_drop h6 _) _))
          refine ⟨r', i', by omega, by omega, by simp at g3; omega, g4, fun R k => ?_⟩
          simp only [Lp61_0, Lp61_0_step, ej, ev]
          rw [bT (by simpa using hj), bF (by simpa using hl), hv, hw, bT (by simp [c0]), ev, bT (by simp; omega), bT (by simp; omega), bT (by simp [rowMax]; omega), g5]
        by_cases c1 : w = 1
        · obtain ⟨r', i', g1, g2, g3, g4, g5⟩ := lp61 m q r9 hh n (List.take (Int.toNat (v + 1) - (0 : Nat)) (List.drop (0 : Nat) r) ++ List.take (List.length r - Int.toNat v) (List.drop (Int.toNat v) r)) (j + 1) (i + 1 + 1) (by omega) (by omega) (by omega) (by omega) (by omega) (by simp; omega) (bytes_app (bytes_take (bytes_drop h6 _) _) (bytes_take (bytes_drop h6 _) _))
          refine ⟨r', i', by omega, by omega, by simp at g3; omega, g4, fun R k => ?_⟩
          simp only [Lp61_0, Lp61_0_step, ej, ev]
          rw [bT (by simpa using hj), bF (by simpa using hl), hv, hw, bF (by simp [c0]), bT (by simp [c1]), ev, bT (by simp; omega), bT (by simp; omega), bT (by simp [rowMax]; omega), g5]
        by_cases c2 : w = 2
        · obtain ⟨r', i', g1, g2, g3, g4, g5⟩ := lp61 m q r9 hh n (List.take (Int.toNat v - (0 : Nat)) (List.drop (0 : Nat) r)) (j + 1) (i + 1 + 1) (by omega) (by omega) (by omega) (by omega) (by omega) (by simp; omega) (bytes_take (bytes_drop h6 _) _)
          refine ⟨r', i', by omega, by omega, by simp at g3; omega, g4, fun R k => ?_⟩
          simp only [Lp61_0, Lp61_0_step, ej, ev]
          rw [bT (by simpa using hj), bF (by simpa using hl), hv, hw, bF (by simp [c0]), bF (by simp [c1]), bT (by simp [c2]), bT (by simp; omega), g5]
        · obtain ⟨x, hx1, hx2, hx⟩ := fn59 (m + 1) r9 (i := i + 1 + 1) (n := 8) (by omega) (by omega) (by omega) (by omega)
          obtain ⟨r', i', g1, g2, g3, g4, g5⟩ := lp61 m q r9 hh n (List.set r (Int.toNat v) [F.lit (Value.int IntKind.u8 (bitsOp IntKind.u8 (BitVec.ofInt (8 : Nat) (F.toInt (List.headD (Abs.rowAt r (Int.toNat v)) default)) ^^^ BitVec.ofInt (8 : Nat) (IntKind.wrap IntKind.u8 ((1 : Int) * (2 : Int) ^ min (Int.toNat x) (8 : Nat))))))]) (j + 1) (i + 1 + 1 + 1) (by omega) (by omega) (by omega) (by omega) (by omega) (by simp; omega) (bytes_set h6 _ _)
          refine ⟨r', i', by omega, by omega, by simp at g3; omega, g4, fun R k => ?_⟩
          simp only [Lp61_0, Lp61_0_step, ej, ev]
          rw [bT (by simpa using hj), bF (by simpa using hl), hv, hw, bF (by simp [c0]), bF (by simp [c1]), bF (by simp [c2]), bT (by simp; omega), hx, bT (by simp; omega), bT (by simp; omega), g5]
    · refine ⟨r, i, by omega, by omega, by omega, h6, fun R k => ?_⟩
      simp only [Lp61_0, Lp61_0_step]
      rw [bF (by simpa using hj)]
theorem fn61 (m : Nat) (r p : Abs.Rows) {i : Int} (h0 : 0 ≤ i) (h1 : i ≤ 1000) (hp : p.length ≤ 5000) (hb : Bytes p) : ∃ r' i', i ≤ i' ∧ i' ≤ i + 7 ∧ r'.length ≤ p.length + 2 ∧ Bytes r' ∧ ∀ (R : Type) (k : Abs.Rows → Int → Option R), Fn61 (m + 10) r i p k = k r' i' := by
  obtain ⟨hi, g1, g2, g3⟩ := fn21 (m + 6) r (i := i) (lo := 1) (hi := 2) (by omega) (by omega) (by omega) (by omega) (by omega)
  obtain ⟨r', i', q1, q2, q3, q4, q5⟩ := lp61 (m + 6) rows0 r (hi := hi) (by omega) (m + 9) (rows0 ++ p) 0 (i + 1) (by omega) (by omega) (by omega) (by omega) (by omega) (by simp [rows0]; omega) (bytes_app bytes_nil hb)
  refine ⟨r', i', by omega, by omega, by simp [rows0] at q3; omega, q4, fun R k => ?_⟩
  simp only [Fn61]
  rw [bT (by simp [rows0, rowMax]; omega), g3, q5]
theorem fn10 (m : Nat) (r : Abs.Rows) {i : Int} (h0 : 0 ≤ i) (h1 : i ≤ 900) : ∃ p i', p.length ≤ 3000 ∧ Bytes p ∧ ∀ (R : Type) (k : Abs.Rows → Int → Option R), Fn10 (m + 12) r i k = k p i' := by
  obtain ⟨a, b, c, d, e, p, i1, g1, g2, g3, g4, g5⟩ := fn58 (m + 1) r h0 (by omega)
  obtain ⟨f, hf⟩ := fn39 (m + 8) r (i := i1) (n := 3) (by omega) (by omega) (by omega) (by omega)
  have tail : ∀ (q : Abs.Rows) (i2 : Int), 0 ≤ i2 → i2 ≤ 1000 → q.length ≤ 3000 → Bytes q → ∃ q' i', q'.length ≤ 3000 ∧ Bytes q' ∧ ∀ (R : Type) (k : Abs.Rows → Int → Option R),
      Fn39 (m + 11) r i2 ((30 : Int)) (fun b217 i218 => bif b217 then (Fn20 (m + 11) r i218 ([[F.lit (Value.int IntKind.i64 (10 : Int))], [F.lit (Value.int IntKind.i64 (11 : Int))], [F.lit (Value.int IntKind.i64 (1011 : Int))], [F.lit (Value.int IntKind.i64 (1012 : Int))]]) (fun i219 i220 => bif decide ((0 : Int) ≤ i219 ∧ i219 ≤ (↑rowMax : Int)) then (bif decide (List.length [[F.lit (Value.int IntKind.u8 (128 : Int))]] + List.length (List.replicate (Int.toNat i219) [F.lit (Value.int IntKind.u8 (0 : Int))]) ≤ rowMax) then (k ([[F.lit (Value.int IntKind.u8 (128 : Int))]] ++ List.replicate (Int.toNat i219) [F.lit (Value.int IntKind.u8 (0 : Int))]) i220) else (none)) else (none))) else (k q i218)) = k q' i' := by
    intro q i2 h2 h3 h4 h5
    obtain ⟨f, hf⟩ := fn39 (m + 8) r (i := i2) (n := 30) (by omega) (by omega) (by omega) (by omega)
    cases f with
    | false => exact ⟨q, i2 + 1, h4, h5, fun R k => by rw [hf, bF rfl]⟩
    | true =>
      obtain ⟨w, ⟨j, hj, hw⟩, q3⟩ := fn20 (m + 8) r (i := i2 + 1) [[F.lit (Value.int IntKind.i64 (10 : Int))], [F.lit (Value.int IntKind.i64 (11 : Int))], [F.lit (Value.int IntKind.i64 (1011 : Int))], [F.lit (Value.int IntKind.i64 (1012 : Int))]] (by omega) (by omega) (by simp) (by simp)
      have hw2 : w = 10 ∨ w = 11 ∨ w = 1011 ∨ w = 1012 := by
        replace hj : j < 4 := hj
        rcases (by omega : j = 0 ∨ j = 1 ∨ j = 2 ∨ j = 3) with rfl | rfl | rfl | rfl
        · exact Or.inl (by rw [hw]; rfl)
        · exact Or.inr (Or.inl (by rw [hw]; rfl))
        · exact Or.inr (Or.inr (Or.inl (by rw [hw]; rfl)))
        · exact Or.inr (Or.inr (Or.inr (by rw [hw]; rfl)))
      refine ⟨[[F.lit (Value.int IntKind.u8 (128 : Int))]] ++ List.replicate w.toNat [F.lit (Value.int IntKind.u8 (0 : Int))], i2 + 1 + 1, by rw [List.length_append, List.length_replicate, List.length_singleton]; omega, bytes_app ?_ (bytes_rep _), fun R k => ?_⟩
      · intro row h
        simp at h
        exact ⟨128, by omega, by omega, h⟩
      · rw [hf, bT rfl, q3, bT (decide_eq_true ⟨by omega, by simp [rowMax]; omega⟩), bT (by simp [rowMax]; omega)]
  have hb : Bytes (hdr b c d (head2 (mk2 a e)) ++ p) := by
    refine bytes_app (hdr_bytes _ _ _ _ ?_) g4
    unfold mk2
    split <;> exact head2_bytes _
  have hlen : (hdr b c d (head2 (mk2 a e)) ++ p).length ≤ 17 := by simp [hdr_len, head2]; omega
  cases f with
  | false =>
    obtain ⟨q', i', t1, t2, t3⟩ := tail (hdr b c d (head2 (mk2 a e)) ++ p) (i1 + 1) (by omega) (by omega) (by omega) hb
    refine ⟨q', i', t1, t2, fun R k => ?_⟩
    simp only [Fn10]
    rw [g5, fn13 (m + 5) _ _ _ _ _ _ _ (by omega), hf, bF rfl]
    exact t3 R k
  | true =>
    obtain ⟨r', i2, q1, q2, q3, q4, q5⟩ := fn61 (m + 1) r (hdr b c d (head2 (mk2 a e)) ++ p) (i := i1 + 1) (by omega) (by omega) (by omega) hb
    obtain ⟨q', i', t1, t2, t3⟩ := tail r' i2 (by omega) (by omega) (by omega) q4
    refine ⟨q', i', t1, t2, fun R k => ?_⟩
    simp only [Fn10]
    rw [g5, fn13 (m + 5) _ _ _ _ _ _ _ (by omega), hf, bT rfl, q5]
    exact t3 R k
end Go.Proofs.Ytjhfbmhblpjigaa.Med
end
section
set_option linter.unusedVariables false
set_option linter.unusedSimpArgs false
namespace Go.Proofs.Ytjhfbmhblpjigaa.Med
open Go Go.Abs Go.Proofs
set_option linter.unusedVariables false
set_option linter.unusedSimpArgs false
theorem byteAt {r : Abs.Rows} (h : Bytes r) {i : Nat} (hi : i < r.length) : 0 ≤ F.toInt (List.headD (Abs.rowAt r i) default) ∧ F.toInt (List.headD (Abs.rowAt r i) default) < 256 := by
  have e : Abs.rowAt r i ∈ r := by
    unfold Abs.rowAt
    rw [List.getD_eq_getElem?_getD, List.getElem?_eq_getElem hi]
    exact List.getElem_mem hi
  obtain ⟨n, h1, h2, h3⟩ := h _ e
  rw [h3]
  exact ⟨h1, h2⟩
theorem or_byte {x b : Int} (h0 : 0 ≤ x) (h1 : x < 1099511627776) (h2 : 0 ≤ b) (h3 : b < 256) :
    bitsOp IntKind.i64 (BitVec.ofInt (64 : Nat) (IntKind.wrap IntKind.i64 (x * (2 : Int) ^ min (Int.toNat (8 : Int)) (64 : Nat))) ||| BitVec.ofInt (64 : Nat) (IntKind.wrap IntKind.i64 b)) = 256 * x + b := by
  obtain ⟨a, rfl⟩ := Int.eq_ofNat_of_zero_le h0
  obtain ⟨c, rfl⟩ := Int.eq_ofNat_of_zero_le h2
  have e : ((2 : Int) ^ min (Int.toNat (8 : Int)) (64 : Nat)) = 256 := rfl
  rw [e, w64 (by omega) (by omega), w64 (by omega) (by omega), show (a : Int) * 256 = ((a * 256 : Nat) : Int) by omega, BitVec.ofInt_natCast, BitVec.ofInt_natCast]
  have e2 : (BitVec.ofNat 64 (a * 256) ||| BitVec.ofNat 64 c).toNat = a * 256 + c := by
    rw [BitVec.toNat_or, BitVec.toNat_ofNat, BitVec.toNat_ofNat, Nat.mod_eq_of_lt (by omega), Nat.mod_eq_of_lt (by omega)]
    have := Nat.shiftLeft_add_eq_or_of_lt (show c < 2 ^ 8 by omega) a
    rw [Nat.shiftLeft_eq] at this
    exact this.symm
  have e3 : bitsOp IntKind.i64 (BitVec.ofNat 64 (a * 256) ||| BitVec.ofNat 64 c) = IntKind.wrap .i64 ((a * 256 + c : Nat) : Int) := congrArg (fun n : Nat => IntKind.wrap .i64 (n : Int)) e2
  rw [e3, w64 (by omega) (by omega)]
  omega
theorem and_127 {v : Int} (h0 : 0 ≤ v) (h1 : v < 256) : bitsOp IntKind.u8 (BitVec.ofInt (8 : Nat) v &&& BitVec.ofInt (8 : Nat) (127 : Int)) = Int.tmod v 128 := by
  obtain ⟨a, rfl⟩ := Int.eq_ofNat_of_zero_le h0
  rw [show (127 : Int) = ((127 : Nat) : Int) from rfl, BitVec.ofInt_natCast, BitVec.ofInt_natCast]
  have e2 : (BitVec.ofNat 8 a &&& BitVec.ofNat 8 127).toNat = a % 128 := by
    rw [BitVec.toNat_and, BitVec.toNat_ofNat, BitVec.toNat_ofNat, Nat.mod_eq_of_lt (by omega), Nat.mod_eq_of_lt (by omega)]
    exact Nat.and_two_pow_sub_one_eq_mod a 7
  have e3 : bitsOp IntKind.u8 (BitVec.ofNat 8 a &&& BitVec.ofNat 8 127) = IntKind.wrap .u8 ((a % 128 : Nat) : Int) := congrArg (fun n : Nat => IntKind.wrap .u8 (n : Int)) e2
  rw [e3, IntKind.wrap_u8, Int.tmod_eq_emod_of_nonneg (by omega)]
  omega
theorem lp6x (m : Nat) (r : Abs.Rows) (hb : Bytes r) (hl : r.length ≤ 4) : ∀ (d n i : Nat) (x : Int), i + d = r.length → d < n → 0 ≤ x → x < 2 ^ (8 * i) →
    ∃ v, ∀ (R : Type) (k : Int → Int → Option R), Lp64_0 m k r r r.length n x i = k v r.length ∧ Lp65_0 m k r r r.length n x i = k v r.length
  | d, 0, i, x, h0, h1, h2, h3 => by omega
  | 0, n + 1, i, x, h0, h1, h2, h3 => by
    refine ⟨x, fun R k => ⟨?_, ?_⟩⟩
    · simp only [Lp64_0, Lp64_0_step]
      rw [bF (by simp; omega), show (i : Int) = r.length by omega]
    · simp only [Lp65_0, Lp65_0_step]
      rw [bF (by simp; omega), show (i : Int) = r.length by omega]
  | d + 1, n + 1, i, x, h0, h1, h2, h3 => by
    have hi : i < r.length := by omega
    obtain ⟨b0, b1⟩ := byteAt hb hi
    have hx : (2 : Int) ^ (8 * i) ≤ 16777216 := by
      have : i = 0 ∨ i = 1 ∨ i = 2 ∨ i = 3 := by omega
      rcases this with rfl | rfl | rfl | rfl <;> decide
    have hy : (2 : Int) ^ (8 * (i + 1)) = 2 ^ (8 * i) * 256 := by
      rw [show 8 * (i + 1) = 8 * i + 8 by omega, Int.pow_add]
      rfl
    have ei : Int.toNat (i : Int) = i := by omega
    have ej : IntKind.wrap IntKind.i64 ((i : Int) + 1) = ((i + 1 : Nat) : Int) := by rw [w64 (by omega) (by omega)]; omega
    obtain ⟨v, hv⟩ := lp6x m r hb hl d n (i + 1) (256 * x + F.toInt (List.headD (Abs.rowAt r i) default)) (by omega) (by omega) (by omega) (by omega)
    refine ⟨v, fun R k => ⟨?_, ?_⟩⟩
    · simp only [Lp64_0, Lp64_0_step, ei, ej]
      rw [bT (by simp; omega), bT (by simp; omega), or_byte h2 (by omega) b0 b1]
      exact (hv R k).1
    · simp only [Lp65_0, Lp65_0_step, ei, ej]
      rw [bT (by simp; omega), bT (by simp; omega), w64 (x := 256 * x) (by omega) (by omega), w64 (x := F.toInt _) (by omega) (by omega), w64 (by omega) (by omega)]
      exact (hv R k).2
theorem fn6x (m : Nat) (r : Abs.Rows) (hb : Bytes r) (hl : r.length ≤ 4) : ∃ v, ∀ (R : Type) (k : Int → Option R), Fn64 (m + 6) r k = k v ∧ Fn65 (m + 6) r k = k v := by
  obtain ⟨v, hv⟩ := lp6x (m + 5) r hb hl r.length (m + 5) 0 0 (by omega) (by omega) (by omega) (by decide)
  refine ⟨v, fun R k => ⟨?_, ?_⟩⟩
  · simp only [Fn64]
    exact (hv R _).1
  · simp only [Fn65]
    exact (hv R _).2
/-- both readings of a packet answer alike -/
theorem fn14 (m : Nat) (r : Abs.Rows) (hb : Bytes r) (hl : r.length ≤ 3000) : ∃ a b c d e p w, p.length ≤ 3000 ∧ ∀ (R : Type) (k : Int → Int → Int → Int → Bool → Abs.Rows → Int → Option R), Fn14 (m + 7) r k = k a b c d e p w ∧ Fn15 (m + 7) r k = k a b c d e p w := by
  by_cases h1 : (r.length : Int) < 12
  · refine ⟨0, 0, 0, 0, false, rows0, 3, by simp [rows0], fun R k => ⟨?_, ?_⟩⟩
    · simp only [Fn14]
      rw [bT (by simpa using h1)]
    · simp only [Fn15]
      rw [bT (by simpa using h1)]
  by_cases h2 : F.toInt (List.headD (Abs.rowAt r (Int.toNat (0 : Int))) default) = 128
  · have ew : IntKind.wrap IntKind.i64 ((r.length : Int) - 12) = (r.length : Int) - 12 := w64 (by omega) (by omega)
    by_cases h3 : (r.length : Int) - 12 > 1000
    · refine ⟨0, 0, 0, 0, false, rows0, 2, by simp [rows0], fun R k => ⟨?_, ?_⟩⟩
      · simp only [Fn14, ew]
        rw [bF (by simpa using h1), bT (by simp; omega), bF (by rw [h2]; rfl), bT (by simpa using h3)]
      · simp only [Fn15, ew]
        rw [bF (by simpa using h1), bT (by simp; omega), bF (by rw [h2]; rfl), bT (by simpa using h3)]
    · obtain ⟨x, hx⟩ := fn6x m (List.take (Int.toNat (4 : Int) - Int.toNat (2 : Int)) (List.drop (Int.toNat (2 : Int)) r)) (bytes_take (bytes_drop hb _) _) (Nat.le_trans (List.length_take_le _ _) (by decide))
      obtain ⟨y, hy⟩ := fn6x m (List.take (Int.toNat (8 : Int) - Int.toNat (4 : Int)) (List.drop (Int.toNat (4 : Int)) r)) (bytes_take (bytes_drop hb _) _) (Nat.le_trans (List.length_take_le _ _) (by decide))
      obtain ⟨z, hz⟩ := fn6x m (List.take (Int.toNat (12 : Int) - Int.toNat (8 : Int)) (List.drop (Int.toNat (8 : Int)) r)) (bytes_take (bytes_drop hb _) _) (Nat.le_trans (List.length_take_le _ _) (by decide))
      obtain ⟨b0, b1⟩ := byteAt hb (show Int.toNat (1 : Int) < r.length by omega)
      refine ⟨IntKind.wrap .i64 (Int.tmod (F.toInt (List.headD (Abs.rowAt r (Int.toNat (1 : Int))) default)) (128 : Int)), x, y, z, decide (F.toInt (List.headD (Abs.rowAt r (Int.toNat (1 : Int))) default) ≥ (128 : Int)), List.take (List.length r - Int.toNat (12 : Int)) (List.drop (Int.toNat (12 : Int)) r), 0, by simp; omega, fun R k => ⟨?_, ?_⟩⟩
      · simp only [Fn14, ew]
        rw [bF (by simpa using h1), bT (by simp; omega), bF (by rw [h2]; rfl), bF (by simpa using h3), bT (by simp; omega), bT (by simp; omega), bT (by simp; omega), (hx R _).1, bT (by simp; omega), (hy R _).1, bT (by simp; omega), (hz R _).1, bT (by simp; omega), bT (by simp [rows0, rowMax]; omega), and_127 b0 b1]
        rfl
      · simp only [Fn15, ew]
        rw [bF (by simpa using h1), bT (by simp; omega), bF (by rw [h2]; rfl), bF (by simpa using h3), bT (by simp; omega), bT (by simp; omega), bT (by simp; omega), (hx R _).2, bT (by simp; omega), (hy R _).2, bT (by simp; omega), (hz R _).2, bT (by simp; omega), bT (by simp [lenOk, rowMax]; omega)]
  · refine ⟨0, 0, 0, 0, false, rows0, 3, by simp [rows0], fun R k => ⟨?_, ?_⟩⟩
    · simp only [Fn14]
      rw [bF (by simpa using h1), bT (by simp; omega), bT (by simpa using h2)]
    · simp only [Fn15]
      rw [bF (by simpa using h1), bT (by simp; omega), bT (by simpa using h2)]
end Go.Proofs.Ytjhfbmhblpjigaa.Med
end
section
set_option linter.unusedVariables false
set_option linter.unusedSimpArgs false
namespace Go.Proofs.Ytjhfbmhblpjigaa.Med
open Go Go.Abs Go.Proofs
set_option linter.unusedVariables false
set_option linter.unusedSimpArgs false
theorem fn3 (r : Abs.Rows) (R : Type) (k : Bool → Option R) : Fn3 (9000 + 20) r k = k true := by
  obtain ⟨a, b, c, d, e, p, i1, g1, g2, g3, g4, g5⟩ := fn9 (9000 + 8) r (i := 0) (by omega) (by omega)
  obtain ⟨q, i2, q1, q2, q3⟩ := fn10 (9000 + 7) r (i := i1) (by omega) (by omega)
  obtain ⟨a', b', c', d', e', p', w, s1, s2⟩ := fn14 (9000 + 12) q q2 q1
  by_cases hf : fault a b c d p = 0
  · simp only [Fn3]
    rw [g5, q3, fn11z (9000 + 12) _ _ _ _ _ _ _ hf, fn12 (9000 + 17), hf, bT (by simp), fn13 (9000 + 13) _ _ _ _ _ _ _ (by omega), (s2 R _).1, (s2 R _).2, fn16 (9000 + 17), hf, bT (by simp), bT (by simp), fn17 (9000 + 18) _ _ (by simp [hdr_len, head2]; omega) (by simp [hdr_len, head2]; omega), bT rfl, fn18 (9000 + 17) _ _ _ _ _ _ _ (by omega) (by omega), bT rfl, bT (by simp), fn19 (9000 + 17)]
  · simp only [Fn3]
    rw [g5, q3, fn11n (9000 + 12) _ _ _ _ _ _ _ hf, fn12 (9000 + 17), bF (by simpa using hf), (s2 R _).1, (s2 R _).2, fn16 (9000 + 17), bT (by simp), bT (by simp), fn17 (9000 + 18) _ _ (by simp [rows0]) (by simp [rows0]), bT rfl, fn18 (9000 + 17) _ _ _ _ _ _ _ (by omega) (by omega), bT rfl, bT (by simp), fn19 (9000 + 17)]
end Go.Proofs.Ytjhfbmhblpjigaa.Med
end
section
set_option linter.unusedVariables false
set_option linter.unusedSimpArgs false
namespace Go.Proofs.Ytjhfbmhblpjigaa.Med
open Go Go.Abs Go.Proofs Go.RowKit
theorem fn3_ok (rows : Abs.Rows) (m : Nat) (h : ∀ (R : Type) (k : Bool → Option R), Fn3 m rows k = k true) : FnOk Try.prog 3 [.f (.lst [.int .i64] rows)] (vBool true) [.undef] := by
  refine law_of (okT26 m) fun R k => ?_
  exact h R _
theorem walk3 (w : World) (a : Option Addr) (len cap : Nat) (zs : List Int) (h : IsInts .i64 w a len cap zs) : Calls Try.prog 3 #[.slice a len cap] w fun e w' => e = .returned (.bool true) ∧ Below w.heap.size w w' := by
  obtain ⟨body, hb⟩ : ∃ b, Try.f3.body = some b := ⟨_, rfl⟩
  exact law_calls Try.func3 (by kernel_rfl) hb h (fn3_ok _ _ (fn3 _))
end Go.Proofs.Ytjhfbmhblpjigaa.Med
end
