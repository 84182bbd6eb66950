/- A part of the proofs of the seat Ytjhfbmhblpjigaa: no statement of the seat stands here. -/
import Derived.Test.YtjhfbmhblpjigaaRows
import Derived.Test.YtjhfbmhblpjigaaMedTyped
section
set_option linter.unusedVariables false
set_option linter.unusedSimpArgs false
namespace Go.Proofs.Ytjhfbmhblpjigaa.Med
open Go Go.Abs Go.Proofs
set_option linter.unusedVariables false
set_option linter.unusedSimpArgs false
section
variable {α : Type} {a b : α}
theorem dT {p : Prop} [Decidable p] (h : p) : (bif decide p then a else b) = a := by rw [decide_eq_true h]; rfl
theorem dF {p : Prop} [Decidable p] (h : ¬p) : (bif decide p then a else b) = b := by rw [decide_eq_false h]; rfl
theorem eT {x y : Int} (h : x = y) : (bif x == y then a else b) = a := by simp [h]
theorem nT {x y : Int} (h : ¬ x = y) : (bif x != y then a else b) = a := by rw [bne_iff_ne.2 h]; rfl
theorem nF {x y : Int} (h : x = y) : (bif x != y then a else b) = b := by subst h; rw [bne_self_eq_false]; rfl
theorem eF {x y : Int} (h : ¬ x = y) : (bif x == y then a else b) = b := by rw [beq_false_of_ne h]; rfl
theorem andC {p q : Bool} : (bif p && q then a else b) = bif p then (bif q then a else b) else b := by cases p <;> rfl
theorem orC {p q : Bool} : (bif p || q then a else b) = bif p then a else (bif q then a else b) := by cases p <;> rfl
theorem notC {p : Bool} : (bif !p then a else b) = bif p then b else a := by cases p <;> rfl
theorem bT {c : Bool} (h : c = true) : (bif c then a else b) = a := by subst h; rfl
theorem bF {c : Bool} (h : c = false) : (bif c then a else b) = b := by subst h; rfl
end
theorem w64 {x : Int} (h0 : -9223372036854775808 ≤ x) (h1 : x < 9223372036854775808) : IntKind.wrap .i64 x = x := by
  rw [IntKind.wrap_i64]; omega
theorem w64b (x : Int) : -9223372036854775808 ≤ IntKind.wrap .i64 x ∧ IntKind.wrap .i64 x < 9223372036854775808 := by
  rw [IntKind.wrap_i64]; omega
theorem w8 {x : Int} (h0 : 0 ≤ x) (h1 : x < 256) : IntKind.wrap .u8 x = x := by
  rw [IntKind.wrap_u8]; omega
theorem w8b (x : Int) : 0 ≤ IntKind.wrap .u8 x ∧ IntKind.wrap .u8 x < 256 := by
  rw [IntKind.wrap_u8]; omega
theorem rM : rowMax = 1073741824 := rfl
theorem tm_pos {x y : Int} (h : 0 ≤ x) : Int.tmod x y = x % y := Int.tmod_eq_emod_of_nonneg h
theorem td_pos {x y : Int} (h : 0 ≤ x) : Int.tdiv x y = x / y := Int.tdiv_eq_ediv_of_nonneg h
/-- a row of one whole number -/
theorem stR1 (t : LT) (r : Abs.Rows) (i : Nat) (x : F) : stR [t] r i 0 [x] = r.set i [x] := rfl
theorem fI_set {r : Abs.Rows} {i : Nat} {k : IntKind} {n : Int} (h : i < r.length) : fI (r.set i [F.lit (.int k n)]) i 0 = n := by
  simp [fI, dropF, Abs.rowAt, List.getD_eq_getElem?_getD, h, F.toInt]
theorem fI_set_ne {r : Abs.Rows} {i j : Nat} {x : List F} (h : i ≠ j) : fI (r.set i x) j 0 = fI r j 0 := by
  simp [fI, dropF, Abs.rowAt, List.getD_eq_getElem?_getD, List.getElem?_set_ne h]
theorem fI_app {r : Abs.Rows} {k : IntKind} {n : Int} : fI (r ++ [[F.lit (.int k n)]]) r.length 0 = n := by
  simp [fI, dropF, Abs.rowAt, List.getD_eq_getElem?_getD, F.toInt]
theorem fI_app_lt {r s : Abs.Rows} {i : Nat} (h : i < r.length) : fI (r ++ s) i 0 = fI r i 0 := by
  simp [fI, dropF, Abs.rowAt, List.getD_eq_getElem?_getD, List.getElem?_append_left h]
/-! lists that are made place by place -/
def mk (t : IntKind) (g : Nat → Int) (n : Nat) : Abs.Rows := (List.range n).map fun j => [F.lit (.int t (g j))]
theorem mk_len (t : IntKind) (g : Nat → Int) (n : Nat) : (mk t g n).length = n := by simp [mk]
theorem mk_succ (t : IntKind) (g : Nat → Int) (n : Nat) : mk t g (n + 1) = mk t g n ++ [[F.lit (.int t (g n))]] := by simp [mk, List.range_succ]
theorem mk_set (t : IntKind) (g : Nat → Int) (n d : Nat) (z : List F) : (mk t g n ++ List.replicate (d + 1) z).set n [F.lit (.int t (g n))] = mk t g (n + 1) ++ List.replicate d z := by
  rw [mk_succ, List.set_append_right _ _ (by simp [mk_len]), mk_len, Nat.sub_self, List.replicate_succ, List.set_cons_zero]
  simp
theorem mk_fI (t : IntKind) (g : Nat → Int) {n i : Nat} (h : i < n) : fI (mk t g n) i 0 = g i := by
  simp [fI, dropF, Abs.rowAt, List.getD_eq_getElem?_getD, mk, h, F.toInt]
def Byt (x : Int) : Prop := 0 ≤ x ∧ x < 256
end Go.Proofs.Ytjhfbmhblpjigaa.Med
end
section
set_option linter.unusedVariables false
set_option linter.unusedSimpArgs false
namespace Go.Proofs.Ytjhfbmhblpjigaa.Med
open Go Go.Abs Go.Proofs
set_option linter.unusedVariables false
set_option linter.unusedSimpArgs false
theorem fn93 (m : Nat) {x y : Int} (hy : 1 ≤ y) (hy2 : y ≤ 1099511627776) {R : Type} {k : Int → Option R} : Fn93 (m + 1) x y k = k (x % y) := by
  have h2 : Int.tmod x y = x % y ∨ (Int.tmod x y + y = x % y ∧ Int.tmod x y < 0 ∧ -y < Int.tmod x y) := by
    by_cases h : 0 ≤ x
    · exact .inl (Int.tmod_eq_emod_of_nonneg h)
    · have h3 := Int.tmod_eq_emod (a := x) (b := y)
      have h4 := Int.emod_nonneg x (show y ≠ 0 by omega)
      have h5 := Int.emod_lt_of_pos x (show 0 < y by omega)
      by_cases hd : y ∣ x
      · left; rw [h3]; simp [hd]
      · right
        have h6 : Int.tmod x y = x % y - y := by
          rw [h3, if_neg (by simp; exact ⟨by omega, hd⟩)]
          omega
        have h7 : x % y ≠ 0 := fun h => hd (Int.dvd_of_emod_eq_zero h)
        omega
  have h4 := Int.emod_nonneg x (show y ≠ 0 by omega)
  simp only [Fn93]
  rw [dF (by omega), dT (by omega)]
  rcases h2 with h2 | ⟨h2, h3, h5⟩
  · rw [dF (by omega), h2]
  · rw [dT h3, w64 (by omega) (by omega), h2]
def nx (r : Abs.Rows) (i : Int) : Int := if (r.length : Int) = 0 then IntKind.wrap .i64 ((i + 1) * 7919) else
  IntKind.wrap IntKind.i64 (fI r (Int.toNat (Int.tmod i (r.length : Int))) 0 % 1073741824 + IntKind.wrap IntKind.i64 (IntKind.wrap IntKind.i64 (Int.tdiv i (r.length : Int)) * IntKind.wrap IntKind.i64 (7919 + Int.tmod i (r.length : Int))))
theorem fn59 (m : Nat) (r : Abs.Rows) {i n : Int} (h0 : 0 ≤ i) (h1 : i ≤ 1099511627776) (hn : 1 ≤ n) (hn2 : n ≤ 1099511627776) {R : Type} {k : Int → Int → Option R} :
    Fn59 (m + 2) r i n k = k (nx r i % n) (i + 1) := by
  have e1 : IntKind.wrap .i64 (i + 1) = i + 1 := w64 (by omega) (by omega)
  have e2 : IntKind.wrap .i64 (i + 1 - 1) = i := by rw [show i + 1 - 1 = i by omega]; exact w64 (by omega) (by omega)
  by_cases hr : (r.length : Int) = 0
  · simp only [Fn59, e1, nx, hr, if_true]
    rw [eT rfl, fn93 m hn hn2]
  · have hm1 : 0 ≤ Int.tmod i (r.length : Int) := Int.tmod_nonneg _ h0
    have hm2 : Int.tmod i (r.length : Int) < (r.length : Int) := Int.tmod_lt_of_pos _ (by omega)
    simp only [Fn59, e1, e2, nx, if_neg hr]
    rw [eF hr, dT hr, dT hr, dT ⟨hm1, hm2⟩, fn93 m (by omega) (by omega), fn93 m hn hn2]
    try rfl
theorem fn39 (m : Nat) (r : Abs.Rows) {i n : Int} (h0 : 0 ≤ i) (h1 : i ≤ 1099511627776) (hn : 1 ≤ n) (hn2 : n ≤ 1099511627776) {R : Type} {k : Bool → Int → Option R} :
    Fn39 (m + 3) r i n k = k (nx r i % n == 0) (i + 1) := by
  simp only [Fn39]
  rw [fn59 m r h0 h1 hn hn2]
/-- one of some numbers -/
def pk (rows q : Abs.Rows) (i : Int) : Int := fI rows (nx q i % (rows.length : Int)).toNat 0
theorem fn20 (m : Nat) (r : Abs.Rows) {i : Int} (rows : Abs.Rows) (h0 : 0 ≤ i) (h1 : i ≤ 1099511627776) (hn : 1 ≤ (rows.length : Int)) (hn2 : (rows.length : Int) ≤ 1099511627776) {R : Type} {k : Int → Int → Option R} :
    Fn20 (m + 3) r i rows k = k (pk rows r i) (i + 1) := by
  have h4 := Int.emod_nonneg (nx r i) (show (rows.length : Int) ≠ 0 by omega)
  have h5 := Int.emod_lt_of_pos (nx r i) (show 0 < (rows.length : Int) by omega)
  simp only [Fn20]
  rw [fn59 m r h0 h1 hn hn2, dT ⟨h4, h5⟩]
  rfl
/-- each of some numbers is so: the one that is drawn is so -/
theorem pk_all {P : Int → Prop} (rows q : Abs.Rows) (i : Int) (h0 : 0 < rows.length) (h : ∀ j, j < rows.length → P (fI rows j 0)) : P (pk rows q i) := by
  have h4 := Int.emod_nonneg (nx q i) (show (rows.length : Int) ≠ 0 by omega)
  have h5 := Int.emod_lt_of_pos (nx q i) (show 0 < (rows.length : Int) by omega)
  exact h _ (by omega)
theorem fn21 (m : Nat) (r : Abs.Rows) {i lo hi : Int} (h0 : 0 ≤ i) (h1 : i ≤ 1099511627776) (hl : -500000000000 ≤ lo) (hh : hi ≤ 500000000000) (hlh : lo ≤ hi) {R : Type} {k : Int → Int → Option R} :
    Fn21 (m + 3) r i lo hi k = k (lo + nx r i % (hi - lo + 1)) (i + 1) := by
  have h4 := Int.emod_nonneg (nx r i) (show hi - lo + 1 ≠ 0 by omega)
  have h5 := Int.emod_lt_of_pos (nx r i) (show 0 < hi - lo + 1 by omega)
  simp only [Fn21]
  rw [dF (by omega), w64 (x := hi - lo) (by omega) (by omega), w64 (x := hi - lo + 1) (by omega) (by omega), fn59 m r h0 h1 (by omega) (by omega), w64 (by omega) (by omega)]
end Go.Proofs.Ytjhfbmhblpjigaa.Med
end
section
set_option linter.unusedVariables false
set_option linter.unusedSimpArgs false
namespace Go.Proofs.Ytjhfbmhblpjigaa.Med
open Go Go.Abs Go.Proofs
set_option linter.unusedVariables false
set_option linter.unusedSimpArgs false
theorem fn60 (m : Nat) (r : Abs.Rows) {i : Int} (lo hi : Int) (h0 : 0 ≤ i) (h1 : i ≤ 1000000000) (hl : -500000000000 ≤ lo) (hh : hi ≤ 500000000000) (hlh : lo ≤ hi) :
    ∃ v i' : Int, i ≤ i' ∧ i' ≤ i + 2 ∧ ∀ (R : Type) (k : Int → Int → Option R), Fn60 (m + 4) r i lo hi k = k v i' := by
  by_cases h : nx r i % 12 = 0
  · apply Exists.intro
    refine ⟨i + 1 + 1, by omega, by omega, fun R k => ?_⟩
    simp only [Fn60]
    rw [fn39 m r h0 (by omega) (by omega) (by omega), bT (by simpa using h), fn20 m r _ (by omega) (by omega) (by simp) (by simp)]
  · apply Exists.intro
    refine ⟨i + 1 + 1, by omega, by omega, fun R k => ?_⟩
    simp only [Fn60]
    rw [fn39 m r h0 (by omega) (by omega) (by omega), bF (by simpa using h), fn21 m r (by omega) (by omega) hl hh hlh]
end Go.Proofs.Ytjhfbmhblpjigaa.Med
end
section
set_option linter.unusedVariables false
set_option linter.unusedSimpArgs false
namespace Go.Proofs.Ytjhfbmhblpjigaa.Med
open Go Go.Abs Go.Proofs
theorem fn19 (m : Nat) {R : Type} (k : Bool → Option R) : Fn19 (m + 2) k = k true := by rfl
end Go.Proofs.Ytjhfbmhblpjigaa.Med
end
section
set_option linter.unusedVariables false
set_option linter.unusedSimpArgs false
namespace Go.Proofs.Ytjhfbmhblpjigaa.Med
open Go Go.Abs Go.Proofs
set_option linter.unusedVariables false
set_option linter.unusedSimpArgs false
/-! arrivals that are drawn -/
def pay (row : List F) : Abs.Rows := F.toRows ((dropF 6 row).headD default)
def PayOk (p : Abs.Rows) : Prop := p.length ≤ 8 ∧ ∀ j, j < p.length → Byt (fI p j 0)
def ArrOk (r : Abs.Rows) : Prop := ∀ row ∈ r, PayOk (pay row)
abbrev tsA : List LT := [LT.int IntKind.i64, LT.int IntKind.i64, LT.int IntKind.i64, LT.int IntKind.i64, LT.int IntKind.i64, LT.bool, LT.lst [LT.int IntKind.u8]]
theorem payOk_nil : PayOk [] := ⟨by simp, by simp⟩
theorem ArrOk.at_ {r : Abs.Rows} (h : ArrOk r) (i : Nat) : PayOk (fR r i 6) := by
  show PayOk (pay (Abs.rowAt r i))
  unfold Abs.rowAt
  rw [List.getD_eq_getElem?_getD]
  cases hx : r[i]? with
  | none => exact payOk_nil
  | some row => exact h row (List.mem_of_getElem? hx)
theorem ArrOk.app {r : Abs.Rows} (h : ArrOk r) {row : List F} (hr : PayOk (pay row)) : ArrOk (r ++ [row]) := by
  intro x hx
  simp only [List.mem_append, List.mem_singleton] at hx
  rcases hx with hx | rfl
  · exact h x hx
  · exact hr
theorem ArrOk.set {r : Abs.Rows} (h : ArrOk r) {i : Nat} {row : List F} (hr : PayOk (pay row)) : ArrOk (r.set i row) := by
  intro x hx
  rcases List.mem_or_eq_of_mem_set hx with hx | rfl
  · exact h x hx
  · exact hr
theorem ArrOk.swap {r : Abs.Rows} (h : ArrOk r) (i : Nat) {a b c d e : F} {p : Abs.Rows} (hp : PayOk p) : ArrOk (stR tsA r i (0 + 1) [a, b, c, d, e, F.lst [LT.int IntKind.u8] p]) := h.set hp
theorem ArrOk.st0 {r : Abs.Rows} (h : ArrOk r) (i : Nat) (x : F) : ArrOk (stR tsA r i (0 + 0) [x]) := h.set (h.at_ i)
theorem ArrOk.st1 {r : Abs.Rows} (h : ArrOk r) (i : Nat) (x : F) : ArrOk (stR tsA r i (0 + 1 + 1) [x]) := h.set (h.at_ i)
theorem ArrOk.st2 {r : Abs.Rows} (h : ArrOk r) (i : Nat) (x : F) : ArrOk (stR tsA r i (0 + 1 + 2) [x]) := h.set (h.at_ i)
theorem ArrOk.st3 {r : Abs.Rows} (h : ArrOk r) (i : Nat) (x : F) : ArrOk (stR tsA r i (0 + 1 + 3) [x]) := h.set (h.at_ i)
theorem stR_len (ts : List LT) (r : Abs.Rows) (i j : Nat) (ys : List F) : (stR ts r i j ys).length = r.length := by simp [stR]
theorem lp71_10 (m : Nat) (q : Abs.Rows) {hi : Int} (hh : hi ≤ 8) (a : Abs.Rows) (b c d e f g h x : Int) (y : Bool) (u v : Int) : ∀ (t n : Nat) (r : Abs.Rows) (j i : Int), 0 ≤ i → i + t ≤ 100000000 → j + t = hi → 0 ≤ j → t < n → (r.length : Int) = j → (∀ j, j < r.length → Byt (fI r j 0)) →
    ∃ (r' : Abs.Rows), PayOk r' ∧ ∀ (R : Type) (k : Abs.Rows → Int → Int → Option R), Lp71_10 (m + 3) k a b c d e f g h x y u v hi q n r j i = k r' hi (i + t)
  | t, 0, r, j, i, h0, h1, h2, h3, h4, h5, h6 => by omega
  | 0, n + 1, r, j, i, h0, h1, h2, h3, h4, h5, h6 => by
    refine ⟨r, ⟨by omega, h6⟩, fun R k => ?_⟩
    simp only [Lp71_10, Lp71_10_step]
    rw [dF (by omega)]
    congr 1 <;> omega
  | t + 1, n + 1, r, j, i, h0, h1, h2, h3, h4, h5, h6 => by
    have a1 := Int.emod_nonneg (nx q i) (show (255 : Int) - 0 + 1 ≠ 0 by omega)
    have a2 := Int.emod_lt_of_pos (nx q i) (show (0 : Int) < 255 - 0 + 1 by omega)
    obtain ⟨r', g1, g3⟩ := lp71_10 m q hh a b c d e f g h x y u v t n (r ++ [[F.lit (.int .u8 (IntKind.wrap .u8 (0 + nx q i % (255 - 0 + 1))))]]) (j + 1) (i + 1) (by omega) (by omega) (by omega) (by omega) (by omega) (by simp; omega) (by
      intro t ht
      simp only [List.length_append, List.length_singleton] at ht
      by_cases hc : t < r.length
      · rw [fI_app_lt hc]; exact h6 t hc
      · have : t = r.length := by omega
        subst this
        rw [fI_app]
        exact w8b _)
    refine ⟨r', g1, fun R k => ?_⟩
    simp only [Lp71_10, Lp71_10_step]
    rw [dT (by omega), fn21 m q h0 (by omega) (by omega) (by omega) (by omega), dT (by simp [rM]; omega), w64 (x := j + 1) (by omega) (by omega)]
    simp only [letV]
    rw [g3]
    congr 1
    omega
theorem jn71_21 (m : Nat) {r : Abs.Rows} (h : ArrOk r) (hl : r.length ≤ 1000) (a b c d e f : Int) (y : Bool) (q : Abs.Rows) (g : Int) (hy : y = true → 0 < r.length) : ∃ (r' : Abs.Rows) (b' : Bool), ArrOk r' ∧ r.length ≤ r'.length ∧ r'.length ≤ r.length + 1 ∧ ∀ (R : Type) (k : Abs.Rows → Bool → Option R), Jn71_21 m k r a b c d e f y q g = k r' b' := by
  cases y with
  | false => exact ⟨r, false, h, by omega, by omega, fun R k => rfl⟩
  | true =>
    have h0 := hy rfl
    apply Exists.intro
    refine ⟨true, ?_, ?_, ?_, fun R k => ?_⟩
    rotate_left 3
    · simp only [Jn71_21, cond_true, letV]
      rw [dT (by rw [w64 (by omega) (by omega)]; omega), dT (by simp [rM]; omega)]
    · exact h.app (h.at_ _)
    · simp
    · simp
theorem jn71_20 (m : Nat) {r : Abs.Rows} (h : ArrOk r) (hl : r.length ≤ 1000) (a b c d e f : Int) (q : Abs.Rows) {i : Int} (h0 : 0 ≤ i) (h1 : i ≤ 1000000) : ∃ (r' : Abs.Rows) (i' : Int), ArrOk r' ∧ r'.length ≤ r.length + 1 ∧ i ≤ i' ∧ i' ≤ i + 1 ∧ ∀ (R : Type) (k : Abs.Rows → Int → Option R), Jn71_20 (m + 3) k r a b c d e f q i = k r' i' := by
  by_cases hc : (r.length : Int) > 0
  · obtain ⟨r', b', g1, g2, g3, g4⟩ := jn71_21 (m + 3) h hl a b c d e f (nx q i % 8 == 0) q (i + 1) (fun _ => by omega)
    refine ⟨r', i + 1, g1, g3, by omega, by omega, fun R k => ?_⟩
    simp only [Jn71_20]
    rw [dT hc, fn39 m q h0 (by omega) (by omega) (by omega), g4]
  · obtain ⟨r', b', g1, g2, g3, g4⟩ := jn71_21 (m + 3) h hl a b c d e f false q i (fun h => by cases h)
    refine ⟨r', i, g1, g3, by omega, by omega, fun R k => ?_⟩
    simp only [Jn71_20]
    rw [dF hc, g4]
theorem len1 {r : Abs.Rows} {row : List F} (hl : r.length ≤ 1000) : IntKind.wrap IntKind.i64 (((r ++ [row]).length : Int) - 1) = (r.length : Int) := by
  rw [w64 (by simp <;> omega) (by simp <;> omega)]; simp
theorem jn71_17 (m : Nat) {r : Abs.Rows} (h : ArrOk r) (hl : r.length ≤ 1000) (a b c d e f g x : Int) (y : Bool) {p : Abs.Rows} (hp : PayOk p) (u v : Int) (z : Bool) (q : Abs.Rows) (w : Int) (hz : z = true → 0 < r.length) : ∃ (r' : Abs.Rows) (b' : Bool), ArrOk r' ∧ r'.length = r.length + 1 ∧ ∀ (R : Type) (k : Abs.Rows → Bool → Option R), Jn71_17 m k r a b c d e f g x y p u v z q w = k r' b' := by
  cases z with
  | false =>
    apply Exists.intro
    refine ⟨false, ?_, ?_, fun R k => ?_⟩
    rotate_left 2
    · simp only [Jn71_17, cond_false, letV]
      rw [dT (by simp [rM]; omega)]
    · exact h.app hp
    · simp
  | true =>
    have h0 := hz rfl
    have hA : ArrOk (r ++ [[F.lit (Value.int IntKind.i64 c), F.lit (Value.int IntKind.i64 e), F.lit (Value.int IntKind.i64 f), F.lit (Value.int IntKind.i64 g), F.lit (Value.int IntKind.i64 x), F.lit (Value.bool y), F.lst [LT.int IntKind.u8] p]]) := h.app hp
    apply Exists.intro
    refine ⟨true, ?_, ?_, fun R k => ?_⟩
    rotate_left 2
    · simp only [Jn71_17, cond_true, letV]
      rw [dT (by simp [rM]; omega)]
      rw [len1 hl, w64 (x := (r.length : Int) - 1) (by omega) (by omega), dT (by simp; omega), dT (by simp; omega), dT (by simp; omega), dT (by simp; omega)]
    · exact (hA.swap _ (hA.at_ _)).swap _ (hA.at_ _)
    · simp [stR_len]
end Go.Proofs.Ytjhfbmhblpjigaa.Med
end
section
set_option linter.unusedVariables false
set_option linter.unusedSimpArgs false
namespace Go.Proofs.Ytjhfbmhblpjigaa.Med
open Go Go.Abs Go.Proofs
set_option linter.unusedVariables false
set_option linter.unusedSimpArgs false
abbrev Q3l : Abs.Rows := [[F.lit (Value.int IntKind.i64 (0 : Int))], [F.lit (Value.int IntKind.i64 (3 : Int))], [F.lit (Value.int IntKind.i64 (8 : Int))]]
abbrev Q5l (long : Int) : Abs.Rows := [[F.lit (Value.int IntKind.i64 (0 : Int))], [F.lit (Value.int IntKind.i64 (1 : Int))], [F.lit (Value.int IntKind.i64 (IntKind.wrap IntKind.i64 (Int.tdiv long (8 : Int))))], [F.lit (Value.int IntKind.i64 (IntKind.wrap IntKind.i64 (Int.tdiv long (8 : Int))))], [F.lit (Value.int IntKind.i64 (25 : Int))]]
theorem pk3 (q : Abs.Rows) (i : Int) : 0 ≤ pk Q3l q i ∧ pk Q3l q i ≤ 8 := by
  refine pk_all (P := fun x => 0 ≤ x ∧ x ≤ 8) Q3l q i (by simp) fun j hj => ?_
  simp at hj
  rcases (by omega : j = 0 ∨ j = 1 ∨ j = 2) with rfl | rfl | rfl <;> exact ⟨by decide, by decide⟩
theorem lp71_5 (m : Nat) (q : Abs.Rows) (long : Int) {hi : Int} (hh : hi ≤ 100) (hm : 20 ≤ m) : ∀ (d n : Nat) (r : Abs.Rows) (a b c j i : Int), 0 ≤ i → i + 20 * d ≤ 100000 → j + d = hi → 0 ≤ j → d < n → r.length + 2 * d ≤ 900 → ArrOk r →
    ∃ (r' : Abs.Rows) (a' b' c' i' : Int), ArrOk r' ∧ r'.length ≤ r.length + 2 * d ∧ i ≤ i' ∧ i' ≤ i + 20 * d ∧ ∀ (R : Type) (k : Abs.Rows → Int → Int → Int → Int → Int → Option R), Lp71_5 (m + 5) k long hi q n r a b c j i = k r' a' b' c' hi i'
  | d, 0, r, a, b, c, j, i, h0, h1, h2, h3, h4, h5, h6 => by omega
  | 0, n + 1, r, a, b, c, j, i, h0, h1, h2, h3, h4, h5, h6 => by
    refine ⟨r, a, b, c, i, h6, by omega, by omega, by omega, fun R k => ?_⟩
    simp only [Lp71_5, Lp71_5_step]
    rw [dF (by omega)]
    congr 1; omega
  | d + 1, n + 1, r, a, b, c, j, i, h0, h1, h2, h3, h4, h5, h6 => by
    obtain ⟨x0, x1⟩ := pk3 q i
    obtain ⟨t, ht⟩ := Int.eq_ofNat_of_zero_le x0
    have wj : IntKind.wrap IntKind.i64 (j + 1) = j + 1 := w64 (by omega) (by omega)
    obtain ⟨p, hp, hpl⟩ := lp71_10 (m + 2) q (hi := pk Q3l q i) (by omega) r a b c long 0 (Int.tmod a 65536) (Int.tmod b 4294967296) 7 false hi j t (m + 5) rows0 0 (i + 1) (by omega) (by omega) (by omega) (by omega) (by omega) (by simp) (by simp)
    -- the round, up to the next one
    have key : ∃ (r1 : Abs.Rows) (a1 b1 c1 i1 : Int), ArrOk r1 ∧ r1.length ≤ r.length + 2 ∧ i ≤ i1 ∧ i1 ≤ i + 20 ∧ ∀ (R : Type) (k : Abs.Rows → Int → Int → Int → Int → Int → Option R), Lp71_5 (m + 5) k long hi q (n + 1) r a b c j i = Lp71_5 (m + 5) k long hi q n r1 a1 b1 c1 (j + 1) i1 := by
      have A : ∀ (r1 : Abs.Rows), ArrOk r1 → r1.length ≤ r.length + 1 → ∀ (i0 : Int), i + 2 ≤ i0 → i0 ≤ i + 19 → ∃ (r2 : Abs.Rows) (i1 : Int), ArrOk r2 ∧ r2.length ≤ r1.length + 1 ∧ i0 ≤ i1 ∧ i1 ≤ i0 + 1 ∧ ∀ (R : Type) (k : Abs.Rows → Int → Option R),
          Jn71_20 (m + 5) k r1 (IntKind.wrap IntKind.i64 (a + 1)) (IntKind.wrap IntKind.i64 (b + long)) (IntKind.wrap IntKind.i64 (c + pk (Q5l long) q (i + 1 + t))) long hi j q i0 = k r2 i1 :=
        fun r1 hr1 hl1 i0 q0 q1 => jn71_20 (m + 2) hr1 (by omega) _ _ _ _ _ _ q (by omega) (by omega)
      have B : ∀ (z : Bool), (z = true → 0 < r.length) → ∀ (i0 : Int), ∃ (r1 : Abs.Rows) (b1 : Bool), ArrOk r1 ∧ r1.length = r.length + 1 ∧ ∀ (R : Type) (k : Abs.Rows → Bool → Option R),
          Jn71_17 (m + 5) k r (IntKind.wrap IntKind.i64 (a + 1)) (IntKind.wrap IntKind.i64 (b + long)) (IntKind.wrap IntKind.i64 (c + pk (Q5l long) q (i + 1 + t))) long 0 (Int.tmod a 65536) (Int.tmod b 4294967296) 7 false p hi j z q i0 = k r1 b1 :=
        fun z hz i0 => jn71_17 (m + 5) h6 (by omega) _ _ _ _ _ _ _ _ _ hp _ _ z q i0 hz
      by_cases f1 : nx q (i + 1 + t + 1) % 5 = 0
      · obtain ⟨r1, i1, g1, g2, g3, g4, g5⟩ := A r h6 (by omega) (i + 1 + t + 1 + 1) (by omega) (by omega)
        refine ⟨r1, IntKind.wrap IntKind.i64 (a + 1), IntKind.wrap IntKind.i64 (b + long), IntKind.wrap IntKind.i64 (c + pk (Q5l long) q (i + 1 + t)), i1, g1, by omega, by omega, by omega, fun R k => ?_⟩
        simp only [Lp71_5, Lp71_5_step]
        rw [dT (by omega), fn20 (m + 2) q _ h0 (by omega) (by simp) (by simp), hpl, fn20 (m + 2) q _ (by omega) (by omega) (by simp) (by simp), fn39 (m + 2) q (by omega) (by omega) (by omega) (by omega), beq_iff_eq.2 f1, bT rfl, g5, wj]
      · by_cases f2 : (r.length : Int) > 0
        · obtain ⟨r0, b0, e1, e2, e3⟩ := B (nx q (i + 1 + t + 1 + 1) % 5 == 0) (fun _ => by omega) (i + 1 + t + 1 + 1 + 1)
          obtain ⟨r1, i1, g1, g2, g3, g4, g5⟩ := A r0 e1 (by omega) (i + 1 + t + 1 + 1 + 1) (by omega) (by omega)
          refine ⟨r1, IntKind.wrap IntKind.i64 (a + 1), IntKind.wrap IntKind.i64 (b + long), IntKind.wrap IntKind.i64 (c + pk (Q5l long) q (i + 1 + t)), i1, g1, by omega, by omega, by omega, fun R k => ?_⟩
          simp only [Lp71_5, Lp71_5_step]
          rw [dT (by omega), fn20 (m + 2) q _ h0 (by omega) (by simp) (by simp), hpl, fn20 (m + 2) q _ (by omega) (by omega) (by simp) (by simp), fn39 (m + 2) q (by omega) (by omega) (by omega) (by omega), beq_false_of_ne f1, bF rfl, dT f2, fn39 (m + 2) q (by omega) (by omega) (by omega) (by omega), e3, g5, wj]
        · obtain ⟨r0, b0, e1, e2, e3⟩ := B false (fun h => by cases h) (i + 1 + t + 1 + 1)
          obtain ⟨r1, i1, g1, g2, g3, g4, g5⟩ := A r0 e1 (by omega) (i + 1 + t + 1 + 1) (by omega) (by omega)
          refine ⟨r1, IntKind.wrap IntKind.i64 (a + 1), IntKind.wrap IntKind.i64 (b + long), IntKind.wrap IntKind.i64 (c + pk (Q5l long) q (i + 1 + t)), i1, g1, by omega, by omega, by omega, fun R k => ?_⟩
          simp only [Lp71_5, Lp71_5_step]
          rw [dT (by omega), fn20 (m + 2) q _ h0 (by omega) (by simp) (by simp), hpl, fn20 (m + 2) q _ (by omega) (by omega) (by simp) (by simp), fn39 (m + 2) q (by omega) (by omega) (by omega) (by omega), beq_false_of_ne f1, bF rfl, dF f2, e3, g5, wj]
    obtain ⟨r1, a1, b1, c1, i1, g1, g2, g3, g4, g5⟩ := key
    obtain ⟨r', a', b', c', i', k1, k2, k3, k4, k5⟩ := lp71_5 m q long hh hm d n r1 a1 b1 c1 (j + 1) i1 (by omega) (by omega) (by omega) (by omega) (by omega) (by omega) g1
    exact ⟨r', a', b', c', i', k1, by omega, by omega, by omega, fun R k => by rw [g5, k5]⟩
end Go.Proofs.Ytjhfbmhblpjigaa.Med
end
section
set_option linter.unusedVariables false
set_option linter.unusedSimpArgs false
namespace Go.Proofs.Ytjhfbmhblpjigaa.Med
open Go Go.Abs Go.Proofs
set_option linter.unusedVariables false
set_option linter.unusedSimpArgs false
theorem fn71 (m : Nat) (q : Abs.Rows) {i most : Int} (h0 : 0 ≤ i) (h1 : i ≤ 1000) (hm0 : 0 ≤ most) (hm1 : most ≤ 90) (hm : 100 ≤ m) :
    ∃ (r' : Abs.Rows) (i' : Int), ArrOk r' ∧ (r'.length : Int) ≤ 2 * most ∧ i ≤ i' ∧ i' ≤ i + 20 * most + 10 ∧ ∀ (R : Type) (k : Abs.Rows → Int → Option R), Fn71 (m + 6) q i most k = k r' i' := by
  have a1 := Int.emod_nonneg (nx q (i + 1 + 1 + 1 + 1)) (show most - 0 + 1 ≠ 0 by omega)
  have a2 := Int.emod_lt_of_pos (nx q (i + 1 + 1 + 1 + 1)) (show 0 < most - 0 + 1 by omega)
  obtain ⟨d, hd⟩ := Int.eq_ofNat_of_zero_le a1
  have key : ∃ (a b c e : Int), ∀ (R : Type) (k : Abs.Rows → Int → Option R), Fn71 (m + 6) q i most k = Lp71_5 (m + 5) (fun r456 i457 i458 i459 i460 i461 => k r456 i461) e (0 + nx q (i + 1 + 1 + 1 + 1) % (most - 0 + 1)) q (m + 5) rows0 a b c 0 (i + 1 + 1 + 1 + 1 + 1) := by
    refine ⟨pk [[F.lit (Value.int IntKind.i64 (0 : Int))], [F.lit (Value.int IntKind.i64 (5 : Int))], [F.lit (Value.int IntKind.i64 (65533 : Int))]] q i, pk [[F.lit (Value.int IntKind.i64 (0 : Int))], [F.lit (Value.int IntKind.i64 (100 : Int))], [F.lit (Value.int IntKind.i64 (4294967096 : Int))]] q (i + 1), 0 + nx q (i + 1 + 1) % (50 - 0 + 1), pk [[F.lit (Value.int IntKind.i64 (8 : Int))], [F.lit (Value.int IntKind.i64 (80 : Int))], [F.lit (Value.int IntKind.i64 (160 : Int))]] q (i + 1 + 1 + 1), fun R k => ?_⟩
    simp only [Fn71]
    rw [fn20 (m + 2) q _ (by omega) (by omega) (by simp) (by simp), fn20 (m + 2) q _ (by omega) (by omega) (by simp) (by simp), fn21 (m + 2) q (by omega) (by omega) (by omega) (by omega) (by omega), fn20 (m + 2) q _ (by omega) (by omega) (by simp) (by simp), fn21 (m + 2) q (by omega) (by omega) (by omega) (by omega) (by omega)]
  obtain ⟨a, b, c, e, hk⟩ := key
  obtain ⟨r', a', b', c', i', k1, k2, k3, k4, k5⟩ := lp71_5 m q e (hi := 0 + nx q (i + 1 + 1 + 1 + 1) % (most - 0 + 1)) (by omega) (by omega) d (m + 5) rows0 a b c 0 (i + 1 + 1 + 1 + 1 + 1) (by omega) (by omega) (by omega) (by omega) (by omega) (by simp; omega) (fun x hx => by simp at hx)
  refine ⟨r', i', k1, ?_, by omega, by omega, fun R k => by rw [hk, k5]⟩
  simp at k2
  omega
theorem fn33 (m : Nat) (q : Abs.Rows) {i most : Int} (h0 : 0 ≤ i) (h1 : i ≤ 1000) (hm0 : 0 ≤ most) (hm1 : most ≤ 90) (hm : 100 ≤ m) :
    ∃ (r' : Abs.Rows) (i' : Int), ArrOk r' ∧ (r'.length : Int) ≤ 2 * most ∧ i ≤ i' ∧ i' ≤ i + 20 * most + 20 ∧ ∀ (R : Type) (k : Abs.Rows → Int → Option R), Fn33 (m + 7) q i most k = k r' i' := by
  obtain ⟨r, j, g1, g2, g3, g4, g5⟩ := fn71 m q h0 h1 hm0 hm1 hm
  have J : ∀ (b : Bool), (b = true → 0 < r.length) → ∀ (i0 : Int), 0 ≤ i0 → i0 ≤ 100000 → ∃ (r' : Abs.Rows) (b' : Bool) (i' : Int), ArrOk r' ∧ r'.length = r.length ∧ i0 ≤ i' ∧ i' ≤ i0 + 5 ∧ ∀ (R : Type) (k : Abs.Rows → Bool → Int → Option R), Jn33_2 (m + 6) k r b q i0 = k r' b' i' := by
    intro b hb i0 q0 q1
    cases b with
    | false => exact ⟨r, false, i0, g1, rfl, by omega, by omega, fun R k => rfl⟩
    | true =>
      have hl := hb rfl
      have b1 := Int.emod_nonneg (nx q i0) (show (r.length : Int) ≠ 0 by omega)
      have b2 := Int.emod_lt_of_pos (nx q i0) (show 0 < (r.length : Int) by omega)
      have b3 := Int.emod_nonneg (nx q (i0 + 1)) (show (4 : Int) ≠ 0 by omega)
      have st : ∀ (R : Type) (k : Abs.Rows → Bool → Int → Option R), Jn33_2 (m + 6) k r true q i0 = bif nx q (i0 + 1) % 4 == (0 : Int) then (Fn60 (m + 6) q (i0 + 1 + 1) ((0 : Int)) ((50 : Int)) (fun i476 i477 => k (stR tsA r (Int.toNat (nx q i0 % (r.length : Int))) (0 + 0) [F.lit (Value.int IntKind.i64 i476)]) true i477)) else
          (bif nx q (i0 + 1) % 4 == (1 : Int) then (Fn20 (m + 6) q (i0 + 1 + 1) ([[F.lit (Value.int IntKind.i64 (7 : Int))], [F.lit (Value.int IntKind.i64 (8 : Int))]]) (fun i478 i479 => k (stR tsA r (Int.toNat (nx q i0 % (r.length : Int))) (0 + 1 + 3) [F.lit (Value.int IntKind.i64 i478)]) true i479)) else
          (bif nx q (i0 + 1) % 4 == (2 : Int) then (Fn60 (m + 6) q (i0 + 1 + 1) ((0 : Int)) ((65535 : Int)) (fun i480 i481 => k (stR tsA r (Int.toNat (nx q i0 % (r.length : Int))) (0 + 1 + 1) [F.lit (Value.int IntKind.i64 i480)]) true i481)) else
          (Fn60 (m + 6) q (i0 + 1 + 1) ((0 : Int)) ((4294967295 : Int)) (fun i482 i483 => k (stR tsA r (Int.toNat (nx q i0 % (r.length : Int))) (0 + 1 + 2) [F.lit (Value.int IntKind.i64 i482)]) true i483)))) := by
        intro R k
        simp only [Jn33_2, cond_true]
        rw [fn59 (m + 4) q q0 (by omega) (by omega) (by omega), dT ⟨b1, b2⟩, fn59 (m + 4) q (by omega) (by omega) (by omega) (by omega)]
      by_cases c0 : nx q (i0 + 1) % 4 = 0
      · obtain ⟨v, i', h4, h5, h6⟩ := fn60 (m + 2) q 0 50 (i := i0 + 1 + 1) (by omega) (by omega) (by omega) (by omega) (by omega)
        exact ⟨_, _, i', g1.st0 _ _, stR_len _ _ _ _ _, by omega, by omega, fun R k => by rw [st, eT c0, h6]⟩
      by_cases c1 : nx q (i0 + 1) % 4 = 1
      · exact ⟨_, _, i0 + 1 + 1 + 1, g1.st3 _ _, stR_len _ _ _ _ _, by omega, by omega, fun R k => by rw [st, eF c0, eT c1, fn20 (m + 3) q _ (by omega) (by omega) (by simp) (by simp)]⟩
      by_cases c2 : nx q (i0 + 1) % 4 = 2
      · obtain ⟨v, i', h4, h5, h6⟩ := fn60 (m + 2) q 0 65535 (i := i0 + 1 + 1) (by omega) (by omega) (by omega) (by omega) (by omega)
        exact ⟨_, _, i', g1.st1 _ _, stR_len _ _ _ _ _, by omega, by omega, fun R k => by rw [st, eF c0, eF c1, eT c2, h6]⟩
      · obtain ⟨v, i', h4, h5, h6⟩ := fn60 (m + 2) q 0 4294967295 (i := i0 + 1 + 1) (by omega) (by omega) (by omega) (by omega) (by omega)
        exact ⟨_, _, i', g1.st2 _ _, stR_len _ _ _ _ _, by omega, by omega, fun R k => by rw [st, eF c0, eF c1, eF c2, h6]⟩
  by_cases hc : (r.length : Int) > 0
  · obtain ⟨r', b', i', e1, e2, e3, e4, e5⟩ := J (nx q j % 12 == 0) (fun _ => by omega) (j + 1) (by omega) (by omega)
    refine ⟨r', i', e1, by omega, by omega, by omega, fun R k => ?_⟩
    simp only [Fn33]
    rw [g5, dT hc, fn39 (m + 3) q (by omega) (by omega) (by omega) (by omega), e5]
  · obtain ⟨r', b', i', e1, e2, e3, e4, e5⟩ := J false (fun h => by cases h) j (by omega) (by omega)
    refine ⟨r', i', e1, by omega, by omega, by omega, fun R k => ?_⟩
    simp only [Fn33]
    rw [g5, dF hc, e5]
end Go.Proofs.Ytjhfbmhblpjigaa.Med
end
section
set_option linter.unusedVariables false
set_option linter.unusedSimpArgs false
namespace Go.Proofs.Ytjhfbmhblpjigaa.Med
open Go Go.Abs Go.Proofs
set_option linter.unusedVariables false
set_option linter.unusedSimpArgs false
theorem inT {x lo hi : Int} (m : Nat) {R : Type} (k : Bool → Option R) : Fn67 (m + 1) x lo hi k = k (decide (lo ≤ x ∧ x ≤ hi)) ∧ Fn63 (m + 1) x lo hi k = k (decide (lo ≤ x ∧ x ≤ hi)) := by
  constructor
  · simp only [Fn67]
    by_cases h : x ≥ lo
    · rw [dT h]; congr 1; simp; omega
    · rw [dF h]; congr 1; symm; simp; omega
  · simp only [Fn63]
    by_cases h : lo ≤ x
    · rw [dT h]; congr 1; simp; omega
    · rw [dF h]; congr 1; symm; simp; omega
/-- the fault of a packet -/
def pF (a b c d : Int) (p : Abs.Rows) : Int := if ¬(0 ≤ a ∧ a ≤ 127) ∨ ¬(0 ≤ b ∧ b ≤ 65535) ∨ ¬(0 ≤ c ∧ c ≤ 4294967295) ∨ ¬(0 ≤ d ∧ d ≤ 4294967295) then 1 else if (p.length : Int) > 1000 then 2 else 0
theorem fn16 (m : Nat) (a b c d : Int) (e : Bool) (p : Abs.Rows) {R : Type} (k : Int → Option R) : Fn16 (m + 2) a b c d e p k = k (pF a b c d p) ∧ Fn12 (m + 2) a b c d e p k = k (pF a b c d p) := by
  have j : ∀ (b : Bool) (kx0 : Int → Bool → Option R) (kx1 : Bool → Option R) (x y z u : Int) (v : Bool) (w : Int), Jn16_1 (m + 1) kx0 kx1 x y z u v p w b = (if b then kx0 1 true else if (p.length : Int) > 1000 then kx0 2 false else kx1 false) ∧
      Jn12_1 (m + 1) kx0 kx1 x y z u v p w b = (if b then kx0 1 true else if (p.length : Int) > 1000 then kx0 2 false else kx1 false) := by
    intro b kx0 kx1 x y z u v w
    simp only [Jn16_1, Jn12_1, Bool.cond_eq_ite, decide_eq_true_eq, and_self]
  unfold pF
  constructor
  · simp only [Fn16, (inT m _).1, (j _ _ _ _ _ _ _ _ _).1]
    by_cases h1 : 0 ≤ a ∧ a ≤ 127 <;> by_cases h2 : 0 ≤ b ∧ b ≤ 65535 <;> by_cases h3 : 0 ≤ c ∧ c ≤ 4294967295 <;> by_cases h4 : 0 ≤ d ∧ d ≤ 4294967295 <;> by_cases h5 : (p.length : Int) > 1000 <;> simp [h1, h2, h3, h4, h5]
  · simp only [Fn12, (inT m _).2, (j _ _ _ _ _ _ _ _ _).2]
    by_cases h1 : 0 ≤ a ∧ a ≤ 127 <;> by_cases h2 : 0 ≤ b ∧ b ≤ 65535 <;> by_cases h3 : 0 ≤ c ∧ c ≤ 4294967295 <;> by_cases h4 : 0 ≤ d ∧ d ≤ 4294967295 <;> by_cases h5 : (p.length : Int) > 1000 <;> simp [h1, h2, h3, h4, h5]
def momB (x : Int) : Bool := decide (0 ≤ x ∧ x ≤ 345686399999)
theorem fn79 (m : Nat) (x : Int) {R : Type} (k : Bool → Option R) : Fn79 (m + 2) x k = k (momB x) ∧ Fn73 (m + 2) x k = k (momB x) := by
  constructor
  · simp only [Fn79, momB]
    by_cases h : x ≥ 0
    · rw [dT h]; congr 1; rw [decide_eq_decide]; omega
    · rw [dF h]; congr 1; symm; rw [decide_eq_false_iff_not]; omega
  · simp only [Fn73]; rw [(inT m _).2]; rfl
/-- a packet that was found right -/
def RowOk (r : Abs.Rows) (j : Nat) : Prop := 0 ≤ fI r j 0 ∧ fI r j 0 ≤ 345686399999 ∧ 0 ≤ fI r j 2 ∧ fI r j 2 ≤ 65535
/-- the faults of arrivals: found alike -/
theorem lp49 (r : Abs.Rows) (hl : (r.length : Int) ≤ 2000) : ∀ (d i : Nat), i + d = r.length →
    (∃ v j : Int, v ≠ 0 ∧ ∀ (m n : Nat), d ≤ n → ∀ (R : Type) (kx0 : Int → Int → Option R) (kx1 : Int → Option R) (z : Int), Lp49_5 (m + 3) kx0 kx1 r z r r.length (n + 1) i = kx0 v j ∧ Lp36_5 (m + 3) kx0 kx1 r z r r.length (n + 1) i = kx0 v j) ∨
    (∀ j, i ≤ j → j < r.length → RowOk r j) ∧ ∀ (m n : Nat), d ≤ n → ∀ (R : Type) (kx0 : Int → Int → Option R) (kx1 : Int → Option R) (z : Int), Lp49_5 (m + 3) kx0 kx1 r z r r.length (n + 1) i = kx1 r.length ∧ Lp36_5 (m + 3) kx0 kx1 r z r r.length (n + 1) i = kx1 r.length
  | 0, i, h1 => by
    right
    refine ⟨fun j hj hj2 => by omega, ?_⟩
    intro m n h2 R kx0 kx1 z
    have : (i : Int) = r.length := by omega
    simp only [Lp49_5, Lp49_5_step, Lp36_5, Lp36_5_step]
    rw [dF (by omega), dF (by omega), this]
    exact ⟨rfl, rfl⟩
  | d + 1, i, h1 => by
    have e : Int.toNat (i : Int) = i := by omega
    have e2 : IntKind.wrap IntKind.i64 ((i : Int) + 1) = ((i + 1 : Nat) : Int) := by rw [w64 (by omega) (by omega)]; omega
    have e3 : IntKind.wrap IntKind.i64 ((i : Int) - 1) = (i : Int) - 1 := w64 (by omega) (by omega)
    by_cases c1 : momB (fI r i 0) = true
    rotate_left
    · left
      refine ⟨1, i, by decide, fun m n h2 R kx0 kx1 z => ?_⟩
      simp only [Lp49_5, Lp49_5_step, Lp36_5, Lp36_5_step, e]
      have c1' := Bool.eq_false_iff.2 c1
      constructor
      · rw [dT (by omega), dT (by omega), (fn79 (m + 1) _ _).1, c1', Bool.not_false, bT rfl]
      · rw [dT (by omega), dT (by omega), (fn79 (m + 1) _ _).2, c1', Bool.not_false, bT rfl]
    by_cases c2 : pF (fI r i 1) (fI r i 2) (fI r i 3) (fI r i 4) (fR r i 6) = 0
    rotate_left
    · left
      refine ⟨pF (fI r i 1) (fI r i 2) (fI r i 3) (fI r i 4) (fR r i 6), i, c2, fun m n h2 R kx0 kx1 z => ?_⟩
      simp only [Lp49_5, Lp49_5_step, Lp36_5, Lp36_5_step, e]
      rw [dT (by omega), dT (by omega), (fn79 (m + 1) _ _).1, c1, Bool.not_true, bF rfl, (fn16 (m + 1) _ _ _ _ _ _ _).1, nT c2, dT (by omega), dT (by omega), (fn79 (m + 1) _ _).2, c1, Bool.not_true, bF rfl, (fn16 (m + 1) _ _ _ _ _ _ _).2, nT c2]
      exact ⟨rfl, rfl⟩
    have st : ∀ (m n : Nat) (h2 : d + 1 ≤ n) (R : Type) (kx0 : Int → Int → Option R) (kx1 : Int → Option R) (z : Int), (Lp49_5 (m + 3) kx0 kx1 r z r r.length (n + 1) i = if (0 < i ∧ fI r i 0 < fI r (i - 1) 0) then kx0 7 i else if fI r i 4 ≠ fI r 0 4 then kx0 13 i else Lp49_5 (m + 3) kx0 kx1 r z r r.length n ((i + 1 : Nat) : Int)) ∧
        (Lp36_5 (m + 3) kx0 kx1 r z r r.length (n + 1) i = if (0 < i ∧ fI r i 0 < fI r (i - 1) 0) then kx0 7 i else if fI r i 4 ≠ fI r 0 4 then kx0 13 i else Lp36_5 (m + 3) kx0 kx1 r z r r.length n ((i + 1 : Nat) : Int)) := by
      intro m n h2 R kx0 kx1 z
      have e4 : 0 < i → Int.toNat ((i : Int) - 1) = i - 1 := fun h => by omega
      constructor
      · simp only [Lp49_5, Lp49_5_step, e, e2, e3]
        rw [dT (by omega), dT (by omega), (fn79 (m + 1) _ _).1, c1, Bool.not_true, bF rfl, (fn16 (m + 1) _ _ _ _ _ _ _).1, nF c2]
        by_cases hi : 0 < i
        · rw [dT (by omega), dT (by omega), e4 hi]
          by_cases c3 : fI r i 0 < fI r (i - 1) 0
          · rw [dT c3, if_pos ⟨hi, c3⟩]
          · rw [dF c3, if_neg (by simp [c3])]
            simp only [Jn49_18, Int.toNat_zero]
            rw [dT (by omega)]
            by_cases c4 : fI r i 4 = fI r 0 4
            · rw [nF c4, if_neg (by simp [c4])]
            · rw [nT c4, if_pos c4]
        · rw [dF (by omega), if_neg (by simp [hi])]
          simp only [Jn49_18, Int.toNat_zero]
          rw [dT (by omega)]
          by_cases c4 : fI r i 4 = fI r 0 4
          · rw [nF c4, if_neg (by simp [c4])]
          · rw [nT c4, if_pos c4]
      · simp only [Lp36_5, Lp36_5_step, e, e2, e3]
        rw [dT (by omega), dT (by omega), (fn79 (m + 1) _ _).2, c1, Bool.not_true, bF rfl, (fn16 (m + 1) _ _ _ _ _ _ _).2, nF c2]
        by_cases hi : 0 < i
        · rw [dT (by omega), dT (by omega), e4 hi]
          simp only [Jn36_16, Int.toNat_zero]
          by_cases c3 : fI r i 0 < fI r (i - 1) 0
          · rw [dT c3, if_pos ⟨hi, c3⟩]
          · rw [dF c3, if_neg (by simp [c3])]
            rw [dT (by omega)]
            by_cases c4 : fI r i 4 = fI r 0 4
            · rw [nF c4, if_neg (by simp [c4])]
            · rw [nT c4, if_pos c4]
        · rw [dF (by omega), if_neg (by simp [hi])]
          simp only [Jn36_16, cond_false, Int.toNat_zero]
          rw [dT (by omega)]
          by_cases c4 : fI r i 4 = fI r 0 4
          · rw [nF c4, if_neg (by simp [c4])]
          · rw [nT c4, if_pos c4]
    by_cases c3 : 0 < i ∧ fI r i 0 < fI r (i - 1) 0
    · left
      refine ⟨7, i, by decide, fun m n h2 R kx0 kx1 z => ?_⟩
      rw [(st m n h2 R kx0 kx1 z).1, (st m n h2 R kx0 kx1 z).2, if_pos c3, if_pos c3]
      exact ⟨rfl, rfl⟩
    by_cases c4 : fI r i 4 ≠ fI r 0 4
    · left
      refine ⟨13, i, by decide, fun m n h2 R kx0 kx1 z => ?_⟩
      rw [(st m n h2 R kx0 kx1 z).1, (st m n h2 R kx0 kx1 z).2, if_neg c3, if_neg c3, if_pos c4, if_pos c4]
      exact ⟨rfl, rfl⟩
    · rcases lp49 r hl d (i + 1) (by omega) with ⟨v, j, hv, h⟩ | ⟨hok, h⟩
      · left
        refine ⟨v, j, hv, fun m n h2 R kx0 kx1 z => ?_⟩
        rw [(st m n h2 R kx0 kx1 z).1, (st m n h2 R kx0 kx1 z).2, if_neg c3, if_neg c3, if_neg c4, if_neg c4]
        obtain ⟨n', rfl⟩ : ∃ n', n = n' + 1 := ⟨n - 1, by omega⟩
        exact h m n' (by omega) R kx0 kx1 z
      · right
        refine ⟨fun j hj hj2 => ?_, ?_⟩
        · by_cases hij : i = j
          · subst hij
            have q1 : 0 ≤ fI r i 0 ∧ fI r i 0 ≤ 345686399999 := by simpa [momB] using c1
            refine ⟨q1.1, q1.2, ?_⟩
            unfold pF at c2
            split at c2
            · cases c2
            · rename_i hn
              simp only [not_or, Classical.not_not] at hn
              exact hn.2.1
          · exact hok j (by omega) hj2
        intro m n h2 R kx0 kx1 z
        rw [(st m n h2 R kx0 kx1 z).1, (st m n h2 R kx0 kx1 z).2, if_neg c3, if_neg c3, if_neg c4, if_neg c4]
        obtain ⟨n', rfl⟩ : ∃ n', n = n' + 1 := ⟨n - 1, by omega⟩
        exact h m n' (by omega) R kx0 kx1 z
theorem fn49 (r : Abs.Rows) : ∃ v : Int, (v = 0 → (r.length : Int) ≤ 2000 ∧ ∀ j, j < r.length → RowOk r j) ∧ ∀ (m : Nat), r.length < m → ∀ (R : Type) (k : Int → Option R), Fn49 (m + 4) r k = k v ∧ Fn36 (m + 4) r k = k v := by
  by_cases h : (r.length : Int) > 2000
  · refine ⟨2, fun h => by omega, fun m hm R k => ?_⟩
    simp only [Fn49, Fn36]
    rw [dT h, dT h]
    exact ⟨rfl, rfl⟩
  · rcases lp49 r (by omega) r.length 0 (by omega) with ⟨v, j, hv, g⟩ | ⟨hok, g⟩
    · refine ⟨v, fun h => (hv h).elim, fun m hm R k => ?_⟩
      simp only [Fn49, Fn36]
      rw [dF h, dF h]
      exact g m (m + 2) (by omega) R _ _ 0
    · refine ⟨0, fun _ => ⟨by omega, fun j hj => hok j (by omega) hj⟩, fun m hm R k => ?_⟩
      simp only [Fn49, Fn36]
      rw [dF h, dF h]
      exact g m (m + 2) (by omega) R _ _ 0
end Go.Proofs.Ytjhfbmhblpjigaa.Med
end
section
set_option linter.unusedVariables false
set_option linter.unusedSimpArgs false
namespace Go.Proofs.Ytjhfbmhblpjigaa.Med
open Go Go.Abs Go.Proofs
set_option linter.unusedVariables false
set_option linter.unusedSimpArgs false
theorem and32 (x : Int) : bitsOp IntKind.i64 (BitVec.ofInt (64 : Nat) x &&& BitVec.ofInt (64 : Nat) (4294967295 : Int)) = x % 4294967296 := by
  have h1 : (BitVec.ofInt 64 x &&& BitVec.ofInt 64 (4294967295 : Int)).toNat = ((x % 4294967296).toNat) := by
    rw [BitVec.toNat_and, BitVec.toNat_ofInt, BitVec.toNat_ofInt]
    rw [show ((4294967295 : Int) % ((2 ^ 64 : Nat) : Int)).toNat = 2 ^ 32 - 1 from rfl, Nat.and_two_pow_sub_one_eq_mod]
    have : ((2 ^ 64 : Nat) : Int) = 18446744073709551616 := rfl
    rw [this]
    omega
  have h2 : bitsOp IntKind.i64 (BitVec.ofInt (64 : Nat) x &&& BitVec.ofInt (64 : Nat) (4294967295 : Int)) = IntKind.wrap .i64 (((x % 4294967296).toNat : Nat) : Int) := congrArg (fun n : Nat => IntKind.wrap .i64 (n : Int)) h1
  rw [h2, w64 (by omega) (by omega)]
  omega
/-- the difference of two times -/
def tA (a b : Int) : Int := if (a - b) % 4294967296 ≥ 2147483648 then (a - b) % 4294967296 - 4294967296 else (a - b) % 4294967296
theorem tA_b (a b : Int) : -2147483648 ≤ tA a b ∧ tA a b < 2147483648 := by unfold tA; split <;> omega
theorem fn72 (m : Nat) (a b : Int) {R : Type} (k : Int → Option R) : Fn72 (m + 1) a b k = k (tA a b) ∧ Fn74 (m + 1) a b k = k (tA a b) := by
  have hw : IntKind.wrap .i64 (a - b) % 4294967296 = (a - b) % 4294967296 := by rw [IntKind.wrap_i64]; omega
  constructor
  · simp only [Fn72, and32, hw, tA]
    by_cases h : (a - b) % 4294967296 ≥ 2147483648
    · rw [dT h, if_pos h, w64 (by omega) (by omega)]
    · rw [dF h, if_neg h]
  · simp only [Fn74, tA]
    congr 1
    rw [w64 (by rw [IntKind.wrap_i32]; omega) (by rw [IntKind.wrap_i32]; omega), IntKind.wrap_i32, IntKind.wrap_u32, IntKind.wrap_u32, IntKind.wrap_u32]
    split <;> omega
theorem fn75 (m : Nat) {x : Int} (h0 : -2147483648 ≤ x) (h1 : x < 2147483648) {R : Type} (k : Int → Option R) : Fn75 (m + 1) x 8 k = k (Int.fdiv x ((2 : Int) ^ min (Int.toNat (3 : Int)) (64 : Nat))) := by
  have e : Int.fdiv x ((2 : Int) ^ min (Int.toNat (3 : Int)) (64 : Nat)) = x / 8 := Int.fdiv_eq_ediv_of_nonneg _ (by decide)
  rw [e]
  simp only [Fn75]
  rw [dT (by decide)]
  by_cases hx : 0 ≤ x
  · rw [tm_pos hx, td_pos hx, dF (by omega), dT (by decide), w64 (by omega) (by omega)]
  · have h3 : Int.tdiv x 8 = -((-x) / 8) := by
      rw [← Int.neg_neg x, Int.neg_tdiv, Int.neg_neg, td_pos (by omega)]
    have h4 : Int.tmod x 8 = -((-x) % 8) := by
      rw [← Int.neg_neg x, Int.neg_tmod, Int.neg_neg, tm_pos (by omega)]
    rw [h3, h4]
    by_cases h5 : -(-x % 8) < 0
    · rw [dT h5, dT (by decide), w64 (x := -(-x / 8)) (by omega) (by omega), w64 (by omega) (by omega)]
      congr 1
      omega
    · rw [dF h5, dT (by decide), w64 (by omega) (by omega)]
      congr 1
      omega
theorem lp38 (m : Nat) (r : Abs.Rows) {R : Type} (kx0 : Bool → Int → Option R) (kx1 : Int → Option R) (hl : (r.length : Int) ≤ 1073741824) : ∀ (d n : Nat) (i : Int), 0 ≤ i → i + d = r.length → d < n → Lp38_5 m kx0 kx1 r r false r.length n i = kx1 r.length
  | d, 0, i, h0, h1, h2 => by omega
  | 0, n + 1, i, h0, h1, h2 => by
    simp only [Lp38_5, Lp38_5_step]
    rw [dF (by omega)]
    congr 1; omega
  | d + 1, n + 1, i, h0, h1, h2 => by
    simp only [Lp38_5, Lp38_5_step]
    rw [dT (by omega), dT (by omega), dT (by omega), nF rfl, w64 (by omega) (by omega)]
    exact lp38 m r kx0 kx1 hl d n (i + 1) (by omega) (by omega) (by omega)
theorem fn38 (m : Nat) (r : Abs.Rows) {R : Type} (k : Bool → Option R) (hl : (r.length : Int) ≤ 1073741824) (hm : r.length < m) : Fn38 (m + 1) r r k = k true := by
  simp only [Fn38]
  rw [nF rfl, lp38 m r _ _ hl r.length m 0 (by omega) (by omega) hm]
end Go.Proofs.Ytjhfbmhblpjigaa.Med
end
section
set_option linter.unusedVariables false
set_option linter.unusedSimpArgs false
namespace Go.Proofs.Ytjhfbmhblpjigaa.Med
open Go Go.Abs Go.Proofs
set_option linter.unusedVariables false
set_option linter.unusedSimpArgs false
/-! the long numbers -/
/-- a list of numbers, as it lies -/
def nums (xs : List Int) : Abs.Rows := xs.map fun x => [F.lit (Value.int IntKind.i64 x)]
theorem nums_len (xs : List Int) : (nums xs).length = xs.length := by simp [nums]
theorem nums_fI (xs : List Int) (j : Nat) : fI (nums xs) j 0 = xs.getD j 0 := by
  show F.toInt ((Abs.rowAt (nums xs) j).headD default) = _
  unfold Abs.rowAt nums
  rw [List.getD_eq_getElem?_getD, List.getD_eq_getElem?_getD, List.getElem?_map]
  cases xs[j]? <;> rfl
theorem nums_app (xs : List Int) (x : Int) : nums xs ++ [[F.lit (Value.int IntKind.i64 x)]] = nums (xs ++ [x]) := by simp [nums]
theorem and16 (x : Int) : bitsOp IntKind.i64 (BitVec.ofInt (64 : Nat) x &&& BitVec.ofInt (64 : Nat) (65535 : Int)) = x % 65536 := by
  have h1 : (BitVec.ofInt 64 x &&& BitVec.ofInt 64 (65535 : Int)).toNat = ((x % 65536).toNat) := by
    rw [BitVec.toNat_and, BitVec.toNat_ofInt, BitVec.toNat_ofInt]
    rw [show ((65535 : Int) % ((2 ^ 64 : Nat) : Int)).toNat = 2 ^ 16 - 1 from rfl, Nat.and_two_pow_sub_one_eq_mod]
    have : ((2 ^ 64 : Nat) : Int) = 18446744073709551616 := rfl
    rw [this]
    omega
  have h2 : bitsOp IntKind.i64 (BitVec.ofInt (64 : Nat) x &&& BitVec.ofInt (64 : Nat) (65535 : Int)) = IntKind.wrap .i64 (((x % 65536).toNat : Nat) : Int) := congrArg (fun n : Nat => IntKind.wrap .i64 (n : Int)) h1
  rw [h2, w64 (by omega) (by omega)]
  omega
/-- of all numbers like one, the nearest to another one; of two the greater one -/
def nearV (g s : Int) : Int := if (s - g) % 65536 > 32768 then g + ((s - g) % 65536 - 65536) else g + (s - g) % 65536
theorem fn95 (m : Nat) {g s : Int} (h0 : 0 ≤ g) (h1 : g ≤ 1000000000000) (h2 : 0 ≤ s) (h3 : s ≤ 65535) {R : Type} (k : Int → Option R) : Fn95 (m + 1) g s 65536 k = k (nearV g s) := by
  have e1 : IntKind.wrap .i64 (s - g) = s - g := w64 (by omega) (by omega)
  have e2 : IntKind.wrap .i64 ((65536 : Int) - 1) = 65535 := by rw [w64 (by omega) (by omega)]; rfl
  have e3 : IntKind.wrap .i64 (Int.tdiv (65536 : Int) 2) = 32768 := by rw [show Int.tdiv (65536 : Int) 2 = 32768 from rfl, w64 (by omega) (by omega)]
  simp only [Fn95, e1, e2, e3, and16, nearV]
  by_cases h : (s - g) % 65536 > 32768
  · rw [dT h, if_pos h, w64 (x := (s - g) % 65536 - 65536) (by omega) (by omega), w64 (by omega) (by omega)]
  · rw [dF h, if_neg h, w64 (by omega) (by omega)]
/-- the one that is found among three -/
theorem lp50_13 (m : Nat) {g s : Int} (h0 : 0 ≤ g) (h1 : g ≤ 1000000000000) (h2 : 0 ≤ s) (h3 : s ≤ 65535) (n : Nat) {R : Type} (kx0 : Int → Int → Option R) (a b : Abs.Rows) (x y z : Int) (c : Abs.Rows) :
    ∃ j : Int, Lp50_13 m kx0 a b g x c y z [[F.lit (Value.int IntKind.i64 (g - g % 65536 + s - 65536))], [F.lit (Value.int IntKind.i64 (g - g % 65536 + s + 65536))]] 2 (n + 3) (g - g % 65536 + s) 0 = kx0 (nearV g s) j := by
  have f0 : ∀ A B : Int, fI [[F.lit (Value.int IntKind.i64 A)], [F.lit (Value.int IntKind.i64 B)]] 0 0 = A := fun _ _ => rfl
  have f1 : ∀ A B : Int, fI [[F.lit (Value.int IntKind.i64 A)], [F.lit (Value.int IntKind.i64 B)]] 1 0 = B := fun _ _ => rfl
  have ln : ∀ A B : Int, (List.length [[F.lit (Value.int IntKind.i64 A)], [F.lit (Value.int IntKind.i64 B)]] : Int) = 2 := fun _ _ => rfl
  refine ⟨2, ?_⟩
  have S0 : ∀ (n : Nat) (v : Int), 0 ≤ v → v ≤ 2000000000000 → Lp50_13 m kx0 a b g x c y z [[F.lit (Value.int IntKind.i64 (g - g % 65536 + s - 65536))], [F.lit (Value.int IntKind.i64 (g - g % 65536 + s + 65536))]] 2 (n + 1) v 0 =
      Lp50_13 m kx0 a b g x c y z [[F.lit (Value.int IntKind.i64 (g - g % 65536 + s - 65536))], [F.lit (Value.int IntKind.i64 (g - g % 65536 + s + 65536))]] 2 n (if (max (g - (g - g % 65536 + s - 65536)) (g - g % 65536 + s - 65536 - g) < max (g - v) (v - g)) ∨ (max (g - (g - g % 65536 + s - 65536)) (g - g % 65536 + s - 65536 - g) = max (g - v) (v - g) ∧ g - g % 65536 + s - 65536 > v) then g - g % 65536 + s - 65536 else v) 1 := by
    intro n v hv1 hv2
    simp only [Lp50_13, Lp50_13_step, ln, Int.toNat_zero, f0]
    rw [dT (by omega), dT (by omega)]
    rw [w64 (x := g - (g - g % 65536 + s - 65536)) (by omega) (by omega), w64 (x := g - g % 65536 + s - 65536 - g) (by omega) (by omega), w64 (x := g - v) (by omega) (by omega), w64 (x := v - g) (by omega) (by omega), w64 (x := (0 : Int) + 1) (by omega) (by omega)]
    by_cases c1 : max (g - (g - g % 65536 + s - 65536)) (g - g % 65536 + s - 65536 - g) < max (g - v) (v - g)
    · rw [dT (by omega), if_pos (.inl c1)]; rfl
    · rw [dF (by omega)]
      by_cases c2 : max (g - (g - g % 65536 + s - 65536)) (g - g % 65536 + s - 65536 - g) = max (g - v) (v - g)
      · rw [eT (by omega)]
        by_cases c3 : g - g % 65536 + s - 65536 > v
        · rw [dT c3, if_pos (.inr ⟨c2, c3⟩)]; rfl
        · rw [dF c3, if_neg (by omega)]; rfl
      · rw [eF (by omega), if_neg (by omega)]; rfl
  have S1 : ∀ (n : Nat) (v : Int), -100000 ≤ v → v ≤ 2000000000000 → Lp50_13 m kx0 a b g x c y z [[F.lit (Value.int IntKind.i64 (g - g % 65536 + s - 65536))], [F.lit (Value.int IntKind.i64 (g - g % 65536 + s + 65536))]] 2 (n + 1) v 1 =
      Lp50_13 m kx0 a b g x c y z [[F.lit (Value.int IntKind.i64 (g - g % 65536 + s - 65536))], [F.lit (Value.int IntKind.i64 (g - g % 65536 + s + 65536))]] 2 n (if (max (g - (g - g % 65536 + s + 65536)) (g - g % 65536 + s + 65536 - g) < max (g - v) (v - g)) ∨ (max (g - (g - g % 65536 + s + 65536)) (g - g % 65536 + s + 65536 - g) = max (g - v) (v - g) ∧ g - g % 65536 + s + 65536 > v) then g - g % 65536 + s + 65536 else v) 2 := by
    intro n v hv1 hv2
    simp only [Lp50_13, Lp50_13_step, ln, show Int.toNat (1 : Int) = 1 from rfl, f1]
    rw [dT (by omega), dT (by omega)]
    rw [w64 (x := g - (g - g % 65536 + s + 65536)) (by omega) (by omega), w64 (x := g - g % 65536 + s + 65536 - g) (by omega) (by omega), w64 (x := g - v) (by omega) (by omega), w64 (x := v - g) (by omega) (by omega), w64 (x := (1 : Int) + 1) (by omega) (by omega)]
    by_cases c1 : max (g - (g - g % 65536 + s + 65536)) (g - g % 65536 + s + 65536 - g) < max (g - v) (v - g)
    · rw [dT (by omega), if_pos (.inl c1)]; rfl
    · rw [dF (by omega)]
      by_cases c2 : max (g - (g - g % 65536 + s + 65536)) (g - g % 65536 + s + 65536 - g) = max (g - v) (v - g)
      · rw [eT (by omega)]
        by_cases c3 : g - g % 65536 + s + 65536 > v
        · rw [dT c3, if_pos (.inr ⟨c2, c3⟩)]; rfl
        · rw [dF c3, if_neg (by omega)]; rfl
      · rw [eF (by omega), if_neg (by omega)]; rfl
  rw [S0 (n + 2) _ (by omega) (by omega), S1 (n + 1) _ (by split <;> omega) (by split <;> omega)]
  simp only [Lp50_13, Lp50_13_step]
  rw [dF (by omega)]
  congr 1
  unfold nearV
  omega
end Go.Proofs.Ytjhfbmhblpjigaa.Med
end
section
set_option linter.unusedVariables false
set_option linter.unusedSimpArgs false
namespace Go.Proofs.Ytjhfbmhblpjigaa.Med
open Go Go.Abs Go.Proofs
set_option linter.unusedVariables false
set_option linter.unusedSimpArgs false
def nextV (i : Nat) (g s : Int) : Int := if i = 0 then s + 65536 else nearV g s
theorem jn78 (m : Nat) {R : Type} (kx0 : Abs.Rows → Int → Option R) (a : Abs.Rows) (xs : List Int) (hl : xs.length ≤ 2000) (g v : Int) (b : Abs.Rows) (c d : Int) : Jn78_10 m kx0 a (nums xs) g v b c d = kx0 (nums (xs ++ [v])) (if v > g then v else g) := by
  simp only [Jn78_10]
  rw [dT (by rw [nums_len]; simp [rowMax]; omega)]
  simp only [letV, nums_app]
theorem jn50 (m : Nat) {R : Type} (kx0 : Abs.Rows → Int → Option R) (a : Abs.Rows) (xs : List Int) (hl : xs.length ≤ 2000) (g v : Int) (b : Abs.Rows) (c d i : Int) (h : i = 0 → v > g) : Jn50_20 m kx0 a (nums xs) g i v b c d = kx0 (nums (xs ++ [v])) (if v > g then v else g) := by
  have hr : List.length (nums xs) + List.length [[F.lit (Value.int IntKind.i64 v)]] ≤ rowMax := by rw [nums_len]; simp [rowMax]; omega
  simp only [Jn50_20]
  by_cases hi : i = 0
  · rw [eT hi, dT hr, if_pos (h hi)]
    simp only [letV, nums_app]
  · rw [eF hi]
    by_cases hv : v > g
    · rw [dT hv, dT hr, if_pos hv]
      simp only [letV, nums_app]
    · rw [dF hv, dT hr, if_neg hv]
      simp only [letV, nums_app]
theorem lpN {r : Abs.Rows} (hl : (r.length : Int) ≤ 2000) (hr : ∀ j, j < r.length → RowOk r j) : ∀ (d i : Nat) (xs : List Int) (g : Int), i + d = r.length → xs.length = i → 0 ≤ g → g ≤ 200000 + 40000 * i → (i = 0 → g = 0) →
    (∀ x ∈ xs, -40000 ≤ x ∧ x ≤ 1000000000) →
    ∃ (ys : List Int) (g' : Int), ys.length = r.length ∧ (∀ x ∈ ys, -40000 ≤ x ∧ x ≤ 1000000000) ∧ ∀ (m n : Nat), d ≤ n → ∀ (R : Type) (kx0 : Abs.Rows → Int → Int → Option R),
      Lp78_4 (m + 3) kx0 r r r.length (n + 1) (nums xs) g i = kx0 (nums ys) g' r.length ∧ Lp50_4 (m + 3) kx0 r r r.length (n + 1) (nums xs) g i = kx0 (nums ys) g' r.length
  | 0, i, xs, g, h1, h2, h3, h4, h5, h6 => by
    refine ⟨xs, g, by omega, h6, fun m n hn R kx0 => ?_⟩
    have : (i : Int) = r.length := by omega
    simp only [Lp78_4, Lp78_4_step, Lp50_4, Lp50_4_step]
    rw [dF (by omega), dF (by omega), this]
    exact ⟨rfl, rfl⟩
  | d + 1, i, xs, g, h1, h2, h3, h4, h5, h6 => by
    have e : Int.toNat (i : Int) = i := by omega
    have e2 : IntKind.wrap IntKind.i64 ((i : Int) + 1) = ((i + 1 : Nat) : Int) := by rw [w64 (by omega) (by omega)]; omega
    obtain ⟨q1, q2, q3, q4⟩ := hr i (by omega)
    have b1 : nearV g (fI r i 2) ≤ g + 32768 ∧ g - 32768 ≤ nearV g (fI r i 2) := by unfold nearV; omega
    have b2 : nextV i g (fI r i 2) ≤ 200000 + 40000 * (i + 1 : Nat) ∧ -40000 ≤ nextV i g (fI r i 2) := by unfold nextV; split <;> omega
    have st : ∀ (m n : Nat) (R : Type) (kx0 : Abs.Rows → Int → Int → Option R),
        Lp78_4 (m + 3) kx0 r r r.length (n + 1) (nums xs) g i = Lp78_4 (m + 3) kx0 r r r.length n (nums (xs ++ [nextV i g (fI r i 2)])) (if nextV i g (fI r i 2) > g then nextV i g (fI r i 2) else g) ((i + 1 : Nat) : Int) ∧
        Lp50_4 (m + 3) kx0 r r r.length (n + 1) (nums xs) g i = Lp50_4 (m + 3) kx0 r r r.length n (nums (xs ++ [nextV i g (fI r i 2)])) (if nextV i g (fI r i 2) > g then nextV i g (fI r i 2) else g) ((i + 1 : Nat) : Int) := by
      intro m n R kx0
      by_cases hi : i = 0
      · have hv : nextV i g (fI r i 2) = fI r i 2 + 65536 := by unfold nextV; rw [if_pos hi]
        have hw : IntKind.wrap IntKind.i64 (fI r i 2 + 65536) = fI r i 2 + 65536 := w64 (by omega) (by omega)
        constructor
        · simp only [Lp78_4, Lp78_4_step, e, e2]
          rw [dT (by omega), dT (by omega), dF (by omega), hw, hv, jn78 _ _ _ _ (by omega)]
        · simp only [Lp50_4, Lp50_4_step, e, e2]
          rw [dT (by omega), dT (by omega), dF (by omega), hw, hv, jn50 _ _ _ _ (by omega) _ _ _ _ _ _ (by omega)]
      · have hv : nextV i g (fI r i 2) = nearV g (fI r i 2) := by unfold nextV; rw [if_neg hi]
        constructor
        · simp only [Lp78_4, Lp78_4_step, e, e2]
          rw [dT (by omega), dT (by omega), dT (by omega), fn95 (m + 2) h3 (by omega) q3 q4, hv, jn78 _ _ _ _ (by omega)]
        · have ht : Int.tmod g 65536 = g % 65536 := tm_pos h3
          simp only [Lp50_4, Lp50_4_step, e, e2, ht]
          rw [dT (by omega), dT (by omega), dT (by omega), w64 (x := g - g % 65536) (by omega) (by omega), w64 (x := g - g % 65536 + fI r i 2) (by omega) (by omega), w64 (x := g - g % 65536 + fI r i 2 - 65536) (by omega) (by omega), w64 (x := g - g % 65536 + fI r i 2 + 65536) (by omega) (by omega)]
          obtain ⟨j, hj⟩ := lp50_13 (m + 3) h3 (by omega) q3 q4 m (fun i528 i529 => Jn50_20 (m + 3) (fun r543 i544 => Lp50_4 (m + 3) kx0 r r r.length n r543 i544 ((i + 1 : Nat) : Int)) r (nums xs) g i i528 r r.length i) r (nums xs) i r.length i r
          refine Eq.trans ?_ (hj.trans ?_)
          · rfl
          · rw [jn50 _ _ _ _ (by omega) _ _ _ _ _ _ (by omega), hv]
    obtain ⟨ys, g', k1, k2, k3⟩ := lpN hl hr d (i + 1) (xs ++ [nextV i g (fI r i 2)]) (if nextV i g (fI r i 2) > g then nextV i g (fI r i 2) else g) (by omega) (by simp [h2]) (by split <;> omega) (by split <;> omega) (by omega) (fun x hx => by
      simp only [List.mem_append, List.mem_singleton] at hx
      rcases hx with hx | rfl
      · exact h6 x hx
      · omega)
    refine ⟨ys, g', k1, k2, fun m n hn R kx0 => ?_⟩
    obtain ⟨n', rfl⟩ : ∃ n', n = n' + 1 := ⟨n - 1, by omega⟩
    rw [(st m (n' + 1) R kx0).1, (st m (n' + 1) R kx0).2]
    exact k3 m n' (by omega) R kx0
theorem fn78 {r : Abs.Rows} (hl : (r.length : Int) ≤ 2000) (hr : ∀ j, j < r.length → RowOk r j) : ∃ xs : List Int, xs.length = r.length ∧ (∀ x ∈ xs, -40000 ≤ x ∧ x ≤ 1000000000) ∧ ∀ (m : Nat), 2100 ≤ m → ∀ (R : Type) (k : Abs.Rows → Option R), Fn78 (m + 1) r k = k (nums xs) ∧ Fn50 (m + 1) r k = k (nums xs) := by
  obtain ⟨ys, g', k1, k2, k3⟩ := lpN hl hr r.length 0 [] 0 (by omega) rfl (by omega) (by omega) (by omega) (by simp)
  refine ⟨ys, k1, k2, fun m hm R k => ?_⟩
  obtain ⟨m', rfl⟩ : ∃ m', m = m' + 3 := ⟨m - 3, by omega⟩
  simp only [Fn78, Fn50]
  exact ⟨(k3 m' (m' + 2) (by omega) R _).1, (k3 m' (m' + 2) (by omega) R _).2⟩
end Go.Proofs.Ytjhfbmhblpjigaa.Med
end
section
set_option linter.unusedVariables false
set_option linter.unusedSimpArgs false
namespace Go.Proofs.Ytjhfbmhblpjigaa.Med
open Go Go.Abs Go.Proofs
set_option linter.unusedVariables false
set_option linter.unusedSimpArgs false
/-! what was seen of a list up to a place -/
def mxG (g : Nat → Int) : Nat → Int
  | 0 => g 0
  | i + 1 => if g i > mxG g i then g i else mxG g i
def mnG (g : Nat → Int) : Nat → Int
  | 0 => g 0
  | i + 1 => if g i < mnG g i then g i else mnG g i
def hasG (g : Nat → Int) (x : Int) : Nat → Bool
  | 0 => false
  | i + 1 => hasG g x i || (x == g i)
theorem mxG_congr {g h : Nat → Int} : ∀ (i : Nat), 0 < i → (∀ j, j < i → g j = h j) → mxG g i = mxG h i
  | 1, _, e => by simp [mxG, e 0 (by omega)]
  | i + 2, _, e => by
    have := mxG_congr (i + 1) (by omega) (fun j hj => e j (by omega))
    show (if g (i + 1) > mxG g (i + 1) then g (i + 1) else mxG g (i + 1)) = (if h (i + 1) > mxG h (i + 1) then h (i + 1) else mxG h (i + 1))
    rw [this, e (i + 1) (by omega)]
theorem hasG_congr {g h : Nat → Int} (x : Int) : ∀ (i : Nat), (∀ j, j < i → g j = h j) → hasG g x i = hasG h x i
  | 0, _ => rfl
  | i + 1, e => by rw [hasG, hasG, hasG_congr x i (fun j hj => e j (by omega)), e i (by omega)]
theorem mxG_b {g : Nat → Int} {a b : Int} : ∀ (i : Nat), (∀ j, j ≤ i → a ≤ g j ∧ g j ≤ b) → a ≤ mxG g i ∧ mxG g i ≤ b
  | 0, e => e 0 (by omega)
  | i + 1, e => by
    have h1 := mxG_b i (fun j hj => e j (by omega))
    have h2 := e i (by omega)
    rw [mxG]; split <;> omega
theorem mnG_b {g : Nat → Int} {a b : Int} : ∀ (i : Nat), (∀ j, j ≤ i → a ≤ g j ∧ g j ≤ b) → a ≤ mnG g i ∧ mnG g i ≤ b
  | 0, e => e 0 (by omega)
  | i + 1, e => by
    have h1 := mnG_b i (fun j hj => e j (by omega))
    have h2 := e i (by omega)
    rw [mnG]; split <;> omega
abbrev g0 (r : Abs.Rows) : Nat → Int := fun j => fI r j 0
theorem fI_take {r : Abs.Rows} {i j : Nat} (h : j < i) : fI (List.take i r) j 0 = fI r j 0 := by
  show F.toInt ((Abs.rowAt _ j).headD default) = F.toInt ((Abs.rowAt _ j).headD default)
  unfold Abs.rowAt
  rw [List.getD_eq_getElem?_getD, List.getD_eq_getElem?_getD, List.getElem?_take_of_lt h]
/-! the greatest and the least -/
theorem lp80 (m : Nat) {r : Abs.Rows} (hl : (r.length : Int) ≤ 1073741824) {R : Type} (kx0 : Int → Int → Option R) : ∀ (d i n : Nat), i + d = r.length → d < n → Lp80_5 m kx0 r n (mxG (g0 r) i) i = kx0 (mxG (g0 r) r.length) r.length
  | _, _, 0, _, h => by omega
  | 0, i, n + 1, h1, _ => by
    have : i = r.length := by omega
    simp only [Lp80_5, Lp80_5_step]
    rw [dF (by omega), this]
  | d + 1, i, n + 1, h1, h2 => by
    simp only [Lp80_5, Lp80_5_step]
    rw [dT (by omega), dT (by omega), show Int.toNat (i : Int) = i by omega, w64 (by omega) (by omega)]
    exact lp80 m hl kx0 d (i + 1) n (by omega) (by omega)
theorem fn80 (m : Nat) {r : Abs.Rows} (h0 : 0 < r.length) (hl : (r.length : Int) ≤ 1073741824) (hm : r.length < m) {R : Type} (k : Int → Option R) : Fn80 (m + 1) r k = k (mxG (g0 r) r.length) := by
  simp only [Fn80, Jn80_2]
  rw [dF (by omega), dT (by omega)]
  have := lp80 m hl (fun i580 i581 => k i580) (r.length - 1) 1 m (by omega) (by omega)
  simpa [mxG] using this
theorem lp81 (m : Nat) {r : Abs.Rows} (hl : (r.length : Int) ≤ 1073741824) {R : Type} (kx0 : Int → Int → Option R) : ∀ (d i n : Nat), i + d = r.length → d < n → Lp81_5 m kx0 r n (mnG (g0 r) i) i = kx0 (mnG (g0 r) r.length) r.length
  | _, _, 0, _, h => by omega
  | 0, i, n + 1, h1, _ => by
    have : i = r.length := by omega
    simp only [Lp81_5, Lp81_5_step]
    rw [dF (by omega), this]
  | d + 1, i, n + 1, h1, h2 => by
    simp only [Lp81_5, Lp81_5_step]
    rw [dT (by omega), dT (by omega), show Int.toNat (i : Int) = i by omega, w64 (by omega) (by omega)]
    exact lp81 m hl kx0 d (i + 1) n (by omega) (by omega)
theorem fn81 (m : Nat) {r : Abs.Rows} (h0 : 0 < r.length) (hl : (r.length : Int) ≤ 1073741824) (hm : r.length < m) {R : Type} (k : Int → Option R) : Fn81 (m + 1) r k = k (mnG (g0 r) r.length) := by
  simp only [Fn81, Jn81_2]
  rw [dF (by omega), dT (by omega)]
  have := lp81 m hl (fun i580 i581 => k i580) (r.length - 1) 1 m (by omega) (by omega)
  simpa [mnG] using this
/-! is a number in a list -/
theorem lp96 (m : Nat) {r : Abs.Rows} (hl : (r.length : Int) ≤ 1073741824) (x z : Int) {R : Type} (kx0 : Int → Int → Option R) (kx1 : Int → Option R) (v : Option R) (hT : ∀ j : Int, 0 ≤ j → kx0 j j = v) : ∀ (d i n : Nat), i + d = r.length → d < n → hasG (g0 r) x i = false →
    Lp96_2 m kx0 kx1 r x z r.length n i = bif hasG (g0 r) x r.length then v else kx1 r.length
  | _, _, 0, _, h, _ => by omega
  | 0, i, n + 1, h1, _, h3 => by
    have : i = r.length := by omega
    simp only [Lp96_2, Lp96_2_step]
    rw [dF (by omega), this]
    rw [this] at h3
    rw [h3]
    rfl
  | d + 1, i, n + 1, h1, h2, h3 => by
    have hmono : ∀ (j : Nat), hasG (g0 r) x i = true → hasG (g0 r) x (i + j) = true := by
      intro j; induction j with
      | zero => exact id
      | succ j ih => intro h; rw [← Nat.add_assoc, hasG, ih h]; rfl
    simp only [Lp96_2, Lp96_2_step]
    rw [dT (by omega), dT (by omega), show Int.toNat (i : Int) = i by omega]
    by_cases hx : x = fI r i 0
    · rw [eT hx, hT _ (by omega)]
      have h4 : hasG (g0 r) x (i + 1) = true := by rw [hasG]; simp [hx]
      have h5 : ∀ j, hasG (g0 r) x (i + 1 + j) = true := by
        intro j; induction j with
        | zero => exact h4
        | succ j ih => rw [← Nat.add_assoc, hasG, ih]; rfl
      have h6 := h5 d
      rw [show i + 1 + d = r.length by omega] at h6
      rw [h6]; rfl
    · rw [eF hx, w64 (by omega) (by omega)]
      exact lp96 m hl x z kx0 kx1 v hT d (i + 1) n (by omega) (by omega) (by rw [hasG, h3]; simpa using hx)
theorem fn82 (m : Nat) {r : Abs.Rows} (hl : (r.length : Int) ≤ 1073741824) (hm : r.length < m) (x : Int) {R : Type} (k : Bool → Option R) : Fn82 (m + 2) r x k = k (hasG (g0 r) x r.length) := by
  simp only [Fn82, Fn96]
  have h := lp96 m hl x 0 (fun i627 i628 => k (decide (i627 ≥ 0))) (fun i629 => k (decide ((-1 : Int) ≥ 0))) (k true) (fun j hj => by simp [hj]) r.length 0 m (by omega) hm rfl
  refine h.trans ?_
  cases hasG (g0 r) x r.length <;> rfl
/-! a map whose keys are all true -/
def seenM (ks : List Int) : Abs.Rows := ks.map fun x => [F.lit (Value.int IntKind.i64 x), F.lit (Value.bool true)]
theorem seen_get (x : Int) : ∀ (ks : List Int), F.toBool (List.headD (mRow (F.lit (Value.int IntKind.i64 x)) [F.lit (Value.bool false)] (seenM ks)) default) = decide (x ∈ ks)
  | [] => rfl
  | y :: ks => by
    show F.toBool (List.headD (bif (x == y) then [F.lit (Value.bool true)] else mRow (F.lit (Value.int IntKind.i64 x)) [F.lit (Value.bool false)] (seenM ks)) default) = _
    by_cases h : x = y
    · subst h; simp; rfl
    · rw [beq_false_of_ne h]
      simp only [cond_false]
      rw [seen_get x ks]
      simp [h]
theorem seen_put (x : Int) : ∀ (ks : List Int), mPut (F.lit (Value.int IntKind.i64 x)) [F.lit (Value.bool true)] (seenM ks) = seenM (if x ∈ ks then ks else ks ++ [x])
  | [] => rfl
  | y :: ks => by
    show (bif (x == y) then [F.lit (Value.int IntKind.i64 x), F.lit (Value.bool true)] :: seenM ks else [F.lit (Value.int IntKind.i64 y), F.lit (Value.bool true)] :: mPut (F.lit (Value.int IntKind.i64 x)) [F.lit (Value.bool true)] (seenM ks)) = _
    by_cases h : x = y
    · subst h; simp; rfl
    · rw [beq_false_of_ne h]
      simp only [cond_false]
      rw [seen_put x ks]
      by_cases h2 : x ∈ ks
      · simp [h2]; rfl
      · simp [h2, h]; rfl
end Go.Proofs.Ytjhfbmhblpjigaa.Med
end
section
set_option linter.unusedVariables false
set_option linter.unusedSimpArgs false
namespace Go.Proofs.Ytjhfbmhblpjigaa.Med
open Go Go.Abs Go.Proofs
set_option linter.unusedVariables false
set_option linter.unusedSimpArgs false
/-! what was there twice, and late -/
theorem jn48 (m : Nat) {R : Type} (kx0 : Int → Int → Abs.Rows → Option R) (a : Abs.Rows) (z1 z2 z3 z4 z5 z6 z7 z8 z9 z10 : Int) (b : Abs.Rows) (le gr : Int) (ks : List Int) (hl : ks.length ≤ 2000) (x : Int) (n : Nat) (y1 y2 : Int) :
    Jn48_19 m kx0 a z1 z2 z3 z4 z5 z6 z7 z8 z9 z10 b le gr (seenM ks) x n y1 y2 = kx0 (if x < le then x else le) (if x > gr then x else gr) (seenM (if x ∈ ks then ks else ks ++ [x])) := by
  simp only [Jn48_19, seen_put]
  rw [dT (by simp [seenM, rowMax]; omega)]
theorem lpL {r : Abs.Rows} (hl : (r.length : Int) ≤ 2000) : ∀ (d i : Nat) (tw la : Int) (ks : List Int), i + d = r.length → 0 ≤ tw → 0 ≤ la → la ≤ i → (ks.length : Int) + tw = i → (∀ x, x ∈ ks ↔ hasG (g0 r) x i = true) →
    ∃ (tw' la' : Int) (ks' : List Int), 0 ≤ tw' ∧ (ks'.length : Int) + tw' = r.length ∧ ∀ (m n : Nat), d ≤ n → r.length ≤ m → ∀ (R : Type) (kx0 : Int → Int → Int → Int → Abs.Rows → Int → Option R) (kx1 : Int → Int → Int → Option R) (a b : Abs.Rows) (z1 z2 z3 z4 z5 z6 z7 z8 y1 y2 y3 y4 y5 y6 y7 y8 : Int),
      Lp48_13 (m + 3) kx0 a z1 z2 z3 z4 z5 z6 z7 z8 r r.length r.length (n + 1) tw la (mnG (g0 r) i) (mxG (g0 r) i) (seenM ks) i = kx0 tw' la' (mnG (g0 r) r.length) (mxG (g0 r) r.length) (seenM ks') r.length ∧
      Lp51_7 (m + 3) kx1 b y1 y2 y3 y4 y5 r y6 y7 y8 r.length r.length (n + 1) tw la i = kx1 tw' la' r.length
  | 0, i, tw, la, ks, h1, h2, h3, h4, h5, h6 => by
    have hi : (i : Int) = r.length := by omega
    have hi' : i = r.length := by omega
    refine ⟨tw, la, ks, h2, by omega, fun m n hn hm R kx0 kx1 a b z1 z2 z3 z4 z5 z6 z7 z8 y1 y2 y3 y4 y5 y6 y7 y8 => ?_⟩
    simp only [Lp48_13, Lp48_13_step, Lp51_7, Lp51_7_step]
    rw [dF (by omega), dF (by omega), hi']
    exact ⟨rfl, rfl⟩
  | d + 1, i, tw, la, ks, h1, h2, h3, h4, h5, h6 => by
    have e : Int.toNat (i : Int) = i := by omega
    have e2 : IntKind.wrap IntKind.i64 ((i : Int) + 1) = ((i + 1 : Nat) : Int) := by rw [w64 (by omega) (by omega)]; omega
    have etw : IntKind.wrap IntKind.i64 (tw + 1) = tw + 1 := w64 (by omega) (by omega)
    have ela : IntKind.wrap IntKind.i64 (la + 1) = la + 1 := w64 (by omega) (by omega)
    have hkl : ks.length ≤ 2000 := by omega
    have hs : (if fI r i 0 < mnG (g0 r) i then fI r i 0 else mnG (g0 r) i) = mnG (g0 r) (i + 1) := rfl
    have hb : (if fI r i 0 > mxG (g0 r) i then fI r i 0 else mxG (g0 r) i) = mxG (g0 r) (i + 1) := rfl
    have htl : (List.take i r).length = i := by rw [List.length_take]; omega
    have hhas : hasG (g0 (List.take i r)) (fI r i 0) i = hasG (g0 r) (fI r i 0) i := hasG_congr _ _ fun j hj => fI_take hj
    have h6' : ∀ x, x ∈ (if fI r i 0 ∈ ks then ks else ks ++ [fI r i 0]) ↔ hasG (g0 r) x (i + 1) = true := by
      intro x
      rw [hasG, Bool.or_eq_true, ← h6]
      split
      · constructor
        · exact .inl
        · rintro (h | h)
          · exact h
          · rw [beq_iff_eq] at h; rw [h]; assumption
      · simp
    have hn5 : (if fI r i 0 ∈ ks then ks else ks ++ [fI r i 0]).length = ks.length + (if fI r i 0 ∈ ks then 0 else 1) := by split <;> simp
    -- one round
    by_cases c1 : fI r i 0 ∈ ks
    · have c1' : hasG (g0 r) (fI r i 0) i = true := (h6 _).1 c1
      rw [if_pos c1] at h6' hn5
      obtain ⟨tw', la', ks', k1, k2, k3⟩ := lpL hl d (i + 1) (tw + 1) la ks (by omega) (by omega) h3 (by omega) (by omega) h6'
      refine ⟨tw', la', ks', k1, k2, fun m n hn hm R kx0 kx1 a b z1 z2 z3 z4 z5 z6 z7 z8 y1 y2 y3 y4 y5 y6 y7 y8 => ?_⟩
      obtain ⟨n', rfl⟩ : ∃ n', n = n' + 1 := ⟨n - 1, by omega⟩
      have := k3 m n' (by omega) hm R kx0 kx1 a b z1 z2 z3 z4 z5 z6 z7 z8 y1 y2 y3 y4 y5 y6 y7 y8
      constructor
      · rw [Lp48_13]
        simp only [Lp48_13_step, e, e2, etw, seen_get]
        rw [dT (by omega), dT (by omega), dT c1, jn48 _ _ _ _ _ _ _ _ _ _ _ _ _ _ _ _ _ hkl, if_pos c1, hs, hb]
        exact this.1
      · rw [Lp51_7]
        simp only [Lp51_7_step, e, e2, etw, Nat.sub_zero, List.drop_zero]
        rw [dT (by omega), dT (by omega), dT (by omega), fn82 (m + 1) (by omega) (by omega), htl, hhas, bT c1']
        exact this.2
    · have c1' : hasG (g0 r) (fI r i 0) i = false := by
        cases h : hasG (g0 r) (fI r i 0) i with
        | false => rfl
        | true => exact (c1 ((h6 _).2 h)).elim
      rw [if_neg c1] at h6' hn5
      by_cases c2 : fI r i 0 < mxG (g0 r) i
      · have hi0 : 0 < i := by
          rcases Nat.eq_zero_or_pos i with h | h
          · subst h; exact absurd c2 (by simp [mxG])
          · exact h
        have hmx : mxG (g0 (List.take i r)) i = mxG (g0 r) i := mxG_congr i hi0 fun j hj => fI_take hj
        obtain ⟨tw', la', ks', k1, k2, k3⟩ := lpL hl d (i + 1) tw (la + 1) (ks ++ [fI r i 0]) (by omega) h2 (by omega) (by omega) (by simp; omega) h6'
        refine ⟨tw', la', ks', k1, k2, fun m n hn hm R kx0 kx1 a b z1 z2 z3 z4 z5 z6 z7 z8 y1 y2 y3 y4 y5 y6 y7 y8 => ?_⟩
        obtain ⟨n', rfl⟩ : ∃ n', n = n' + 1 := ⟨n - 1, by omega⟩
        have := k3 m n' (by omega) hm R kx0 kx1 a b z1 z2 z3 z4 z5 z6 z7 z8 y1 y2 y3 y4 y5 y6 y7 y8
        constructor
        · rw [Lp48_13]
          simp only [Lp48_13_step, e, e2, ela, seen_get]
          rw [dT (by omega), dT (by omega), dF c1, dT c2, jn48 _ _ _ _ _ _ _ _ _ _ _ _ _ _ _ _ _ hkl, if_neg c1, hs, hb]
          exact this.1
        · rw [Lp51_7]
          simp only [Lp51_7_step, e, e2, ela, Nat.sub_zero, List.drop_zero]
          rw [dT (by omega), dT (by omega), dT (by omega), fn82 (m + 1) (by omega) (by omega), htl, hhas, bF c1', dT (by omega), dT (by omega), fn80 (m + 2) (by omega) (by omega) (by omega), htl, hmx, dT c2]
          exact this.2
      · obtain ⟨tw', la', ks', k1, k2, k3⟩ := lpL hl d (i + 1) tw la (ks ++ [fI r i 0]) (by omega) h2 (by omega) (by omega) (by simp; omega) h6'
        refine ⟨tw', la', ks', k1, k2, fun m n hn hm R kx0 kx1 a b z1 z2 z3 z4 z5 z6 z7 z8 y1 y2 y3 y4 y5 y6 y7 y8 => ?_⟩
        obtain ⟨n', rfl⟩ : ∃ n', n = n' + 1 := ⟨n - 1, by omega⟩
        have := k3 m n' (by omega) hm R kx0 kx1 a b z1 z2 z3 z4 z5 z6 z7 z8 y1 y2 y3 y4 y5 y6 y7 y8
        constructor
        · rw [Lp48_13]
          simp only [Lp48_13_step, e, e2, seen_get]
          rw [dT (by omega), dT (by omega), dF c1, dF c2, jn48 _ _ _ _ _ _ _ _ _ _ _ _ _ _ _ _ _ hkl, if_neg c1, hs, hb]
          exact this.1
        · rw [Lp51_7]
          simp only [Lp51_7_step, e, e2, Nat.sub_zero, List.drop_zero]
          rw [dT (by omega), dT (by omega), dT (by omega), fn82 (m + 1) (by omega) (by omega), htl, hhas, bF c1']
          rcases Nat.eq_zero_or_pos i with h0 | hi0
          · subst h0
            rw [dF (by omega)]
            exact this.2
          · have hmx : mxG (g0 (List.take i r)) i = mxG (g0 r) i := mxG_congr i hi0 fun j hj => fI_take hj
            rw [dT (by omega), dT (by omega), fn80 (m + 2) (by omega) (by omega) (by omega), htl, hmx, dF c2]
            exact this.2
end Go.Proofs.Ytjhfbmhblpjigaa.Med
end
section
set_option linter.unusedVariables false
set_option linter.unusedSimpArgs false
namespace Go.Proofs.Ytjhfbmhblpjigaa.Med
open Go Go.Abs Go.Proofs
set_option linter.unusedVariables false
set_option linter.unusedSimpArgs false
/-! the jitter -/
theorem lpJ {r : Abs.Rows} (hl : (r.length : Int) ≤ 2000) (hr : ∀ j, j < r.length → RowOk r j) : ∀ (d i : Nat) (jt : Int), i + d = r.length → 1 ≤ i → 0 ≤ jt → jt ≤ 1000000000000 * i →
    ∃ jt' : Int, ∀ (m n : Nat), d ≤ n → ∀ (R : Type) (kx0 kx1 : Int → Int → Option R) (z1 z2 z3 z4 z5 z6 z7 z8 z9 y1 y2 y3 y4 y5 y6 y7 y8 y9 : Int),
      Lp48_26 (m + 1) kx0 r z1 z2 z3 z4 z5 z6 z7 z8 z9 (n + 1) jt i = kx0 jt' r.length ∧ Lp51_17 (m + 1) kx1 r y1 y2 y3 y4 y5 y6 y7 y8 y9 (n + 1) jt i = kx1 jt' r.length
  | 0, i, jt, h1, h2, h3, h4 => by
    have hi : (i : Int) = r.length := by omega
    refine ⟨jt, fun m n hn R kx0 kx1 z1 z2 z3 z4 z5 z6 z7 z8 z9 y1 y2 y3 y4 y5 y6 y7 y8 y9 => ?_⟩
    simp only [Lp48_26, Lp48_26_step, Lp51_17, Lp51_17_step]
    rw [dF (by omega), dF (by omega), hi]
    exact ⟨rfl, rfl⟩
  | d + 1, i, jt, h1, h2, h3, h4 => by
    have e : Int.toNat (i : Int) = i := by omega
    have e2 : IntKind.wrap IntKind.i64 ((i : Int) + 1) = ((i + 1 : Nat) : Int) := by rw [w64 (by omega) (by omega)]; omega
    have e3 : IntKind.wrap IntKind.i64 ((i : Int) - 1) = (i : Int) - 1 := w64 (by omega) (by omega)
    have e4 : Int.toNat ((i : Int) - 1) = i - 1 := by omega
    obtain ⟨p1, p2, _⟩ := hr i (by omega)
    obtain ⟨q1, q2, _⟩ := hr (i - 1) (by omega)
    obtain ⟨t1, t2⟩ := tA_b (fI r i 3) (fI r (i - 1) 3)
    have f3 : Int.fdiv (tA (fI r i 3) (fI r (i - 1) 3)) ((2 : Int) ^ min (Int.toNat (3 : Int)) (64 : Nat)) = tA (fI r i 3) (fI r (i - 1) 3) / 8 := Int.fdiv_eq_ediv_of_nonneg _ (by decide)
    have f4 : Int.fdiv (jt + 8) ((2 : Int) ^ min (Int.toNat (4 : Int)) (64 : Nat)) = (jt + 8) / 16 := Int.fdiv_eq_ediv_of_nonneg _ (by decide)
    have f5 : Int.tdiv (jt + 8) 16 = (jt + 8) / 16 := td_pos (by omega)
    have e8 : IntKind.wrap .i64 (jt + 8) = jt + 8 := w64 (by omega) (by omega)
    have e9 : IntKind.wrap .i64 (fI r i 0 - fI r (i - 1) 0) = fI r i 0 - fI r (i - 1) 0 := w64 (by omega) (by omega)
    have e10 : IntKind.wrap .i64 (fI r i 0 - fI r (i - 1) 0 - tA (fI r i 3) (fI r (i - 1) 3) / 8) = fI r i 0 - fI r (i - 1) 0 - tA (fI r i 3) (fI r (i - 1) 3) / 8 := w64 (by omega) (by omega)
    have key : ∀ D : Int, D = fI r i 0 - fI r (i - 1) 0 - tA (fI r i 3) (fI r (i - 1) 3) / 8 → ∃ jt1 : Int, 0 ≤ jt1 ∧ jt1 ≤ 1000000000000 * (i + 1 : Nat) ∧ IntKind.wrap .i64 (jt + IntKind.wrap .i64 ((if IntKind.wrap .i64 (0 - D) > D then IntKind.wrap .i64 (0 - D) else D) - (jt + 8) / 16)) = jt1 := by
      intro D hD
      rw [w64 (x := 0 - D) (by omega) (by omega)]
      refine ⟨jt + ((if 0 - D > D then 0 - D else D) - (jt + 8) / 16), by split <;> omega, by split <;> omega, ?_⟩
      rw [w64 (x := (if 0 - D > D then 0 - D else D) - (jt + 8) / 16) (by split <;> omega) (by split <;> omega), w64 (by split <;> omega) (by split <;> omega)]
    obtain ⟨jt1, k1, k2, k3⟩ := key _ rfl
    obtain ⟨jt', hj⟩ := lpJ hl hr d (i + 1) jt1 (by omega) (by omega) k1 k2
    refine ⟨jt', fun m n hn R kx0 kx1 z1 z2 z3 z4 z5 z6 z7 z8 z9 y1 y2 y3 y4 y5 y6 y7 y8 y9 => ?_⟩
    obtain ⟨n', rfl⟩ : ∃ n', n = n' + 1 := ⟨n - 1, by omega⟩
    have := hj m n' (by omega) R kx0 kx1 z1 z2 z3 z4 z5 z6 z7 z8 z9 y1 y2 y3 y4 y5 y6 y7 y8 y9
    constructor
    · rw [Lp48_26]
      simp only [Lp48_26_step, e, e2, e3, e4]
      rw [dT (by omega), dT (by omega), dT (by omega), dT (by omega), dT (by omega), (fn72 m _ _ _).1]
      simp only [f3, e8, f4, e9, e10]
      rw [k3]
      exact this.1
    · rw [Lp51_17]
      simp only [Lp51_17_step, e, e2, e3, e4]
      rw [dT (by omega), dT (by omega), dT (by omega), dT (by omega), dT (by omega), (fn72 m _ _ _).2, fn75 m t1 t2]
      simp only [f3, e8, f5, e9, e10]
      rw [w64 (x := (jt + 8) / 16) (by omega) (by omega), k3]
      exact this.2
theorem hasMap0 (r : Abs.Rows) : ∀ x, x ∈ ([] : List Int) ↔ hasG (g0 r) x 0 = true := by simp [hasG]
/-- what is known of the packets: both ways -/
theorem losses {r : Abs.Rows} (hl : (r.length : Int) ≤ 2000) (hr : ∀ j, j < r.length → RowOk r j) (xs : List Int) (hx : xs.length = r.length) (hxb : ∀ x ∈ xs, -40000 ≤ x ∧ x ≤ 1000000000) :
    ∃ a b c d e : Int, ∀ (m : Nat), 2200 ≤ m → (∀ (R : Type) (k : Abs.Rows → Option R), Fn78 (m + 1) r k = k (nums xs) ∧ Fn50 (m + 1) r k = k (nums xs)) →
      ∀ (R : Type), (∀ (k : Int → Int → Int → Int → Int → Int → Option R), (∀ k' : Int → Option R, Fn49 (m + 1) r k' = k' 0) → Fn48 (m + 2) r k = k a b c d e 0) ∧ (∀ (k : Int → Int → Int → Int → Int → Option R), Fn51 (m + 2) r k = k a b c d e) := by
  have hnl := nums_len xs
  rcases Nat.eq_zero_or_pos r.length with h0 | h0
  · refine ⟨0, 0, 0, 0, 0, fun m hm h R => ⟨fun k h49 => ?_, fun k => ?_⟩⟩
    · simp only [Fn48]
      rw [h49, nF rfl, eT (by omega)]
    · simp only [Fn51]
      rw [(h R _).2, eT (by omega)]
  · have hg : ∀ j, j < xs.length → -40000 ≤ g0 (nums xs) j ∧ g0 (nums xs) j ≤ 1000000000 := by
      intro j hj
      rw [show g0 (nums xs) j = xs.getD j 0 from nums_fI xs j, List.getD_eq_getElem?_getD, List.getElem?_eq_getElem hj]
      exact hxb _ (List.getElem_mem hj)
    have hg' : ∀ j, -40000 ≤ g0 (nums xs) j ∧ g0 (nums xs) j ≤ 1000000000 := by
      intro j
      by_cases hj : j < xs.length
      · exact hg j hj
      · rw [show g0 (nums xs) j = xs.getD j 0 from nums_fI xs j, List.getD_eq_getElem?_getD, List.getElem?_eq_none (by omega)]
        simp
    obtain ⟨tw', la', ks', k1, k2, k3⟩ := lpL (r := nums xs) (by omega) (nums xs).length 0 0 0 [] (by omega) (by omega) (by omega) (by omega) (by simp) (hasMap0 _)
    obtain ⟨jt', hj⟩ := lpJ hl hr (r.length - 1) 1 0 (by omega) (by omega) (by omega) (by omega)
    have mx := mxG_b (g := g0 (nums xs)) (nums xs).length (fun j _ => hg' j)
    have mn := mnG_b (g := g0 (nums xs)) (nums xs).length (fun j _ => hg' j)
    have w1 : IntKind.wrap .i64 (mxG (g0 (nums xs)) (nums xs).length - mnG (g0 (nums xs)) (nums xs).length) = mxG (g0 (nums xs)) (nums xs).length - mnG (g0 (nums xs)) (nums xs).length := w64 (by omega) (by omega)
    refine ⟨IntKind.wrap .i64 (IntKind.wrap .i64 (mxG (g0 (nums xs)) (nums xs).length - mnG (g0 (nums xs)) (nums xs).length) + 1), IntKind.wrap .i64 (IntKind.wrap .i64 (IntKind.wrap .i64 (mxG (g0 (nums xs)) (nums xs).length - mnG (g0 (nums xs)) (nums xs).length) + 1) - ((seenM ks').length : Int)), tw', la', jt', fun m hm h R => ?_⟩
    obtain ⟨m', rfl⟩ : ∃ m', m = m' + 3 := ⟨m - 3, by omega⟩
    constructor
    · intro k h49
      simp only [Fn48]
      rw [h49, nF rfl, eF (by omega), (h R _).1, dT (by omega), dT (by omega)]
      have a1 := (k3 (m' + 1) (m' + 3) (by omega) (by omega) R (fun i384 i385 i386 i387 r388 i389 => Lp48_26 (m' + 4) (fun i408 i409 => k (IntKind.wrap .i64 (IntKind.wrap .i64 (i387 - i386) + 1)) (IntKind.wrap .i64 (IntKind.wrap .i64 (IntKind.wrap .i64 (i387 - i386) + 1) - (r388.length : Int))) i384 i385 i408 0) r 0 0 0 0 0 (IntKind.wrap .i64 (IntKind.wrap .i64 (i387 - i386) + 1)) (IntKind.wrap .i64 (IntKind.wrap .i64 (IntKind.wrap .i64 (i387 - i386) + 1) - (r388.length : Int))) i384 i385 (m' + 4) 0 1) (fun _ _ _ => none) r r 0 0 0 0 0 0 0 0 0 0 0 0 0 0 0 0).1
      refine Eq.trans a1 ?_
      refine Eq.trans (hj (m' + 3) (m' + 3) (by omega) R _ (fun _ _ => none) _ _ _ _ _ _ _ _ _ 0 0 0 0 0 0 0 0 0).1 ?_
      rfl
    · intro k
      simp only [Fn51]
      rw [(h R _).2, eF (by omega), fn80 (m' + 3) (by omega) (by omega) (by omega), fn81 (m' + 3) (by omega) (by omega) (by omega)]
      have a1 := (k3 (m' + 1) (m' + 3) (by omega) (by omega) R (fun _ _ _ _ _ _ => none) (fun i638 i639 i640 => Lp51_17 (m' + 4) (fun i663 i664 => k (IntKind.wrap .i64 (IntKind.wrap .i64 (mxG (g0 (nums xs)) (nums xs).length - mnG (g0 (nums xs)) (nums xs).length) + 1)) (IntKind.wrap .i64 (IntKind.wrap .i64 (IntKind.wrap .i64 (mxG (g0 (nums xs)) (nums xs).length - mnG (g0 (nums xs)) (nums xs).length) + 1) - IntKind.wrap .i64 (((nums xs).length : Int) - i638))) i638 i639 i663) r 0 0 0 0 0 (IntKind.wrap .i64 (IntKind.wrap .i64 (mxG (g0 (nums xs)) (nums xs).length - mnG (g0 (nums xs)) (nums xs).length) + 1)) (IntKind.wrap .i64 (IntKind.wrap .i64 (IntKind.wrap .i64 (mxG (g0 (nums xs)) (nums xs).length - mnG (g0 (nums xs)) (nums xs).length) + 1) - IntKind.wrap .i64 (((nums xs).length : Int) - i638))) i638 i639 (m' + 4) 0 1) r r 0 0 0 0 0 0 0 0 0 0 0 0 0 (IntKind.wrap .i64 (IntKind.wrap .i64 (mxG (g0 (nums xs)) (nums xs).length - mnG (g0 (nums xs)) (nums xs).length) + 1)) 0 0).2
      refine Eq.trans a1 ?_
      refine Eq.trans (hj (m' + 3) (m' + 3) (by omega) R (fun _ _ => none) _ 0 0 0 0 0 0 0 0 0 _ _ _ _ _ _ _ _ _).2 ?_
      have e1 : ((seenM ks').length : Int) = ks'.length := by simp [seenM]
      have e2 : IntKind.wrap .i64 (((nums xs).length : Int) - tw') = ((seenM ks').length : Int) := by rw [w64 (by omega) (by omega)]; omega
      rw [e2]
end Go.Proofs.Ytjhfbmhblpjigaa.Med
end
section
set_option linter.unusedVariables false
set_option linter.unusedSimpArgs false
namespace Go.Proofs.Ytjhfbmhblpjigaa.Med
open Go Go.Abs Go.Proofs
set_option linter.unusedVariables false
set_option linter.unusedSimpArgs false
theorem fn7a (M : Nat) (hM : 21000 ≤ M) (q : Abs.Rows) {R : Type} (k : Bool → Option R) : Fn7 (M + 20) q k = k true := by
  obtain ⟨r, i', g1, g2, g3, g4, g5⟩ := fn33 (M + 12) q (i := 0) (most := 12) (by omega) (by omega) (by omega) (by omega) (by omega)
  obtain ⟨v, v1, v2⟩ := fn49 r
  have h49 : ∀ (j : Nat), 4 ≤ j → j ≤ 19 → ∀ (R : Type) (k : Int → Option R), Fn49 (M + j) r k = k v ∧ Fn36 (M + j) r k = k v := by
    intro j h4 h5 R k
    have := v2 (M + j - 4) (by omega) R k
    rwa [show M + j - 4 + 4 = M + j by omega] at this
  simp only [Fn7]
  rw [g5]
  by_cases hv : v = 0
  · subst hv
    obtain ⟨w1, w2⟩ := v1 rfl
    obtain ⟨xs, x1, x2, x3⟩ := fn78 w1 w2
    obtain ⟨a, b, c, d, e, L⟩ := losses w1 w2 xs x1 x2
    have L' := L (M + 17) (by omega) (fun R k => x3 (M + 17) (by omega) R k)
    have h47 : ∀ (R : Type) (k : Abs.Rows → Int → Option R), Fn47 (M + 19) r k = k (nums xs) 0 := by
      intro R k
      simp only [Fn47]
      rw [(h49 18 (by omega) (by omega) _ _).1, nF rfl, (x3 (M + 17) (by omega) R _).1]
    rw [h47, (L' R).1 _ (fun k' => (h49 18 (by omega) (by omega) R k').1), (h49 19 (by omega) (by omega) _ _).2, (h49 19 (by omega) (by omega) _ _).1, nF rfl, nF rfl, eT rfl, eT rfl, (x3 (M + 18) (by omega) R _).2, fn38 (M + 18) _ _ (by rw [nums_len]; omega) (by rw [nums_len]; omega), bT rfl, (L' R).2, bT (by simp), fn19]
  · have h47 : ∀ (R : Type) (k : Abs.Rows → Int → Option R), Fn47 (M + 19) r k = k rows0 v := by
      intro R k
      simp only [Fn47]
      rw [(h49 18 (by omega) (by omega) _ _).1, nT hv]
    have h48 : ∀ (R : Type) (k : Int → Int → Int → Int → Int → Int → Option R), Fn48 (M + 19) r k = k 0 0 0 0 0 v := by
      intro R k
      simp only [Fn48]
      rw [(h49 18 (by omega) (by omega) _ _).1, nT hv]
    rw [h47, h48, (h49 19 (by omega) (by omega) _ _).2, (h49 19 (by omega) (by omega) _ _).1, nF rfl, nT hv, eT rfl, eT rfl, eT (show ((rows0.length : Nat) : Int) = 0 from rfl), bT (by simp), fn19]
theorem fn7 (m : Nat) (q : Abs.Rows) {R : Type} (k : Bool → Option R) : Fn7 (m + 21000 + 20) q k = k true := fn7a (m + 21000) (by omega) q k
end Go.Proofs.Ytjhfbmhblpjigaa.Med
end
section
set_option linter.unusedVariables false
set_option linter.unusedSimpArgs false
namespace Go.Proofs.Ytjhfbmhblpjigaa.Med
open Go Go.Abs Go.Proofs Go.RowKit
theorem fn7_ok (rows : Abs.Rows) (m : Nat) (h : ∀ (R : Type) (k : Bool → Option R), Fn7 m rows k = k true) : FnOk Try.prog 7 [.f (.lst [.int .i64] rows)] (vBool true) [.undef] := by
  refine law_of (okT33 m) fun R k => ?_
  exact h R _
theorem walk7 (w : World) (a : Option Addr) (len cap : Nat) (zs : List Int) (h : IsInts .i64 w a len cap zs) : Calls Try.prog 7 #[.slice a len cap] w fun e w' => e = .returned (.bool true) ∧ Below w.heap.size w w' := by
  obtain ⟨body, hb⟩ : ∃ b, Try.f7.body = some b := ⟨_, rfl⟩
  exact law_calls Try.func7 (by kernel_rfl) hb h (fn7_ok _ _ fun R k => fn7 0 _ k)
end Go.Proofs.Ytjhfbmhblpjigaa.Med
end
