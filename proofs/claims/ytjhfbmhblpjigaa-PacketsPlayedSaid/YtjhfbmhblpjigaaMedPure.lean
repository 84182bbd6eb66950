/- A part of the proofs of the seat Ytjhfbmhblpjigaa: no statement of the seat stands here. -/
import Derived.Test.YtjhfbmhblpjigaaRows
import Derived.Test.YtjhfbmhblpjigaaMedTyped
section
set_option linter.unusedVariables false
set_option linter.unusedSimpArgs false
namespace Go.Proofs.Ytjhfbmhblpjigaa.Med
open Go Go.Abs Go.Proofs
set_option linter.unusedVariables false
set_option linter.unusedSimpArgs false
section
variable {α : Type} {a b : α}
theorem dT {p : Prop} [Decidable p] (h : p) : (bif decide p then a else b) = a := by rw [decide_eq_true h]; rfl
theorem dF {p : Prop} [Decidable p] (h : ¬p) : (bif decide p then a else b) = b := by rw [decide_eq_false h]; rfl
theorem eT {x y : Int} (h : x = y) : (bif x == y then a else b) = a := by simp [h]
theorem nT {x y : Int} (h : ¬ x = y) : (bif x != y then a else b) = a := by rw [bne_iff_ne.2 h]; rfl
theorem nF {x y : Int} (h : x = y) : (bif x != y then a else b) = b := by subst h; rw [bne_self_eq_false]; rfl
theorem eF {x y : Int} (h : ¬ x = y) : (bif x == y then a else b) = b := by rw [beq_false_of_ne h]; rfl
theorem andC {p q : Bool} : (bif p && q then a else b) = bif p then (bif q then a else b) else b := by cases p <;> rfl
theorem orC {p q : Bool} : (bif p || q then a else b) = bif p then a else (bif q then a else b) := by cases p <;> rfl
theorem notC {p : Bool} : (bif !p then a else b) = bif p then b else a := by cases p <;> rfl
theorem bT {c : Bool} (h : c = true) : (bif c then a else b) = a := by subst h; rfl
theorem bF {c : Bool} (h : c = false) : (bif c then a else b) = b := by subst h; rfl
end
theorem w64 {x : Int} (h0 : -9223372036854775808 ≤ x) (h1 : x < 9223372036854775808) : IntKind.wrap .i64 x = x := by
  rw [IntKind.wrap_i64]; omega
theorem w64b (x : Int) : -9223372036854775808 ≤ IntKind.wrap .i64 x ∧ IntKind.wrap .i64 x < 9223372036854775808 := by
  rw [IntKind.wrap_i64]; omega
theorem w8 {x : Int} (h0 : 0 ≤ x) (h1 : x < 256) : IntKind.wrap .u8 x = x := by
  rw [IntKind.wrap_u8]; omega
theorem w8b (x : Int) : 0 ≤ IntKind.wrap .u8 x ∧ IntKind.wrap .u8 x < 256 := by
  rw [IntKind.wrap_u8]; omega
theorem rM : rowMax = 1073741824 := rfl
theorem tm_pos {x y : Int} (h : 0 ≤ x) : Int.tmod x y = x % y := Int.tmod_eq_emod_of_nonneg h
theorem td_pos {x y : Int} (h : 0 ≤ x) : Int.tdiv x y = x / y := Int.tdiv_eq_ediv_of_nonneg h
/-- a row of one whole number -/
theorem stR1 (t : LT) (r : Abs.Rows) (i : Nat) (x : F) : stR [t] r i 0 [x] = r.set i [x] := rfl
theorem fI_set {r : Abs.Rows} {i : Nat} {k : IntKind} {n : Int} (h : i < r.length) : fI (r.set i [F.lit (.int k n)]) i 0 = n := by
  simp [fI, dropF, Abs.rowAt, List.getD_eq_getElem?_getD, h, F.toInt]
theorem fI_set_ne {r : Abs.Rows} {i j : Nat} {x : List F} (h : i ≠ j) : fI (r.set i x) j 0 = fI r j 0 := by
  simp [fI, dropF, Abs.rowAt, List.getD_eq_getElem?_getD, List.getElem?_set_ne h]
theorem fI_app {r : Abs.Rows} {k : IntKind} {n : Int} : fI (r ++ [[F.lit (.int k n)]]) r.length 0 = n := by
  simp [fI, dropF, Abs.rowAt, List.getD_eq_getElem?_getD, F.toInt]
theorem fI_app_lt {r s : Abs.Rows} {i : Nat} (h : i < r.length) : fI (r ++ s) i 0 = fI r i 0 := by
  simp [fI, dropF, Abs.rowAt, List.getD_eq_getElem?_getD, List.getElem?_append_left h]
/-! lists that are made place by place -/
def mk (t : IntKind) (g : Nat → Int) (n : Nat) : Abs.Rows := (List.range n).map fun j => [F.lit (.int t (g j))]
theorem mk_len (t : IntKind) (g : Nat → Int) (n : Nat) : (mk t g n).length = n := by simp [mk]
theorem mk_succ (t : IntKind) (g : Nat → Int) (n : Nat) : mk t g (n + 1) = mk t g n ++ [[F.lit (.int t (g n))]] := by simp [mk, List.range_succ]
theorem mk_set (t : IntKind) (g : Nat → Int) (n d : Nat) (z : List F) : (mk t g n ++ List.replicate (d + 1) z).set n [F.lit (.int t (g n))] = mk t g (n + 1) ++ List.replicate d z := by
  rw [mk_succ, List.set_append_right _ _ (by simp [mk_len]), mk_len, Nat.sub_self, List.replicate_succ, List.set_cons_zero]
  simp
theorem mk_fI (t : IntKind) (g : Nat → Int) {n i : Nat} (h : i < n) : fI (mk t g n) i 0 = g i := by
  simp [fI, dropF, Abs.rowAt, List.getD_eq_getElem?_getD, mk, h, F.toInt]
def Byt (x : Int) : Prop := 0 ≤ x ∧ x < 256
end Go.Proofs.Ytjhfbmhblpjigaa.Med
end
section
set_option linter.unusedVariables false
set_option linter.unusedSimpArgs false
namespace Go.Proofs.Ytjhfbmhblpjigaa.Med
open Go Go.Abs Go.Proofs
set_option linter.unusedVariables false
set_option linter.unusedSimpArgs false
theorem fn93 (m : Nat) {x y : Int} (hy : 1 ≤ y) (hy2 : y ≤ 1099511627776) {R : Type} {k : Int → Option R} : Fn93 (m + 1) x y k = k (x % y) := by
  have h2 : Int.tmod x y = x % y ∨ (Int.tmod x y + y = x % y ∧ Int.tmod x y < 0 ∧ -y < Int.tmod x y) := by
    by_cases h : 0 ≤ x
    · exact .inl (Int.tmod_eq_emod_of_nonneg h)
    · have h3 := Int.tmod_eq_emod (a := x) (b := y)
      have h4 := Int.emod_nonneg x (show y ≠ 0 by omega)
      have h5 := Int.emod_lt_of_pos x (show 0 < y by omega)
      by_cases hd : y ∣ x
      · left; rw [h3]; simp [hd]
      · right
        have h6 : Int.tmod x y = x % y - y := by
          rw [h3, if_neg (by simp; exact ⟨by omega, hd⟩)]
          omega
        have h7 : x % y ≠ 0 := fun h => hd (Int.dvd_of_emod_eq_zero h)
        omega
  have h4 := Int.emod_nonneg x (show y ≠ 0 by omega)
  simp only [Fn93]
  rw [dF (by omega), dT (by omega)]
  rcases h2 with h2 | ⟨h2, h3, h5⟩
  · rw [dF (by omega), h2]
  · rw [dT h3, w64 (by omega) (by omega), h2]
def nx (r : Abs.Rows) (i : Int) : Int := if (r.length : Int) = 0 then IntKind.wrap .i64 ((i + 1) * 7919) else
  IntKind.wrap IntKind.i64 (fI r (Int.toNat (Int.tmod i (r.length : Int))) 0 % 1073741824 + IntKind.wrap IntKind.i64 (IntKind.wrap IntKind.i64 (Int.tdiv i (r.length : Int)) * IntKind.wrap IntKind.i64 (7919 + Int.tmod i (r.length : Int))))
theorem fn59 (m : Nat) (r : Abs.Rows) {i n : Int} (h0 : 0 ≤ i) (h1 : i ≤ 1099511627776) (hn : 1 ≤ n) (hn2 : n ≤ 1099511627776) {R : Type} {k : Int → Int → Option R} :
    Fn59 (m + 2) r i n k = k (nx r i % n) (i + 1) := by
  have e1 : IntKind.wrap .i64 (i + 1) = i + 1 := w64 (by omega) (by omega)
  have e2 : IntKind.wrap .i64 (i + 1 - 1) = i := by rw [show i + 1 - 1 = i by omega]; exact w64 (by omega) (by omega)
  by_cases hr : (r.length : Int) = 0
  · simp only [Fn59, e1, nx, hr, if_true]
    rw [eT rfl, fn93 m hn hn2]
  · have hm1 : 0 ≤ Int.tmod i (r.length : Int) := Int.tmod_nonneg _ h0
    have hm2 : Int.tmod i (r.length : Int) < (r.length : Int) := Int.tmod_lt_of_pos _ (by omega)
    simp only [Fn59, e1, e2, nx, if_neg hr]
    rw [eF hr, dT hr, dT hr, dT ⟨hm1, hm2⟩, fn93 m (by omega) (by omega), fn93 m hn hn2]
    try rfl
theorem fn39 (m : Nat) (r : Abs.Rows) {i n : Int} (h0 : 0 ≤ i) (h1 : i ≤ 1099511627776) (hn : 1 ≤ n) (hn2 : n ≤ 1099511627776) {R : Type} {k : Bool → Int → Option R} :
    Fn39 (m + 3) r i n k = k (nx r i % n == 0) (i + 1) := by
  simp only [Fn39]
  rw [fn59 m r h0 h1 hn hn2]
/-- one of some numbers -/
def pk (rows q : Abs.Rows) (i : Int) : Int := fI rows (nx q i % (rows.length : Int)).toNat 0
theorem fn20 (m : Nat) (r : Abs.Rows) {i : Int} (rows : Abs.Rows) (h0 : 0 ≤ i) (h1 : i ≤ 1099511627776) (hn : 1 ≤ (rows.length : Int)) (hn2 : (rows.length : Int) ≤ 1099511627776) {R : Type} {k : Int → Int → Option R} :
    Fn20 (m + 3) r i rows k = k (pk rows r i) (i + 1) := by
  have h4 := Int.emod_nonneg (nx r i) (show (rows.length : Int) ≠ 0 by omega)
  have h5 := Int.emod_lt_of_pos (nx r i) (show 0 < (rows.length : Int) by omega)
  simp only [Fn20]
  rw [fn59 m r h0 h1 hn hn2, dT ⟨h4, h5⟩]
  rfl
/-- each of some numbers is so: the one that is drawn is so -/
theorem pk_all {P : Int → Prop} (rows q : Abs.Rows) (i : Int) (h0 : 0 < rows.length) (h : ∀ j, j < rows.length → P (fI rows j 0)) : P (pk rows q i) := by
  have h4 := Int.emod_nonneg (nx q i) (show (rows.length : Int) ≠ 0 by omega)
  have h5 := Int.emod_lt_of_pos (nx q i) (show 0 < (rows.length : Int) by omega)
  exact h _ (by omega)
theorem fn21 (m : Nat) (r : Abs.Rows) {i lo hi : Int} (h0 : 0 ≤ i) (h1 : i ≤ 1099511627776) (hl : -500000000000 ≤ lo) (hh : hi ≤ 500000000000) (hlh : lo ≤ hi) {R : Type} {k : Int → Int → Option R} :
    Fn21 (m + 3) r i lo hi k = k (lo + nx r i % (hi - lo + 1)) (i + 1) := by
  have h4 := Int.emod_nonneg (nx r i) (show hi - lo + 1 ≠ 0 by omega)
  have h5 := Int.emod_lt_of_pos (nx r i) (show 0 < hi - lo + 1 by omega)
  simp only [Fn21]
  rw [dF (by omega), w64 (x := hi - lo) (by omega) (by omega), w64 (x := hi - lo + 1) (by omega) (by omega), fn59 m r h0 h1 (by omega) (by omega), w64 (by omega) (by omega)]
end Go.Proofs.Ytjhfbmhblpjigaa.Med
end
section
set_option linter.unusedVariables false
set_option linter.unusedSimpArgs false
namespace Go.Proofs.Ytjhfbmhblpjigaa.Med
open Go Go.Abs Go.Proofs
set_option linter.unusedVariables false
set_option linter.unusedSimpArgs false
theorem fn60 (m : Nat) (r : Abs.Rows) {i : Int} (lo hi : Int) (h0 : 0 ≤ i) (h1 : i ≤ 1000000000) (hl : -500000000000 ≤ lo) (hh : hi ≤ 500000000000) (hlh : lo ≤ hi) :
    ∃ v i' : Int, i ≤ i' ∧ i' ≤ i + 2 ∧ ∀ (R : Type) (k : Int → Int → Option R), Fn60 (m + 4) r i lo hi k = k v i' := by
  by_cases h : nx r i % 12 = 0
  · apply Exists.intro
    refine ⟨i + 1 + 1, by omega, by omega, fun R k => ?_⟩
    simp only [Fn60]
    rw [fn39 m r h0 (by omega) (by omega) (by omega), bT (by simpa using h), fn20 m r _ (by omega) (by omega) (by simp) (by simp)]
  · apply Exists.intro
    refine ⟨i + 1 + 1, by omega, by omega, fun R k => ?_⟩
    simp only [Fn60]
    rw [fn39 m r h0 (by omega) (by omega) (by omega), bF (by simpa using h), fn21 m r (by omega) (by omega) hl hh hlh]
end Go.Proofs.Ytjhfbmhblpjigaa.Med
end
section
set_option linter.unusedVariables false
set_option linter.unusedSimpArgs false
namespace Go.Proofs.Ytjhfbmhblpjigaa.Med
open Go Go.Abs Go.Proofs
set_option linter.unusedVariables false
set_option linter.unusedSimpArgs false
theorem expand (x : Int) (h : Byt x) : ∃ v : Int, ∀ (m : Nat) (R : Type) (k : Int → Option R), Fn32 (m + 1) x k = k v ∧ Fn31 (m + 1) x k = k v := by
  obtain ⟨h0, h1⟩ := h
  have e0 : IntKind.wrap .i64 x = x := w64 (by omega) (by omega)
  have e1 : IntKind.wrap .i64 (255 - x) = 255 - x := w64 (by omega) (by omega)
  have e2 : IntKind.wrap .i64 (Int.tdiv (255 - x) 16) = (255 - x) / 16 := by rw [td_pos (by omega), w64 (by omega) (by omega)]
  have e3 : IntKind.wrap .i64 (Int.tdiv (255 - x) 128) = (255 - x) / 128 := by rw [td_pos (by omega), w64 (by omega) (by omega)]
  have e4 : Int.tmod ((255 - x) / 16) 8 = (255 - x) / 16 % 8 := tm_pos (by omega)
  by_cases hb : x < 128
  · apply Exists.intro
    refine fun m R k => ⟨?_, ?_⟩
    · simp only [Fn32, e0, e1, e2, e3, e4, letV]
      rw [dT (by omega), eT (by omega)]
    · simp only [Fn31, e0, e1, e2, e3, e4, letV]
      rw [dT (by omega), dT (by omega)]
  · apply Exists.intro
    refine fun m R k => ⟨?_, ?_⟩
    · simp only [Fn32, e0, e1, e2, e3, e4, letV]
      rw [dT (by omega), eF (by omega)]
    · simp only [Fn31, e0, e1, e2, e3, e4, letV]
      rw [dT (by omega), dF (by omega)]
open Classical in
noncomputable def ev (x : Int) : Int := if h : Byt x then (expand x h).choose else 0
theorem ev_ok (m : Nat) {x : Int} (h : Byt x) (R : Type) (k : Int → Option R) : Fn32 (m + 1) x k = k (ev x) ∧ Fn31 (m + 1) x k = k (ev x) := by
  unfold ev
  rw [dif_pos h]
  exact (expand x h).choose_spec m R k
theorem fn19 (m : Nat) {R : Type} (k : Bool → Option R) : Fn19 (m + 2) k = k true := by rfl
end Go.Proofs.Ytjhfbmhblpjigaa.Med
end
section
set_option linter.unusedVariables false
set_option linter.unusedSimpArgs false
namespace Go.Proofs.Ytjhfbmhblpjigaa.Med
open Go Go.Abs Go.Proofs
set_option linter.unusedVariables false
set_option linter.unusedSimpArgs false
/-! arrivals that are drawn -/
def pay (row : List F) : Abs.Rows := F.toRows ((dropF 6 row).headD default)
def PayOk (p : Abs.Rows) : Prop := p.length ≤ 8 ∧ ∀ j, j < p.length → Byt (fI p j 0)
def ArrOk (r : Abs.Rows) : Prop := ∀ row ∈ r, PayOk (pay row)
abbrev tsA : List LT := [LT.int IntKind.i64, LT.int IntKind.i64, LT.int IntKind.i64, LT.int IntKind.i64, LT.int IntKind.i64, LT.bool, LT.lst [LT.int IntKind.u8]]
theorem payOk_nil : PayOk [] := ⟨by simp, by simp⟩
theorem ArrOk.at_ {r : Abs.Rows} (h : ArrOk r) (i : Nat) : PayOk (fR r i 6) := by
  show PayOk (pay (Abs.rowAt r i))
  unfold Abs.rowAt
  rw [List.getD_eq_getElem?_getD]
  cases hx : r[i]? with
  | none => exact payOk_nil
  | some row => exact h row (List.mem_of_getElem? hx)
theorem ArrOk.app {r : Abs.Rows} (h : ArrOk r) {row : List F} (hr : PayOk (pay row)) : ArrOk (r ++ [row]) := by
  intro x hx
  simp only [List.mem_append, List.mem_singleton] at hx
  rcases hx with hx | rfl
  · exact h x hx
  · exact hr
theorem ArrOk.set {r : Abs.Rows} (h : ArrOk r) {i : Nat} {row : List F} (hr : PayOk (pay row)) : ArrOk (r.set i row) := by
  intro x hx
  rcases List.mem_or_eq_of_mem_set hx with hx | rfl
  · exact h x hx
  · exact hr
theorem ArrOk.swap {r : Abs.Rows} (h : ArrOk r) (i : Nat) {a b c d e : F} {p : Abs.Rows} (hp : PayOk p) : ArrOk (stR tsA r i (0 + 1) [a, b, c, d, e, F.lst [LT.int IntKind.u8] p]) := h.set hp
theorem ArrOk.st0 {r : Abs.Rows} (h : ArrOk r) (i : Nat) (x : F) : ArrOk (stR tsA r i (0 + 0) [x]) := h.set (h.at_ i)
theorem ArrOk.st1 {r : Abs.Rows} (h : ArrOk r) (i : Nat) (x : F) : ArrOk (stR tsA r i (0 + 1 + 1) [x]) := h.set (h.at_ i)
theorem ArrOk.st2 {r : Abs.Rows} (h : ArrOk r) (i : Nat) (x : F) : ArrOk (stR tsA r i (0 + 1 + 2) [x]) := h.set (h.at_ i)
theorem ArrOk.st3 {r : Abs.Rows} (h : ArrOk r) (i : Nat) (x : F) : ArrOk (stR tsA r i (0 + 1 + 3) [x]) := h.set (h.at_ i)
theorem stR_len (ts : List LT) (r : Abs.Rows) (i j : Nat) (ys : List F) : (stR ts r i j ys).length = r.length := by simp [stR]
theorem lp71_10 (m : Nat) (q : Abs.Rows) {hi : Int} (hh : hi ≤ 8) (a : Abs.Rows) (b c d e f g h x : Int) (y : Bool) (u v : Int) : ∀ (t n : Nat) (r : Abs.Rows) (j i : Int), 0 ≤ i → i + t ≤ 100000000 → j + t = hi → 0 ≤ j → t < n → (r.length : Int) = j → (∀ j, j < r.length → Byt (fI r j 0)) →
    ∃ (r' : Abs.Rows), PayOk r' ∧ ∀ (R : Type) (k : Abs.Rows → Int → Int → Option R), Lp71_10 (m + 3) k a b c d e f g h x y u v hi q n r j i = k r' hi (i + t)
  | t, 0, r, j, i, h0, h1, h2, h3, h4, h5, h6 => by omega
  | 0, n + 1, r, j, i, h0, h1, h2, h3, h4, h5, h6 => by
    refine ⟨r, ⟨by omega, h6⟩, fun R k => ?_⟩
    simp only [Lp71_10, Lp71_10_step]
    rw [dF (by omega)]
    congr 1 <;> omega
  | t + 1, n + 1, r, j, i, h0, h1, h2, h3, h4, h5, h6 => by
    have a1 := Int.emod_nonneg (nx q i) (show (255 : Int) - 0 + 1 ≠ 0 by omega)
    have a2 := Int.emod_lt_of_pos (nx q i) (show (0 : Int) < 255 - 0 + 1 by omega)
    obtain ⟨r', g1, g3⟩ := lp71_10 m q hh a b c d e f g h x y u v t n (r ++ [[F.lit (.int .u8 (IntKind.wrap .u8 (0 + nx q i % (255 - 0 + 1))))]]) (j + 1) (i + 1) (by omega) (by omega) (by omega) (by omega) (by omega) (by simp; omega) (by
      intro t ht
      simp only [List.length_append, List.length_singleton] at ht
      by_cases hc : t < r.length
      · rw [fI_app_lt hc]; exact h6 t hc
      · have : t = r.length := by omega
        subst this
        rw [fI_app]
        exact w8b _)
    refine ⟨r', g1, fun R k => ?_⟩
    simp only [Lp71_10, Lp71_10_step]
    rw [dT (by omega), fn21 m q h0 (by omega) (by omega) (by omega) (by omega), dT (by simp [rM]; omega), w64 (x := j + 1) (by omega) (by omega)]
    simp only [letV]
    rw [g3]
    congr 1
    omega
theorem jn71_21 (m : Nat) {r : Abs.Rows} (h : ArrOk r) (hl : r.length ≤ 1000) (a b c d e f : Int) (y : Bool) (q : Abs.Rows) (g : Int) (hy : y = true → 0 < r.length) : ∃ (r' : Abs.Rows) (b' : Bool), ArrOk r' ∧ r.length ≤ r'.length ∧ r'.length ≤ r.length + 1 ∧ ∀ (R : Type) (k : Abs.Rows → Bool → Option R), Jn71_21 m k r a b c d e f y q g = k r' b' := by
  cases y with
  | false => exact ⟨r, false, h, by omega, by omega, fun R k => rfl⟩
  | true =>
    have h0 := hy rfl
    apply Exists.intro
    refine ⟨true, ?_, ?_, ?_, fun R k => ?_⟩
    rotate_left 3
    · simp only [Jn71_21, cond_true, letV]
      rw [dT (by rw [w64 (by omega) (by omega)]; omega), dT (by simp [rM]; omega)]
    · exact h.app (h.at_ _)
    · simp
    · simp
theorem jn71_20 (m : Nat) {r : Abs.Rows} (h : ArrOk r) (hl : r.length ≤ 1000) (a b c d e f : Int) (q : Abs.Rows) {i : Int} (h0 : 0 ≤ i) (h1 : i ≤ 1000000) : ∃ (r' : Abs.Rows) (i' : Int), ArrOk r' ∧ r'.length ≤ r.length + 1 ∧ i ≤ i' ∧ i' ≤ i + 1 ∧ ∀ (R : Type) (k : Abs.Rows → Int → Option R), Jn71_20 (m + 3) k r a b c d e f q i = k r' i' := by
  by_cases hc : (r.length : Int) > 0
  · obtain ⟨r', b', g1, g2, g3, g4⟩ := jn71_21 (m + 3) h hl a b c d e f (nx q i % 8 == 0) q (i + 1) (fun _ => by omega)
    refine ⟨r', i + 1, g1, g3, by omega, by omega, fun R k => ?_⟩
    simp only [Jn71_20]
    rw [dT hc, fn39 m q h0 (by omega) (by omega) (by omega), g4]
  · obtain ⟨r', b', g1, g2, g3, g4⟩ := jn71_21 (m + 3) h hl a b c d e f false q i (fun h => by cases h)
    refine ⟨r', i, g1, g3, by omega, by omega, fun R k => ?_⟩
    simp only [Jn71_20]
    rw [dF hc, g4]
theorem len1 {r : Abs.Rows} {row : List F} (hl : r.length ≤ 1000) : IntKind.wrap IntKind.i64 (((r ++ [row]).length : Int) - 1) = (r.length : Int) := by
  rw [w64 (by simp <;> omega) (by simp <;> omega)]; simp
theorem jn71_17 (m : Nat) {r : Abs.Rows} (h : ArrOk r) (hl : r.length ≤ 1000) (a b c d e f g x : Int) (y : Bool) {p : Abs.Rows} (hp : PayOk p) (u v : Int) (z : Bool) (q : Abs.Rows) (w : Int) (hz : z = true → 0 < r.length) : ∃ (r' : Abs.Rows) (b' : Bool), ArrOk r' ∧ r'.length = r.length + 1 ∧ ∀ (R : Type) (k : Abs.Rows → Bool → Option R), Jn71_17 m k r a b c d e f g x y p u v z q w = k r' b' := by
  cases z with
  | false =>
    apply Exists.intro
    refine ⟨false, ?_, ?_, fun R k => ?_⟩
    rotate_left 2
    · simp only [Jn71_17, cond_false, letV]
      rw [dT (by simp [rM]; omega)]
    · exact h.app hp
    · simp
  | true =>
    have h0 := hz rfl
    have hA : ArrOk (r ++ [[F.lit (Value.int IntKind.i64 c), F.lit (Value.int IntKind.i64 e), F.lit (Value.int IntKind.i64 f), F.lit (Value.int IntKind.i64 g), F.lit (Value.int IntKind.i64 x), F.lit (Value.bool y), F.lst [LT.int IntKind.u8] p]]) := h.app hp
    apply Exists.intro
    refine ⟨true, ?_, ?_, fun R k => ?_⟩
    rotate_left 2
    · simp only [Jn71_17, cond_true, letV]
      rw [dT (by simp [rM]; omega)]
      rw [len1 hl, w64 (x := (r.length : Int) - 1) (by omega) (by omega), dT (by simp; omega), dT (by simp; omega), dT (by simp; omega), dT (by simp; omega)]
    · exact (hA.swap _ (hA.at_ _)).swap _ (hA.at_ _)
    · simp [stR_len]
end Go.Proofs.Ytjhfbmhblpjigaa.Med
end
section
set_option linter.unusedVariables false
set_option linter.unusedSimpArgs false
namespace Go.Proofs.Ytjhfbmhblpjigaa.Med
open Go Go.Abs Go.Proofs
set_option linter.unusedVariables false
set_option linter.unusedSimpArgs false
abbrev Q3l : Abs.Rows := [[F.lit (Value.int IntKind.i64 (0 : Int))], [F.lit (Value.int IntKind.i64 (3 : Int))], [F.lit (Value.int IntKind.i64 (8 : Int))]]
abbrev Q5l (long : Int) : Abs.Rows := [[F.lit (Value.int IntKind.i64 (0 : Int))], [F.lit (Value.int IntKind.i64 (1 : Int))], [F.lit (Value.int IntKind.i64 (IntKind.wrap IntKind.i64 (Int.tdiv long (8 : Int))))], [F.lit (Value.int IntKind.i64 (IntKind.wrap IntKind.i64 (Int.tdiv long (8 : Int))))], [F.lit (Value.int IntKind.i64 (25 : Int))]]
theorem pk3 (q : Abs.Rows) (i : Int) : 0 ≤ pk Q3l q i ∧ pk Q3l q i ≤ 8 := by
  refine pk_all (P := fun x => 0 ≤ x ∧ x ≤ 8) Q3l q i (by simp) fun j hj => ?_
  simp at hj
  rcases (by omega : j = 0 ∨ j = 1 ∨ j = 2) with rfl | rfl | rfl <;> exact ⟨by decide, by decide⟩
theorem lp71_5 (m : Nat) (q : Abs.Rows) (long : Int) {hi : Int} (hh : hi ≤ 100) (hm : 20 ≤ m) : ∀ (d n : Nat) (r : Abs.Rows) (a b c j i : Int), 0 ≤ i → i + 20 * d ≤ 100000 → j + d = hi → 0 ≤ j → d < n → r.length + 2 * d ≤ 900 → ArrOk r →
    ∃ (r' : Abs.Rows) (a' b' c' i' : Int), ArrOk r' ∧ r'.length ≤ r.length + 2 * d ∧ i ≤ i' ∧ i' ≤ i + 20 * d ∧ ∀ (R : Type) (k : Abs.Rows → Int → Int → Int → Int → Int → Option R), Lp71_5 (m + 5) k long hi q n r a b c j i = k r' a' b' c' hi i'
  | d, 0, r, a, b, c, j, i, h0, h1, h2, h3, h4, h5, h6 => by omega
  | 0, n + 1, r, a, b, c, j, i, h0, h1, h2, h3, h4, h5, h6 => by
    refine ⟨r, a, b, c, i, h6, by omega, by omega, by omega, fun R k => ?_⟩
    simp only [Lp71_5, Lp71_5_step]
    rw [dF (by omega)]
    congr 1; omega
  | d + 1, n + 1, r, a, b, c, j, i, h0, h1, h2, h3, h4, h5, h6 => by
    obtain ⟨x0, x1⟩ := pk3 q i
    obtain ⟨t, ht⟩ := Int.eq_ofNat_of_zero_le x0
    have wj : IntKind.wrap IntKind.i64 (j + 1) = j + 1 := w64 (by omega) (by omega)
    obtain ⟨p, hp, hpl⟩ := lp71_10 (m + 2) q (hi := pk Q3l q i) (by omega) r a b c long 0 (Int.tmod a 65536) (Int.tmod b 4294967296) 7 false hi j t (m + 5) rows0 0 (i + 1) (by omega) (by omega) (by omega) (by omega) (by omega) (by simp) (by simp)
    -- the round, up to the next one
    have key : ∃ (r1 : Abs.Rows) (a1 b1 c1 i1 : Int), ArrOk r1 ∧ r1.length ≤ r.length + 2 ∧ i ≤ i1 ∧ i1 ≤ i + 20 ∧ ∀ (R : Type) (k : Abs.Rows → Int → Int → Int → Int → Int → Option R), Lp71_5 (m + 5) k long hi q (n + 1) r a b c j i = Lp71_5 (m + 5) k long hi q n r1 a1 b1 c1 (j + 1) i1 := by
      have A : ∀ (r1 : Abs.Rows), ArrOk r1 → r1.length ≤ r.length + 1 → ∀ (i0 : Int), i + 2 ≤ i0 → i0 ≤ i + 19 → ∃ (r2 : Abs.Rows) (i1 : Int), ArrOk r2 ∧ r2.length ≤ r1.length + 1 ∧ i0 ≤ i1 ∧ i1 ≤ i0 + 1 ∧ ∀ (R : Type) (k : Abs.Rows → Int → Option R),
          Jn71_20 (m + 5) k r1 (IntKind.wrap IntKind.i64 (a + 1)) (IntKind.wrap IntKind.i64 (b + long)) (IntKind.wrap IntKind.i64 (c + pk (Q5l long) q (i + 1 + t))) long hi j q i0 = k r2 i1 :=
        fun r1 hr1 hl1 i0 q0 q1 => jn71_20 (m + 2) hr1 (by omega) _ _ _ _ _ _ q (by omega) (by omega)
      have B : ∀ (z : Bool), (z = true → 0 < r.length) → ∀ (i0 : Int), ∃ (r1 : Abs.Rows) (b1 : Bool), ArrOk r1 ∧ r1.length = r.length + 1 ∧ ∀ (R : Type) (k : Abs.Rows → Bool → Option R),
          Jn71_17 (m + 5) k r (IntKind.wrap IntKind.i64 (a + 1)) (IntKind.wrap IntKind.i64 (b + long)) (IntKind.wrap IntKind.i64 (c + pk (Q5l long) q (i + 1 + t))) long 0 (Int.tmod a 65536) (Int.tmod b 4294967296) 7 false p hi j z q i0 = k r1 b1 :=
        fun z hz i0 => jn71_17 (m + 5) h6 (by omega) _ _ _ _ _ _ _ _ _ hp _ _ z q i0 hz
      by_cases f1 : nx q (i + 1 + t + 1) % 5 = 0
      · obtain ⟨r1, i1, g1, g2, g3, g4, g5⟩ := A r h6 (by omega) (i + 1 + t + 1 + 1) (by omega) (by omega)
        refine ⟨r1, IntKind.wrap IntKind.i64 (a + 1), IntKind.wrap IntKind.i64 (b + long), IntKind.wrap IntKind.i64 (c + pk (Q5l long) q (i + 1 + t)), i1, g1, by omega, by omega, by omega, fun R k => ?_⟩
        simp only [Lp71_5, Lp71_5_step]
        rw [dT (by omega), fn20 (m + 2) q _ h0 (by omega) (by simp) (by simp), hpl, fn20 (m + 2) q _ (by omega) (by omega) (by simp) (by simp), fn39 (m + 2) q (by omega) (by omega) (by omega) (by omega), beq_iff_eq.2 f1, bT rfl, g5, wj]
      · by_cases f2 : (r.length : Int) > 0
        · obtain ⟨r0, b0, e1, e2, e3⟩ := B (nx q (i + 1 + t + 1 + 1) % 5 == 0) (fun _ => by omega) (i + 1 + t + 1 + 1 + 1)
          obtain ⟨r1, i1, g1, g2, g3, g4, g5⟩ := A r0 e1 (by omega) (i + 1 + t + 1 + 1 + 1) (by omega) (by omega)
          refine ⟨r1, IntKind.wrap IntKind.i64 (a + 1), IntKind.wrap IntKind.i64 (b + long), IntKind.wrap IntKind.i64 (c + pk (Q5l long) q (i + 1 + t)), i1, g1, by omega, by omega, by omega, fun R k => ?_⟩
          simp only [Lp71_5, Lp71_5_step]
          rw [dT (by omega), fn20 (m + 2) q _ h0 (by omega) (by simp) (by simp), hpl, fn20 (m + 2) q _ (by omega) (by omega) (by simp) (by simp), fn39 (m + 2) q (by omega) (by omega) (by omega) (by omega), beq_false_of_ne f1, bF rfl, dT f2, fn39 (m + 2) q (by omega) (by omega) (by omega) (by omega), e3, g5, wj]
        · obtain ⟨r0, b0, e1, e2, e3⟩ := B false (fun h => by cases h) (i + 1 + t + 1 + 1)
          obtain ⟨r1, i1, g1, g2, g3, g4, g5⟩ := A r0 e1 (by omega) (i + 1 + t + 1 + 1) (by omega) (by omega)
          refine ⟨r1, IntKind.wrap IntKind.i64 (a + 1), IntKind.wrap IntKind.i64 (b + long), IntKind.wrap IntKind.i64 (c + pk (Q5l long) q (i + 1 + t)), i1, g1, by omega, by omega, by omega, fun R k => ?_⟩
          simp only [Lp71_5, Lp71_5_step]
          rw [dT (by omega), fn20 (m + 2) q _ h0 (by omega) (by simp) (by simp), hpl, fn20 (m + 2) q _ (by omega) (by omega) (by simp) (by simp), fn39 (m + 2) q (by omega) (by omega) (by omega) (by omega), beq_false_of_ne f1, bF rfl, dF f2, e3, g5, wj]
    obtain ⟨r1, a1, b1, c1, i1, g1, g2, g3, g4, g5⟩ := key
    obtain ⟨r', a', b', c', i', k1, k2, k3, k4, k5⟩ := lp71_5 m q long hh hm d n r1 a1 b1 c1 (j + 1) i1 (by omega) (by omega) (by omega) (by omega) (by omega) (by omega) g1
    exact ⟨r', a', b', c', i', k1, by omega, by omega, by omega, fun R k => by rw [g5, k5]⟩
end Go.Proofs.Ytjhfbmhblpjigaa.Med
end
section
set_option linter.unusedVariables false
set_option linter.unusedSimpArgs false
namespace Go.Proofs.Ytjhfbmhblpjigaa.Med
open Go Go.Abs Go.Proofs
set_option linter.unusedVariables false
set_option linter.unusedSimpArgs false
theorem fn71 (m : Nat) (q : Abs.Rows) {i most : Int} (h0 : 0 ≤ i) (h1 : i ≤ 1000) (hm0 : 0 ≤ most) (hm1 : most ≤ 90) (hm : 100 ≤ m) :
    ∃ (r' : Abs.Rows) (i' : Int), ArrOk r' ∧ (r'.length : Int) ≤ 2 * most ∧ i ≤ i' ∧ i' ≤ i + 20 * most + 10 ∧ ∀ (R : Type) (k : Abs.Rows → Int → Option R), Fn71 (m + 6) q i most k = k r' i' := by
  have a1 := Int.emod_nonneg (nx q (i + 1 + 1 + 1 + 1)) (show most - 0 + 1 ≠ 0 by omega)
  have a2 := Int.emod_lt_of_pos (nx q (i + 1 + 1 + 1 + 1)) (show 0 < most - 0 + 1 by omega)
  obtain ⟨d, hd⟩ := Int.eq_ofNat_of_zero_le a1
  have key : ∃ (a b c e : Int), ∀ (R : Type) (k : Abs.Rows → Int → Option R), Fn71 (m + 6) q i most k = Lp71_5 (m + 5) (fun r456 i457 i458 i459 i460 i461 => k r456 i461) e (0 + nx q (i + 1 + 1 + 1 + 1) % (most - 0 + 1)) q (m + 5) rows0 a b c 0 (i + 1 + 1 + 1 + 1 + 1) := by
    refine ⟨pk [[F.lit (Value.int IntKind.i64 (0 : Int))], [F.lit (Value.int IntKind.i64 (5 : Int))], [F.lit (Value.int IntKind.i64 (65533 : Int))]] q i, pk [[F.lit (Value.int IntKind.i64 (0 : Int))], [F.lit (Value.int IntKind.i64 (100 : Int))], [F.lit (Value.int IntKind.i64 (4294967096 : Int))]] q (i + 1), 0 + nx q (i + 1 + 1) % (50 - 0 + 1), pk [[F.lit (Value.int IntKind.i64 (8 : Int))], [F.lit (Value.int IntKind.i64 (80 : Int))], [F.lit (Value.int IntKind.i64 (160 : Int))]] q (i + 1 + 1 + 1), fun R k => ?_⟩
    simp only [Fn71]
    rw [fn20 (m + 2) q _ (by omega) (by omega) (by simp) (by simp), fn20 (m + 2) q _ (by omega) (by omega) (by simp) (by simp), fn21 (m + 2) q (by omega) (by omega) (by omega) (by omega) (by omega), fn20 (m + 2) q _ (by omega) (by omega) (by simp) (by simp), fn21 (m + 2) q (by omega) (by omega) (by omega) (by omega) (by omega)]
  obtain ⟨a, b, c, e, hk⟩ := key
  obtain ⟨r', a', b', c', i', k1, k2, k3, k4, k5⟩ := lp71_5 m q e (hi := 0 + nx q (i + 1 + 1 + 1 + 1) % (most - 0 + 1)) (by omega) (by omega) d (m + 5) rows0 a b c 0 (i + 1 + 1 + 1 + 1 + 1) (by omega) (by omega) (by omega) (by omega) (by omega) (by simp; omega) (fun x hx => by simp at hx)
  refine ⟨r', i', k1, ?_, by omega, by omega, fun R k => by rw [hk, k5]⟩
  simp at k2
  omega
theorem fn33 (m : Nat) (q : Abs.Rows) {i most : Int} (h0 : 0 ≤ i) (h1 : i ≤ 1000) (hm0 : 0 ≤ most) (hm1 : most ≤ 90) (hm : 100 ≤ m) :
    ∃ (r' : Abs.Rows) (i' : Int), ArrOk r' ∧ (r'.length : Int) ≤ 2 * most ∧ i ≤ i' ∧ i' ≤ i + 20 * most + 20 ∧ ∀ (R : Type) (k : Abs.Rows → Int → Option R), Fn33 (m + 7) q i most k = k r' i' := by
  obtain ⟨r, j, g1, g2, g3, g4, g5⟩ := fn71 m q h0 h1 hm0 hm1 hm
  have J : ∀ (b : Bool), (b = true → 0 < r.length) → ∀ (i0 : Int), 0 ≤ i0 → i0 ≤ 100000 → ∃ (r' : Abs.Rows) (b' : Bool) (i' : Int), ArrOk r' ∧ r'.length = r.length ∧ i0 ≤ i' ∧ i' ≤ i0 + 5 ∧ ∀ (R : Type) (k : Abs.Rows → Bool → Int → Option R), Jn33_2 (m + 6) k r b q i0 = k r' b' i' := by
    intro b hb i0 q0 q1
    cases b with
    | false => exact ⟨r, false, i0, g1, rfl, by omega, by omega, fun R k => rfl⟩
    | true =>
      have hl := hb rfl
      have b1 := Int.emod_nonneg (nx q i0) (show (r.length : Int) ≠ 0 by omega)
      have b2 := Int.emod_lt_of_pos (nx q i0) (show 0 < (r.length : Int) by omega)
      have b3 := Int.emod_nonneg (nx q (i0 + 1)) (show (4 : Int) ≠ 0 by omega)
      have st : ∀ (R : Type) (k : Abs.Rows → Bool → Int → Option R), Jn33_2 (m + 6) k r true q i0 = bif nx q (i0 + 1) % 4 == (0 : Int) then (Fn60 (m + 6) q (i0 + 1 + 1) ((0 : Int)) ((50 : Int)) (fun i476 i477 => k (stR tsA r (Int.toNat (nx q i0 % (r.length : Int))) (0 + 0) [F.lit (Value.int IntKind.i64 i476)]) true i477)) else
          (bif nx q (i0 + 1) % 4 == (1 : Int) then (Fn20 (m + 6) q (i0 + 1 + 1) ([[F.lit (Value.int IntKind.i64 (7 : Int))], [F.lit (Value.int IntKind.i64 (8 : Int))]]) (fun i478 i479 => k (stR tsA r (Int.toNat (nx q i0 % (r.length : Int))) (0 + 1 + 3) [F.lit (Value.int IntKind.i64 i478)]) true i479)) else
          (bif nx q (i0 + 1) % 4 == (2 : Int) then (Fn60 (m + 6) q (i0 + 1 + 1) ((0 : Int)) ((65535 : Int)) (fun i480 i481 => k (stR tsA r (Int.toNat (nx q i0 % (r.length : Int))) (0 + 1 + 1) [F.lit (Value.int IntKind.i64 i480)]) true i481)) else
          (Fn60 (m + 6) q (i0 + 1 + 1) ((0 : Int)) ((4294967295 : Int)) (fun i482 i483 => k (stR tsA r (Int.toNat (nx q i0 % (r.length : Int))) (0 + 1 + 2) [F.lit (Value.int IntKind.i64 i482)]) true i483)))) := by
        intro R k
        simp only [Jn33_2, cond_true]
        rw [fn59 (m + 4) q q0 (by omega) (by omega) (by omega), dT ⟨b1, b2⟩, fn59 (m + 4) q (by omega) (by omega) (by omega) (by omega)]
      by_cases c0 : nx q (i0 + 1) % 4 = 0
      · obtain ⟨v, i', h4, h5, h6⟩ := fn60 (m + 2) q 0 50 (i := i0 + 1 + 1) (by omega) (by omega) (by omega) (by omega) (by omega)
        exact ⟨_, _, i', g1.st0 _ _, stR_len _ _ _ _ _, by omega, by omega, fun R k => by rw [st, eT c0, h6]⟩
      by_cases c1 : nx q (i0 + 1) % 4 = 1
      · exact ⟨_, _, i0 + 1 + 1 + 1, g1.st3 _ _, stR_len _ _ _ _ _, by omega, by omega, fun R k => by rw [st, eF c0, eT c1, fn20 (m + 3) q _ (by omega) (by omega) (by simp) (by simp)]⟩
      by_cases c2 : nx q (i0 + 1) % 4 = 2
      · obtain ⟨v, i', h4, h5, h6⟩ := fn60 (m + 2) q 0 65535 (i := i0 + 1 + 1) (by omega) (by omega) (by omega) (by omega) (by omega)
        exact ⟨_, _, i', g1.st1 _ _, stR_len _ _ _ _ _, by omega, by omega, fun R k => by rw [st, eF c0, eF c1, eT c2, h6]⟩
      · obtain ⟨v, i', h4, h5, h6⟩ := fn60 (m + 2) q 0 4294967295 (i := i0 + 1 + 1) (by omega) (by omega) (by omega) (by omega) (by omega)
        exact ⟨_, _, i', g1.st2 _ _, stR_len _ _ _ _ _, by omega, by omega, fun R k => by rw [st, eF c0, eF c1, eF c2, h6]⟩
  by_cases hc : (r.length : Int) > 0
  · obtain ⟨r', b', i', e1, e2, e3, e4, e5⟩ := J (nx q j % 12 == 0) (fun _ => by omega) (j + 1) (by omega) (by omega)
    refine ⟨r', i', e1, by omega, by omega, by omega, fun R k => ?_⟩
    simp only [Fn33]
    rw [g5, dT hc, fn39 (m + 3) q (by omega) (by omega) (by omega) (by omega), e5]
  · obtain ⟨r', b', i', e1, e2, e3, e4, e5⟩ := J false (fun h => by cases h) j (by omega) (by omega)
    refine ⟨r', i', e1, by omega, by omega, by omega, fun R k => ?_⟩
    simp only [Fn33]
    rw [g5, dF hc, e5]
end Go.Proofs.Ytjhfbmhblpjigaa.Med
end
section
set_option linter.unusedVariables false
set_option linter.unusedSimpArgs false
namespace Go.Proofs.Ytjhfbmhblpjigaa.Med
open Go Go.Abs Go.Proofs
set_option linter.unusedVariables false
set_option linter.unusedSimpArgs false
theorem inT {x lo hi : Int} (m : Nat) {R : Type} (k : Bool → Option R) : Fn67 (m + 1) x lo hi k = k (decide (lo ≤ x ∧ x ≤ hi)) ∧ Fn63 (m + 1) x lo hi k = k (decide (lo ≤ x ∧ x ≤ hi)) := by
  constructor
  · simp only [Fn67]
    by_cases h : x ≥ lo
    · rw [dT h]; congr 1; simp; omega
    · rw [dF h]; congr 1; symm; simp; omega
  · simp only [Fn63]
    by_cases h : lo ≤ x
    · rw [dT h]; congr 1; simp; omega
    · rw [dF h]; congr 1; symm; simp; omega
/-- the fault of a packet -/
def pF (a b c d : Int) (p : Abs.Rows) : Int := if ¬(0 ≤ a ∧ a ≤ 127) ∨ ¬(0 ≤ b ∧ b ≤ 65535) ∨ ¬(0 ≤ c ∧ c ≤ 4294967295) ∨ ¬(0 ≤ d ∧ d ≤ 4294967295) then 1 else if (p.length : Int) > 1000 then 2 else 0
theorem fn16 (m : Nat) (a b c d : Int) (e : Bool) (p : Abs.Rows) {R : Type} (k : Int → Option R) : Fn16 (m + 2) a b c d e p k = k (pF a b c d p) ∧ Fn12 (m + 2) a b c d e p k = k (pF a b c d p) := by
  have j : ∀ (b : Bool) (kx0 : Int → Bool → Option R) (kx1 : Bool → Option R) (x y z u : Int) (v : Bool) (w : Int), Jn16_1 (m + 1) kx0 kx1 x y z u v p w b = (if b then kx0 1 true else if (p.length : Int) > 1000 then kx0 2 false else kx1 false) ∧
      Jn12_1 (m + 1) kx0 kx1 x y z u v p w b = (if b then kx0 1 true else if (p.length : Int) > 1000 then kx0 2 false else kx1 false) := by
    intro b kx0 kx1 x y z u v w
    simp only [Jn16_1, Jn12_1, Bool.cond_eq_ite, decide_eq_true_eq, and_self]
  unfold pF
  constructor
  · simp only [Fn16, (inT m _).1, (j _ _ _ _ _ _ _ _ _).1]
    by_cases h1 : 0 ≤ a ∧ a ≤ 127 <;> by_cases h2 : 0 ≤ b ∧ b ≤ 65535 <;> by_cases h3 : 0 ≤ c ∧ c ≤ 4294967295 <;> by_cases h4 : 0 ≤ d ∧ d ≤ 4294967295 <;> by_cases h5 : (p.length : Int) > 1000 <;> simp [h1, h2, h3, h4, h5]
  · simp only [Fn12, (inT m _).2, (j _ _ _ _ _ _ _ _ _).2]
    by_cases h1 : 0 ≤ a ∧ a ≤ 127 <;> by_cases h2 : 0 ≤ b ∧ b ≤ 65535 <;> by_cases h3 : 0 ≤ c ∧ c ≤ 4294967295 <;> by_cases h4 : 0 ≤ d ∧ d ≤ 4294967295 <;> by_cases h5 : (p.length : Int) > 1000 <;> simp [h1, h2, h3, h4, h5]
def momB (x : Int) : Bool := decide (0 ≤ x ∧ x ≤ 345686399999)
theorem fn79 (m : Nat) (x : Int) {R : Type} (k : Bool → Option R) : Fn79 (m + 2) x k = k (momB x) ∧ Fn73 (m + 2) x k = k (momB x) := by
  constructor
  · simp only [Fn79, momB]
    by_cases h : x ≥ 0
    · rw [dT h]; congr 1; rw [decide_eq_decide]; omega
    · rw [dF h]; congr 1; symm; rw [decide_eq_false_iff_not]; omega
  · simp only [Fn73]; rw [(inT m _).2]; rfl
/-- the faults of arrivals: found alike -/
theorem lp49 (r : Abs.Rows) (hl : (r.length : Int) ≤ 2000) : ∀ (d i : Nat), i + d = r.length →
    (∃ v j : Int, ∀ (m n : Nat), d ≤ n → ∀ (R : Type) (kx0 : Int → Int → Option R) (kx1 : Int → Option R) (z : Int), Lp49_5 (m + 3) kx0 kx1 r z r r.length (n + 1) i = kx0 v j ∧ Lp36_5 (m + 3) kx0 kx1 r z r r.length (n + 1) i = kx0 v j) ∨
    ∀ (m n : Nat), d ≤ n → ∀ (R : Type) (kx0 : Int → Int → Option R) (kx1 : Int → Option R) (z : Int), Lp49_5 (m + 3) kx0 kx1 r z r r.length (n + 1) i = kx1 r.length ∧ Lp36_5 (m + 3) kx0 kx1 r z r r.length (n + 1) i = kx1 r.length
  | 0, i, h1 => by
    right
    intro m n h2 R kx0 kx1 z
    have : (i : Int) = r.length := by omega
    simp only [Lp49_5, Lp49_5_step, Lp36_5, Lp36_5_step]
    rw [dF (by omega), dF (by omega), this]
    exact ⟨rfl, rfl⟩
  | d + 1, i, h1 => by
    have e : Int.toNat (i : Int) = i := by omega
    have e2 : IntKind.wrap IntKind.i64 ((i : Int) + 1) = ((i + 1 : Nat) : Int) := by rw [w64 (by omega) (by omega)]; omega
    have e3 : IntKind.wrap IntKind.i64 ((i : Int) - 1) = (i : Int) - 1 := w64 (by omega) (by omega)
    by_cases c1 : momB (fI r i 0) = true
    rotate_left
    · left
      refine ⟨1, i, fun m n h2 R kx0 kx1 z => ?_⟩
      simp only [Lp49_5, Lp49_5_step, Lp36_5, Lp36_5_step, e]
      have c1' := Bool.eq_false_iff.2 c1
      constructor
      · rw [dT (by omega), dT (by omega), (fn79 (m + 1) _ _).1, c1', Bool.not_false, bT rfl]
      · rw [dT (by omega), dT (by omega), (fn79 (m + 1) _ _).2, c1', Bool.not_false, bT rfl]
    by_cases c2 : pF (fI r i 1) (fI r i 2) (fI r i 3) (fI r i 4) (fR r i 6) = 0
    rotate_left
    · left
      refine ⟨pF (fI r i 1) (fI r i 2) (fI r i 3) (fI r i 4) (fR r i 6), i, fun m n h2 R kx0 kx1 z => ?_⟩
      simp only [Lp49_5, Lp49_5_step, Lp36_5, Lp36_5_step, e]
      rw [dT (by omega), dT (by omega), (fn79 (m + 1) _ _).1, c1, Bool.not_true, bF rfl, (fn16 (m + 1) _ _ _ _ _ _ _).1, nT c2, dT (by omega), dT (by omega), (fn79 (m + 1) _ _).2, c1, Bool.not_true, bF rfl, (fn16 (m + 1) _ _ _ _ _ _ _).2, nT c2]
      exact ⟨rfl, rfl⟩
    have st : ∀ (m n : Nat) (h2 : d + 1 ≤ n) (R : Type) (kx0 : Int → Int → Option R) (kx1 : Int → Option R) (z : Int), (Lp49_5 (m + 3) kx0 kx1 r z r r.length (n + 1) i = if (0 < i ∧ fI r i 0 < fI r (i - 1) 0) then kx0 7 i else if fI r i 4 ≠ fI r 0 4 then kx0 13 i else Lp49_5 (m + 3) kx0 kx1 r z r r.length n ((i + 1 : Nat) : Int)) ∧
        (Lp36_5 (m + 3) kx0 kx1 r z r r.length (n + 1) i = if (0 < i ∧ fI r i 0 < fI r (i - 1) 0) then kx0 7 i else if fI r i 4 ≠ fI r 0 4 then kx0 13 i else Lp36_5 (m + 3) kx0 kx1 r z r r.length n ((i + 1 : Nat) : Int)) := by
      intro m n h2 R kx0 kx1 z
      have e4 : 0 < i → Int.toNat ((i : Int) - 1) = i - 1 := fun h => by omega
      constructor
      · simp only [Lp49_5, Lp49_5_step, e, e2, e3]
        rw [dT (by omega), dT (by omega), (fn79 (m + 1) _ _).1, c1, Bool.not_true, bF rfl, (fn16 (m + 1) _ _ _ _ _ _ _).1, nF c2]
        by_cases hi : 0 < i
        · rw [dT (by omega), dT (by omega), e4 hi]
          by_cases c3 : fI r i 0 < fI r (i - 1) 0
          · rw [dT c3, if_pos ⟨hi, c3⟩]
          · rw [dF c3, if_neg (by simp [c3])]
            simp only [Jn49_18, Int.toNat_zero]
            rw [dT (by omega)]
            by_cases c4 : fI r i 4 = fI r 0 4
            · rw [nF c4, if_neg (by simp [c4])]
            · rw [nT c4, if_pos c4]
        · rw [dF (by omega), if_neg (by simp [hi])]
          simp only [Jn49_18, Int.toNat_zero]
          rw [dT (by omega)]
          by_cases c4 : fI r i 4 = fI r 0 4
          · rw [nF c4, if_neg (by simp [c4])]
          · rw [nT c4, if_pos c4]
      · simp only [Lp36_5, Lp36_5_step, e, e2, e3]
        rw [dT (by omega), dT (by omega), (fn79 (m + 1) _ _).2, c1, Bool.not_true, bF rfl, (fn16 (m + 1) _ _ _ _ _ _ _).2, nF c2]
        by_cases hi : 0 < i
        · rw [dT (by omega), dT (by omega), e4 hi]
          simp only [Jn36_16, Int.toNat_zero]
          by_cases c3 : fI r i 0 < fI r (i - 1) 0
          · rw [dT c3, if_pos ⟨hi, c3⟩]
          · rw [dF c3, if_neg (by simp [c3])]
            rw [dT (by omega)]
            by_cases c4 : fI r i 4 = fI r 0 4
            · rw [nF c4, if_neg (by simp [c4])]
            · rw [nT c4, if_pos c4]
        · rw [dF (by omega), if_neg (by simp [hi])]
          simp only [Jn36_16, cond_false, Int.toNat_zero]
          rw [dT (by omega)]
          by_cases c4 : fI r i 4 = fI r 0 4
          · rw [nF c4, if_neg (by simp [c4])]
          · rw [nT c4, if_pos c4]
    by_cases c3 : 0 < i ∧ fI r i 0 < fI r (i - 1) 0
    · left
      refine ⟨7, i, fun m n h2 R kx0 kx1 z => ?_⟩
      rw [(st m n h2 R kx0 kx1 z).1, (st m n h2 R kx0 kx1 z).2, if_pos c3, if_pos c3]
      exact ⟨rfl, rfl⟩
    by_cases c4 : fI r i 4 ≠ fI r 0 4
    · left
      refine ⟨13, i, fun m n h2 R kx0 kx1 z => ?_⟩
      rw [(st m n h2 R kx0 kx1 z).1, (st m n h2 R kx0 kx1 z).2, if_neg c3, if_neg c3, if_pos c4, if_pos c4]
      exact ⟨rfl, rfl⟩
    · rcases lp49 r hl d (i + 1) (by omega) with ⟨v, j, h⟩ | h
      · left
        refine ⟨v, j, fun m n h2 R kx0 kx1 z => ?_⟩
        rw [(st m n h2 R kx0 kx1 z).1, (st m n h2 R kx0 kx1 z).2, if_neg c3, if_neg c3, if_neg c4, if_neg c4]
        obtain ⟨n', rfl⟩ : ∃ n', n = n' + 1 := ⟨n - 1, by omega⟩
        exact h m n' (by omega) R kx0 kx1 z
      · right
        intro m n h2 R kx0 kx1 z
        rw [(st m n h2 R kx0 kx1 z).1, (st m n h2 R kx0 kx1 z).2, if_neg c3, if_neg c3, if_neg c4, if_neg c4]
        obtain ⟨n', rfl⟩ : ∃ n', n = n' + 1 := ⟨n - 1, by omega⟩
        exact h m n' (by omega) R kx0 kx1 z
theorem fn49 (r : Abs.Rows) : ∃ v : Int, ∀ (m : Nat), r.length < m → ∀ (R : Type) (k : Int → Option R), Fn49 (m + 4) r k = k v ∧ Fn36 (m + 4) r k = k v := by
  by_cases h : (r.length : Int) > 2000
  · refine ⟨2, fun m hm R k => ?_⟩
    simp only [Fn49, Fn36]
    rw [dT h, dT h]
    exact ⟨rfl, rfl⟩
  · rcases lp49 r (by omega) r.length 0 (by omega) with ⟨v, j, g⟩ | g
    · refine ⟨v, fun m hm R k => ?_⟩
      simp only [Fn49, Fn36]
      rw [dF h, dF h]
      exact g m (m + 2) (by omega) R _ _ 0
    · refine ⟨0, fun m hm R k => ?_⟩
      simp only [Fn49, Fn36]
      rw [dF h, dF h]
      exact g m (m + 2) (by omega) R _ _ 0
end Go.Proofs.Ytjhfbmhblpjigaa.Med
end
section
set_option linter.unusedVariables false
set_option linter.unusedSimpArgs false
namespace Go.Proofs.Ytjhfbmhblpjigaa.Med
open Go Go.Abs Go.Proofs
set_option linter.unusedVariables false
set_option linter.unusedSimpArgs false
theorem and32 (x : Int) : bitsOp IntKind.i64 (BitVec.ofInt (64 : Nat) x &&& BitVec.ofInt (64 : Nat) (4294967295 : Int)) = x % 4294967296 := by
  have h1 : (BitVec.ofInt 64 x &&& BitVec.ofInt 64 (4294967295 : Int)).toNat = ((x % 4294967296).toNat) := by
    rw [BitVec.toNat_and, BitVec.toNat_ofInt, BitVec.toNat_ofInt]
    rw [show ((4294967295 : Int) % ((2 ^ 64 : Nat) : Int)).toNat = 2 ^ 32 - 1 from rfl, Nat.and_two_pow_sub_one_eq_mod]
    have : ((2 ^ 64 : Nat) : Int) = 18446744073709551616 := rfl
    rw [this]
    omega
  have h2 : bitsOp IntKind.i64 (BitVec.ofInt (64 : Nat) x &&& BitVec.ofInt (64 : Nat) (4294967295 : Int)) = IntKind.wrap .i64 (((x % 4294967296).toNat : Nat) : Int) := congrArg (fun n : Nat => IntKind.wrap .i64 (n : Int)) h1
  rw [h2, w64 (by omega) (by omega)]
  omega
/-- the difference of two times -/
def tA (a b : Int) : Int := if (a - b) % 4294967296 ≥ 2147483648 then (a - b) % 4294967296 - 4294967296 else (a - b) % 4294967296
theorem tA_b (a b : Int) : -2147483648 ≤ tA a b ∧ tA a b < 2147483648 := by unfold tA; split <;> omega
theorem fn72 (m : Nat) (a b : Int) {R : Type} (k : Int → Option R) : Fn72 (m + 1) a b k = k (tA a b) ∧ Fn74 (m + 1) a b k = k (tA a b) := by
  have hw : IntKind.wrap .i64 (a - b) % 4294967296 = (a - b) % 4294967296 := by rw [IntKind.wrap_i64]; omega
  constructor
  · simp only [Fn72, and32, hw, tA]
    by_cases h : (a - b) % 4294967296 ≥ 2147483648
    · rw [dT h, if_pos h, w64 (by omega) (by omega)]
    · rw [dF h, if_neg h]
  · simp only [Fn74, tA]
    congr 1
    rw [w64 (by rw [IntKind.wrap_i32]; omega) (by rw [IntKind.wrap_i32]; omega), IntKind.wrap_i32, IntKind.wrap_u32, IntKind.wrap_u32, IntKind.wrap_u32]
    split <;> omega
theorem fn75 (m : Nat) {x : Int} (h0 : -2147483648 ≤ x) (h1 : x < 2147483648) {R : Type} (k : Int → Option R) : Fn75 (m + 1) x 8 k = k (Int.fdiv x ((2 : Int) ^ min (Int.toNat (3 : Int)) (64 : Nat))) := by
  have e : Int.fdiv x ((2 : Int) ^ min (Int.toNat (3 : Int)) (64 : Nat)) = x / 8 := Int.fdiv_eq_ediv_of_nonneg _ (by decide)
  rw [e]
  simp only [Fn75]
  rw [dT (by decide)]
  by_cases hx : 0 ≤ x
  · rw [tm_pos hx, td_pos hx, dF (by omega), dT (by decide), w64 (by omega) (by omega)]
  · have h3 : Int.tdiv x 8 = -((-x) / 8) := by
      rw [← Int.neg_neg x, Int.neg_tdiv, Int.neg_neg, td_pos (by omega)]
    have h4 : Int.tmod x 8 = -((-x) % 8) := by
      rw [← Int.neg_neg x, Int.neg_tmod, Int.neg_neg, tm_pos (by omega)]
    rw [h3, h4]
    by_cases h5 : -(-x % 8) < 0
    · rw [dT h5, dT (by decide), w64 (x := -(-x / 8)) (by omega) (by omega), w64 (by omega) (by omega)]
      congr 1
      omega
    · rw [dF h5, dT (by decide), w64 (by omega) (by omega)]
      congr 1
      omega
/-- what is played: the samples, and which of them are there -/
theorem jn34_24 (m : Nat) {c : Int} (hc : Byt c) (out th : Abs.Rows) (ht : th.length = out.length) (i : Int) (b : Bool) (hb : b = true → 0 ≤ i ∧ i < out.length) :
    ∃ (o t : Abs.Rows) (b' : Bool), o.length = out.length ∧ t.length = out.length ∧ ∀ (R : Type) (k : Abs.Rows → Abs.Rows → Bool → Option R) (x1 : Abs.Rows) (x2 x3 x4 x5 x6 x7 : Int) (x8 : Bool) (x9 : Abs.Rows) (y1 : Int) (y2 : Abs.Rows) (y3 y4 : Int) (y5 : Abs.Rows) (y6 y7 : Int),
      Jn34_24 (m + 1) k x1 x2 out th x3 x4 x5 x6 x7 x8 x9 y1 c i y2 y3 y4 y5 y6 y7 b = k o t b' ∧ Jn37_17 (m + 1) k x1 x2 out th x3 x4 x5 x6 x7 x8 x9 y1 c i y2 y3 y4 y5 y6 y7 b = k o t b' := by
  cases b with
  | false => exact ⟨out, th, false, rfl, ht, fun R k x1 x2 x3 x4 x5 x6 x7 x8 x9 y1 y2 y3 y4 y5 y6 y7 => ⟨rfl, rfl⟩⟩
  | true =>
    obtain ⟨h0, h1⟩ := hb rfl
    refine ⟨stR [LT.int IntKind.i64] out (Int.toNat i) (0 : Nat) [F.lit (Value.int IntKind.i64 (ev c))], stR [LT.bool] th (Int.toNat i) (0 : Nat) [F.lit (Value.bool true)], true, by simp [stR], by simp [stR, ht], fun R k x1 x2 x3 x4 x5 x6 x7 x8 x9 y1 y2 y3 y4 y5 y6 y7 => ⟨?_, ?_⟩⟩
    · simp only [Jn34_24, cond_true, letV]
      rw [(ev_ok m hc R _).1, dT ⟨h0, h1⟩, dT (by omega)]
    · simp only [Jn37_17, cond_true, letV]
      rw [(ev_ok m hc R _).2, dT ⟨h0, h1⟩, dT (by omega)]
theorem lp34_19 (m : Nat) {p : Abs.Rows} (hp : PayOk p) {fr : Int} (hf : -2147483648 ≤ fr ∧ fr < 2147483648) : ∀ (d n j : Nat) (out th : Abs.Rows), j + d = p.length → d < n → th.length = out.length → (out.length : Int) ≤ 100000 →
    ∃ (o t : Abs.Rows), o.length = out.length ∧ t.length = out.length ∧ ∀ (R : Type) (k : Abs.Rows → Abs.Rows → Int → Option R) (x1 : Abs.Rows) (x2 x3 x4 x5 x6 x7 : Int) (x8 : Bool) (x9 : Abs.Rows) (y2 : Abs.Rows) (y3 y4 : Int),
      Lp34_19 (m + 2) k x1 x2 x3 x4 x5 x6 x7 x8 x9 fr y2 y3 y4 p p.length n out th j = k o t p.length ∧ Lp37_12 (m + 2) k x1 x2 x3 x4 x5 x6 x7 x8 x9 fr y2 y3 y4 p p.length n out th j = k o t p.length
  | d, 0, j, out, th, h1, h2, h3, h4 => by omega
  | 0, n + 1, j, out, th, h1, h2, h3, h4 => by
    refine ⟨out, th, rfl, h3, fun R k x1 x2 x3 x4 x5 x6 x7 x8 x9 y2 y3 y4 => ?_⟩
    have : (j : Int) = p.length := by omega
    simp only [Lp34_19, Lp34_19_step, Lp37_12, Lp37_12_step]
    rw [dF (by omega), dF (by omega), this]
    exact ⟨rfl, rfl⟩
  | d + 1, n + 1, j, out, th, h1, h2, h3, h4 => by
    obtain ⟨hl, hB⟩ := hp
    have e : Int.toNat (j : Int) = j := by omega
    have e2 : IntKind.wrap IntKind.i64 ((j : Int) + 1) = ((j + 1 : Nat) : Int) := by rw [w64 (by omega) (by omega)]; omega
    have e3 : IntKind.wrap IntKind.i64 (fr + (j : Int)) = fr + j := w64 (by omega) (by omega)
    have e4 : IntKind.wrap IntKind.i64 ((out.length : Int) - 1) = (out.length : Int) - 1 := w64 (by omega) (by omega)
    by_cases c1 : 0 ≤ fr + j ∧ fr + j < out.length
    · obtain ⟨o1, t1, b1, g1, g2, g3⟩ := jn34_24 (m + 1) (hB j (by omega)) out th h3 (fr + j) (!fB th (Int.toNat (fr + j)) 0) (fun _ => c1)
      obtain ⟨o, t, k1, k2, k3⟩ := lp34_19 m ⟨hl, hB⟩ hf d n (j + 1) o1 t1 (by omega) (by omega) (by omega) (by omega)
      refine ⟨o, t, by omega, by omega, fun R k x1 x2 x3 x4 x5 x6 x7 x8 x9 y2 y3 y4 => ⟨?_, ?_⟩⟩
      · simp only [Lp34_19, Lp34_19_step, e, e2, e3]
        rw [dT (by omega), dT (by omega), dT c1.1, dT c1.2, dT (by omega), (g3 _ _ _ _ _ _ _ _ _ _ _ _ _ _ _ _ _ _).1]
        exact (k3 R k x1 x2 x3 x4 x5 x6 x7 x8 x9 y2 y3 y4).1
      · simp only [Lp37_12, Lp37_12_step, e, e2, e3, e4]
        rw [dT (by omega), dT (by omega), (inT (m + 1) _).2, decide_eq_true (by omega), bT rfl, dT (by omega), (g3 _ _ _ _ _ _ _ _ _ _ _ _ _ _ _ _ _ _).2]
        exact (k3 R k x1 x2 x3 x4 x5 x6 x7 x8 x9 y2 y3 y4).2
    · obtain ⟨o1, t1, b1, g1, g2, g3⟩ := jn34_24 (m + 1) (hB j (by omega)) out th h3 (fr + j) false (fun h => by cases h)
      obtain ⟨o, t, k1, k2, k3⟩ := lp34_19 m ⟨hl, hB⟩ hf d n (j + 1) o1 t1 (by omega) (by omega) (by omega) (by omega)
      refine ⟨o, t, by omega, by omega, fun R k x1 x2 x3 x4 x5 x6 x7 x8 x9 y2 y3 y4 => ⟨?_, ?_⟩⟩
      · simp only [Lp34_19, Lp34_19_step, e, e2, e3]
        rw [dT (by omega), dT (by omega)]
        by_cases c2 : fr + j ≥ 0
        · rw [dT c2, dF (by omega), (g3 _ _ _ _ _ _ _ _ _ _ _ _ _ _ _ _ _ _).1]
          exact (k3 R k x1 x2 x3 x4 x5 x6 x7 x8 x9 y2 y3 y4).1
        · rw [dF c2, (g3 _ _ _ _ _ _ _ _ _ _ _ _ _ _ _ _ _ _).1]
          exact (k3 R k x1 x2 x3 x4 x5 x6 x7 x8 x9 y2 y3 y4).1
      · simp only [Lp37_12, Lp37_12_step, e, e2, e3, e4]
        rw [dT (by omega), dT (by omega), (inT (m + 1) _).2, decide_eq_false (by omega), bF rfl, (g3 _ _ _ _ _ _ _ _ _ _ _ _ _ _ _ _ _ _).2]
        exact (k3 R k x1 x2 x3 x4 x5 x6 x7 x8 x9 y2 y3 y4).2
end Go.Proofs.Ytjhfbmhblpjigaa.Med
end
section
set_option linter.unusedVariables false
set_option linter.unusedSimpArgs false
namespace Go.Proofs.Ytjhfbmhblpjigaa.Med
open Go Go.Abs Go.Proofs
set_option linter.unusedVariables false
set_option linter.unusedSimpArgs false
theorem lp34_11 (m : Nat) {r : Abs.Rows} (hr : ArrOk r) (hl : (r.length : Int) ≤ 2000) (delay : Int) (hm : 20 ≤ m) : ∀ (d n i : Nat) (out th : Abs.Rows), i + d = r.length → d < n → th.length = out.length → (out.length : Int) ≤ 100000 →
    ∃ (o t : Abs.Rows), o.length = out.length ∧ t.length = out.length ∧ ∀ (R : Type) (k : Abs.Rows → Abs.Rows → Int → Option R),
      Lp34_11 (m + 2) k r delay r r.length n out th i = k o t r.length ∧ Lp37_4 (m + 2) k r delay r r.length n out th i = k o t r.length
  | d, 0, i, out, th, h1, h2, h3, h4 => by omega
  | 0, n + 1, i, out, th, h1, h2, h3, h4 => by
    refine ⟨out, th, rfl, h3, fun R k => ?_⟩
    have : (i : Int) = r.length := by omega
    simp only [Lp34_11, Lp34_11_step, Lp37_4, Lp37_4_step]
    rw [dF (by omega), dF (by omega), this]
    exact ⟨rfl, rfl⟩
  | d + 1, n + 1, i, out, th, h1, h2, h3, h4 => by
    have e : Int.toNat (i : Int) = i := by omega
    have e2 : IntKind.wrap IntKind.i64 ((i : Int) + 1) = ((i + 1 : Nat) : Int) := by rw [w64 (by omega) (by omega)]; omega
    have hb := tA_b (fI r i 3) (fI r 0 3)
    by_cases c : fI r i 0 > IntKind.wrap IntKind.i64 (IntKind.wrap IntKind.i64 (fI r 0 0 + delay) + Int.fdiv (tA (fI r i 3) (fI r 0 3)) ((2 : Int) ^ min (Int.toNat (3 : Int)) (64 : Nat)))
    · obtain ⟨o, t, k1, k2, k3⟩ := lp34_11 m hr hl delay hm d n (i + 1) out th (by omega) (by omega) h3 h4
      refine ⟨o, t, k1, k2, fun R k => ⟨?_, ?_⟩⟩
      · simp only [Lp34_11, Lp34_11_step, e, e2, Int.toNat_zero]
        rw [dT (by omega), dT (by omega), dT (by omega), (fn72 (m + 1) _ _ _).1, dT (by omega), dT c]
        exact (k3 R k).1
      · simp only [Lp37_4, Lp37_4_step, e, e2, Int.toNat_zero]
        rw [dT (by omega), dT (by omega), dT (by omega), (fn72 (m + 1) _ _ _).2, dT (by omega), fn75 (m + 1) hb.1 hb.2, dT c]
        exact (k3 R k).2
    · have hp := hr.at_ i
      obtain ⟨o1, t1, g1, g2, g3⟩ := lp34_19 m hp hb (fR r i 6).length (m + 2) 0 out th (by omega) (by have := hp.1; omega) h3 h4
      obtain ⟨o, t, k1, k2, k3⟩ := lp34_11 m hr hl delay hm d n (i + 1) o1 t1 (by omega) (by omega) (by omega) (by omega)
      refine ⟨o, t, by omega, by omega, fun R k => ⟨?_, ?_⟩⟩
      · simp only [Lp34_11, Lp34_11_step, e, e2, Int.toNat_zero]
        rw [dT (by omega), dT (by omega), dT (by omega), (fn72 (m + 1) _ _ _).1, dT (by omega), dF c]
        refine ((g3 R _ _ _ _ _ _ _ _ _ _ _ _ _).1).trans ?_
        exact (k3 R k).1
      · simp only [Lp37_4, Lp37_4_step, e, e2, Int.toNat_zero]
        rw [dT (by omega), dT (by omega), dT (by omega), (fn72 (m + 1) _ _ _).2, dT (by omega), fn75 (m + 1) hb.1 hb.2, dF c]
        refine ((g3 R _ _ _ _ _ _ _ _ _ _ _ _ _).2).trans ?_
        exact (k3 R k).2
/-- what is missing is filled in -/
theorem jn34_33 (m : Nat) (out th : Abs.Rows) (i : Nat) (hi : i < out.length) (hl : (out.length : Int) ≤ 100000) (b : Bool) (hb : b = true → 160 ≤ i) : ∃ (o : Abs.Rows) (b' : Bool), o.length = out.length ∧
    (b = true → o = out.set i [F.lit (Value.int IntKind.i64 (IntKind.wrap IntKind.i64 (Int.tdiv (fI out (i - 160) 0) 2)))]) ∧ (b = false → o = out) ∧
    ∀ (R : Type) (k : Abs.Rows → Bool → Option R) (x y : Int), Jn34_33 m k out th i x y b = k o b' ∧ Jn37_29 m k out th i x y b = k o b' := by
  cases b with
  | false => exact ⟨out, false, rfl, (fun h => by cases h), fun _ => rfl, fun R k x y => ⟨rfl, rfl⟩⟩
  | true =>
    have h0 := hb rfl
    have e : Int.toNat (i : Int) = i := by omega
    have e2 : IntKind.wrap IntKind.i64 ((i : Int) - 160) = ((i - 160 : Nat) : Int) := by rw [w64 (by omega) (by omega)]; omega
    have e3 : Int.toNat ((i - 160 : Nat) : Int) = i - 160 := by omega
    refine ⟨stR [LT.int IntKind.i64] out i (0 : Nat) [F.lit (Value.int IntKind.i64 (IntKind.wrap IntKind.i64 (Int.tdiv (fI out (i - 160) 0) 2)))], true, by simp [stR], fun _ => rfl, (fun h => by cases h), fun R k x y => ⟨?_, ?_⟩⟩
    · simp only [Jn34_33, cond_true, e, e2, e3]
      rw [dT (by omega), dT (by omega)]
    · simp only [Jn37_29, cond_true, e, e2, e3]
      rw [dT (by omega), dT (by omega)]
theorem lp34_29 (m : Nat) (th : Abs.Rows) : ∀ (d n i : Nat) (out : Abs.Rows), i + d = out.length → d < n → th.length = out.length → (out.length : Int) ≤ 100000 →
    ∃ (o : Abs.Rows), o.length = out.length ∧ ((∀ j, fI out j 0 = 0) → (∀ j, j < out.length → out[j]? = some [F.lit (Value.int IntKind.i64 0)]) → o = out) ∧ ∀ (R : Type) (k : Abs.Rows → Int → Option R), Lp34_29 m k th out.length n out i = k o out.length ∧ Lp37_25 m k th out.length n out i = k o out.length
  | d, 0, i, out, h1, h2, h3, h4 => by omega
  | 0, n + 1, i, out, h1, h2, h3, h4 => by
    refine ⟨out, rfl, fun _ _ => rfl, fun R k => ?_⟩
    have : (i : Int) = out.length := by omega
    simp only [Lp34_29, Lp34_29_step, Lp37_25, Lp37_25_step]
    rw [dF (by omega), dF (by omega), this]
    exact ⟨rfl, rfl⟩
  | d + 1, n + 1, i, out, h1, h2, h3, h4 => by
    have e : Int.toNat (i : Int) = i := by omega
    have e2 : IntKind.wrap IntKind.i64 ((i : Int) + 1) = ((i + 1 : Nat) : Int) := by rw [w64 (by omega) (by omega)]; omega
    obtain ⟨o1, b1, g1, g4, g5, g3⟩ := jn34_33 m out th i (by omega) h4 (!fB th i 0 && decide ((i : Int) ≥ 160)) (fun h => by simp at h; omega)
    obtain ⟨o, k1, k2, k3⟩ := lp34_29 m th d n (i + 1) o1 (by omega) (by omega) (by omega) (by omega)
    refine ⟨o, by omega, fun hz hs => ?_, fun R k => ⟨?_, ?_⟩⟩
    · have ho : o1 = out := by
        cases hb : (!fB th i 0 && decide ((i : Int) ≥ 160)) with
        | false => exact g5 hb
        | true =>
          rw [g4 hb, hz]
          apply List.ext_getElem?
          intro j
          rw [List.getElem?_set]
          split
          · rename_i hij
            subst hij
            rw [if_pos (by omega), hs i (by omega)]
            rfl
          · rfl
      rw [ho] at k2
      exact k2 hz hs
    · simp only [Lp34_29, Lp34_29_step, e, e2]
      rw [dT (by omega), dT (by omega)]
      rw [g1] at k3
      cases hb : fB th i 0 with
      | true =>
        rw [hb] at g3
        rw [Bool.not_true, bF rfl]
        refine ((g3 R _ _ _).1).trans ?_
        exact (k3 R k).1
      | false =>
        rw [hb] at g3
        rw [Bool.not_false, bT rfl]
        refine ((g3 R _ _ _).1).trans ?_
        exact (k3 R k).1
    · simp only [Lp37_25, Lp37_25_step, e, e2]
      rw [dT (by omega), dT (by omega)]
      rw [g1] at k3
      cases hb : fB th i 0 with
      | true =>
        rw [hb] at g3
        rw [Bool.not_true, bF rfl]
        refine ((g3 R _ _ _).2).trans ?_
        exact (k3 R k).2
      | false =>
        rw [hb] at g3
        rw [Bool.not_false, bT rfl]
        refine ((g3 R _ _ _).2).trans ?_
        exact (k3 R k).2
/-- both play alike -/
theorem played (m : Nat) {r : Abs.Rows} (hr : ArrOk r) (hl : r.length < m) (hl2 : r.length ≤ 1000) (delay long : Int) (h0 : 0 ≤ long) (h1 : long ≤ 2500) (hm : 20100 ≤ m) : ∃ o : Abs.Rows, o.length ≤ 20000 ∧ ∀ (R : Type), (∀ (k : Abs.Rows → Int → Option R) (x : Abs.Rows) (y : Int), Jn34_7 (m + 2) k r delay long x y = k o 0) ∧ ∀ (k : Abs.Rows → Option R), Fn37 (m + 3) r delay long k = k o := by
  obtain ⟨z, hz⟩ := Int.eq_ofNat_of_zero_le (show 0 ≤ 8 * long by omega)
  have ew : IntKind.wrap IntKind.i64 (8 * long) = (z : Int) := by rw [w64 (by omega) (by omega)]; exact hz
  have et : Int.toNat (z : Int) = z := by omega
  obtain ⟨o1, t1, g1, g2, g3⟩ := lp34_11 m hr (by omega) delay (by omega) r.length (m + 2) 0 (List.replicate z [F.lit (Value.int IntKind.i64 (0 : Int))]) (List.replicate z [F.lit (Value.bool false)]) (by omega) (by omega) (by simp) (by simp; omega)
  simp only [List.length_replicate] at g1 g2
  obtain ⟨o, k1, k2, k3⟩ := lp34_29 (m + 2) t1 z (m + 2) 0 o1 (by omega) (by omega) (by omega) (by omega)
  refine ⟨o, by omega, fun R => ⟨fun k x y => ?_, fun k => ?_⟩⟩
  · simp only [Jn34_7, ew, et, List.length_replicate]
    rw [dT (by simp [rM]; omega), dT (by simp [rM]; omega)]
    refine ((g3 R _).1).trans ?_
    exact (k3 R _).1
  · simp only [Fn37, ew, et, List.length_replicate]
    rw [dT (by simp [rM]; omega), dT (by simp [rM]; omega)]
    refine ((g3 R _).2).trans ?_
    by_cases hn : (r.length : Int) = 0
    · rw [eT hn]
      have hnil : r = [] := List.eq_nil_of_length_eq_zero (by omega)
      have ho1 : o1 = List.replicate z [F.lit (Value.int IntKind.i64 (0 : Int))] := by
        have h5 := (g3 (Abs.Rows) (fun a _ _ => some a)).2
        subst hnil
        simp only [List.length_nil, Lp37_4, Lp37_4_step] at h5
        rw [dF (by omega)] at h5
        exact (Option.some.inj h5).symm
      have hz0 : ∀ j : Nat, fI o1 j 0 = 0 := by
        intro j
        rw [ho1]
        by_cases hj : j < z
        · simp [fI, dropF, Abs.rowAt, List.getD_eq_getElem?_getD, hj, F.toInt]
        · simp [fI, dropF, Abs.rowAt, List.getD_eq_getElem?_getD, hj]
          rfl
      rw [k2 hz0 (fun j hj => by rw [ho1] at hj ⊢; rw [List.length_replicate] at hj; rw [List.getElem?_replicate, if_pos hj])]
    · rw [eF hn]
      exact (k3 R _).2
end Go.Proofs.Ytjhfbmhblpjigaa.Med
end
section
set_option linter.unusedVariables false
set_option linter.unusedSimpArgs false
namespace Go.Proofs.Ytjhfbmhblpjigaa.Med
open Go Go.Abs Go.Proofs
set_option linter.unusedVariables false
set_option linter.unusedSimpArgs false
theorem lp38 (m : Nat) (r : Abs.Rows) {R : Type} (kx0 : Bool → Int → Option R) (kx1 : Int → Option R) (hl : (r.length : Int) ≤ 1073741824) : ∀ (d n : Nat) (i : Int), 0 ≤ i → i + d = r.length → d < n → Lp38_5 m kx0 kx1 r r false r.length n i = kx1 r.length
  | d, 0, i, h0, h1, h2 => by omega
  | 0, n + 1, i, h0, h1, h2 => by
    simp only [Lp38_5, Lp38_5_step]
    rw [dF (by omega)]
    congr 1; omega
  | d + 1, n + 1, i, h0, h1, h2 => by
    simp only [Lp38_5, Lp38_5_step]
    rw [dT (by omega), dT (by omega), dT (by omega), nF rfl, w64 (by omega) (by omega)]
    exact lp38 m r kx0 kx1 hl d n (i + 1) (by omega) (by omega) (by omega)
theorem fn38 (m : Nat) (r : Abs.Rows) {R : Type} (k : Bool → Option R) (hl : (r.length : Int) ≤ 1073741824) (hm : r.length < m) : Fn38 (m + 1) r r k = k true := by
  simp only [Fn38]
  rw [nF rfl, lp38 m r _ _ hl r.length m 0 (by omega) (by omega) hm]
theorem fn35 (m : Nat) (a b : Int) {R : Type} (k : Int → Option R) : Fn35 (m + 5) [[F.lit (Value.int IntKind.i64 a)], [F.lit (Value.int IntKind.i64 b)]] k = k (if a ≠ 0 then a else b) := by
  have e0 : fI [[F.lit (Value.int IntKind.i64 a)], [F.lit (Value.int IntKind.i64 b)]] 0 0 = a := rfl
  have e1 : fI [[F.lit (Value.int IntKind.i64 a)], [F.lit (Value.int IntKind.i64 b)]] 1 0 = b := rfl
  simp (disch := omega) only [Fn35, Lp35_2, Lp35_2_step, List.length_cons, List.length_nil, ↓dT, ↓dF, w64, Int.toNat_zero, e0, e1, Int.reduceAdd, Int.reduceToNat]
  by_cases ha : a = 0
  · rw [nF ha, if_neg (by simpa using ha)]
    by_cases hb : b = 0
    · rw [nF hb, hb]
    · rw [nT hb]
  · rw [nT ha, if_pos (by simpa using ha)]
theorem jn5_7 (m : Nat) (x : Abs.Rows) (e y : Int) (b : Bool) (hx : x.length ≤ 20000) (hm : 20010 ≤ m) {R : Type} (k : Bool → Option R) : Jn5_7 (m + 3) k b x e e x y = k true := by
  simp only [Jn5_7]
  rw [eT rfl, fn38 (m + 2) x _ (by omega) (by omega), bT rfl, fn19 (m + 1)]
theorem jn5_4 (m : Nat) {r : Abs.Rows} (hr : ArrOk r) (hl2 : r.length ≤ 1000) (delay long : Int) (x : Abs.Rows) (e : Int) (hx : x.length ≤ 20000) (hm : 20200 ≤ m) (b : Bool) (h0 : e = 0 → 0 ≤ long ∧ long ≤ 2500)
    (ho : e = 0 → ∀ (R : Type) (k : Abs.Rows → Option R), Fn37 (m + 3) r delay long k = k x) (hn : e ≠ 0 → x = rows0) {R : Type} (k : Bool → Option R) : Jn5_4 (m + 3) k b r delay long x e e e = k true := by
  simp only [Jn5_4]
  by_cases he : e = 0
  · rw [eT he, ho he]
    exact jn5_7 m x e e b hx (by omega) k
  · rw [eF he, hn he]
    exact jn5_7 m rows0 e e b (by simp) (by omega) k
theorem fn34 {r : Abs.Rows} (hr : ArrOk r) (hl2 : r.length ≤ 1000) (delay long : Int) (m : Nat) (hm : 20200 ≤ m) : ∃ (v : Int) (x : Abs.Rows), x.length ≤ 20000 ∧
    (∀ (R : Type) (k : Int → Option R), Fn36 (m + 10) r k = k v) ∧
    (∀ (R : Type) (k : Abs.Rows → Int → Option R), Fn34 (m + 10) r delay long k = k x (if v ≠ 0 then v else if 0 ≤ delay ∧ delay ≤ 10000 ∧ 0 ≤ long ∧ long ≤ 2500 then 0 else 1)) ∧
    ((v = 0 ∧ 0 ≤ delay ∧ delay ≤ 10000 ∧ 0 ≤ long ∧ long ≤ 2500) → ∀ (R : Type) (k : Abs.Rows → Option R), Fn37 (m + 10) r delay long k = k x) ∧ (¬(v = 0 ∧ 0 ≤ delay ∧ delay ≤ 10000 ∧ 0 ≤ long ∧ long ≤ 2500) → x = rows0) := by
  obtain ⟨v, hv⟩ := fn49 r
  have st : ∀ (R : Type) (k : Abs.Rows → Int → Option R), Fn34 (m + 10) r delay long k = if v ≠ 0 then k rows0 v else if 0 ≤ delay ∧ delay ≤ 10000 ∧ 0 ≤ long ∧ long ≤ 2500 then Jn34_7 (m + 9) k r delay long rows0 0 else k rows0 1 := by
    intro R k
    simp only [Fn34]
    rw [(hv (m + 5) (by omega) R _).1]
    by_cases c1 : v = 0
    · rw [nF c1, if_neg (by simpa using c1), (inT (m + 8) _).1]
      by_cases c2 : 0 ≤ delay ∧ delay ≤ 10000
      · rw [decide_eq_true c2, Bool.not_true, bF rfl, (inT (m + 8) _).1]
        by_cases c3 : 0 ≤ long ∧ long ≤ 2500
        · rw [decide_eq_true c3, Bool.not_true, bF rfl, if_pos ⟨c2.1, c2.2, c3.1, c3.2⟩]
        · rw [decide_eq_false c3, Bool.not_false, bT rfl, if_neg (by omega)]
      · rw [decide_eq_false c2, Bool.not_false, bT rfl, if_neg (by omega)]
    · rw [nT c1, if_pos (by simpa using c1)]
  by_cases c : v = 0 ∧ 0 ≤ delay ∧ delay ≤ 10000 ∧ 0 ≤ long ∧ long ≤ 2500
  · obtain ⟨o, ho, hp⟩ := played (m + 7) hr (by omega) hl2 delay long c.2.2.2.1 c.2.2.2.2 (by omega)
    refine ⟨v, o, ho, fun R k => (hv (m + 6) (by omega) R k).2, fun R k => ?_, fun _ R k => (hp R).2 k, fun h => (h c).elim⟩
    rw [st, if_neg (by simpa using c.1), if_pos c.2, if_neg (by simpa using c.1), if_pos c.2, (hp R).1]
  · refine ⟨v, rows0, by simp, fun R k => (hv (m + 6) (by omega) R k).2, fun R k => ?_, fun h => (c h).elim, fun _ => rfl⟩
    rw [st]
    by_cases c1 : v = 0
    · rw [if_neg (by simpa using c1), if_neg (fun h => c ⟨c1, h⟩), if_neg (by simpa using c1), if_neg (fun h => c ⟨c1, h⟩)]
    · rw [if_pos (by simpa using c1), if_pos (by simpa using c1)]
theorem fn5a (M : Nat) (hM : 21000 ≤ M) (q : Abs.Rows) {R : Type} (k : Bool → Option R) : Fn5 (M + 20) q k = k true := by
  obtain ⟨r, i, g1, g2, g3, g4, g5⟩ := fn33 (M + 12) q (i := 0) (most := 12) (by omega) (by omega) (by omega) (by omega) (by omega)
  simp only [Fn5]
  rw [g5, fn20 (M + 16) q _ (by omega) (by omega) (by simp) (by simp)]
  generalize pk _ _ _ = delay
  rw [fn20 (M + 16) q _ (by omega) (by omega) (by simp) (by simp)]
  generalize pk _ _ _ = long
  obtain ⟨v, x, hx, h36, h34, h37, hn⟩ := fn34 g1 (by omega) delay long (M + 9) (by omega)
  rw [h34, h36]
  -- the fault is one and the same
  have fin : ∀ (b : Int), b = (if 0 ≤ delay ∧ delay ≤ 10000 ∧ 0 ≤ long ∧ long ≤ 2500 then 0 else 1) → ∀ kk : Bool → Option R, Fn35 (M + 19) [[F.lit (Value.int IntKind.i64 v)], [F.lit (Value.int IntKind.i64 b)]] (fun e => Jn5_4 (M + 19) kk false r delay long x (if v ≠ 0 then v else if 0 ≤ delay ∧ delay ≤ 10000 ∧ 0 ≤ long ∧ long ≤ 2500 then 0 else 1) e (if v ≠ 0 then v else if 0 ≤ delay ∧ delay ≤ 10000 ∧ 0 ≤ long ∧ long ≤ 2500 then 0 else 1)) = kk true := by
    intro b hb kk
    rw [fn35 (M + 14), ← hb]
    refine jn5_4 (M + 16) g1 (by omega) delay long x _ hx (by omega) false (fun he => ?_) (fun he => ?_) (fun he => ?_) kk
    · split at he
      · rename_i h; exact (h he).elim
      · subst hb
        split at he
        · rename_i h; exact h.2.2
        · cases he
    · refine h37 ?_
      split at he
      · rename_i h; exact (h he).elim
      · rename_i h0
        subst hb
        split at he
        · rename_i h; exact ⟨by simpa using h0, h⟩
        · cases he
    · refine hn fun hc => he ?_
      rw [if_neg (by simpa using hc.1), hb, if_pos hc.2]
  by_cases c1 : delay < 0
  · rw [dT c1]
    simp only [Fn24, cond_true]
    exact fin 1 (by rw [if_neg (by omega)]) k
  rw [dF c1]
  by_cases c2 : delay > 10000
  · rw [dT c2]
    simp only [Fn24, cond_true]
    exact fin 1 (by rw [if_neg (by omega)]) k
  rw [dF c2]
  by_cases c3 : long < 0
  · rw [dT c3]
    simp only [Fn24, cond_true]
    exact fin 1 (by rw [if_neg (by omega)]) k
  rw [dF c3]
  by_cases c4 : long > 2500
  · simp only [Fn24, decide_eq_true c4, cond_true]
    exact fin 1 (by rw [if_neg (by omega)]) k
  · simp only [Fn24, decide_eq_false c4, cond_false]
    exact fin 0 (by rw [if_pos (by omega)]) k
theorem fn5 (m : Nat) (q : Abs.Rows) {R : Type} (k : Bool → Option R) : Fn5 (m + 21000 + 20) q k = k true := fn5a (m + 21000) (by omega) q k
end Go.Proofs.Ytjhfbmhblpjigaa.Med
end
section
set_option linter.unusedVariables false
set_option linter.unusedSimpArgs false
namespace Go.Proofs.Ytjhfbmhblpjigaa.Med
open Go Go.Abs Go.Proofs Go.RowKit
theorem fn5_ok (rows : Abs.Rows) (m : Nat) (h : ∀ (R : Type) (k : Bool → Option R), Fn5 m rows k = k true) : FnOk Try.prog 5 [.f (.lst [.int .i64] rows)] (vBool true) [.undef] := by
  refine law_of (okT28 m) fun R k => ?_
  exact h R _
theorem walk5 (w : World) (a : Option Addr) (len cap : Nat) (zs : List Int) (h : IsInts .i64 w a len cap zs) : Calls Try.prog 5 #[.slice a len cap] w fun e w' => e = .returned (.bool true) ∧ Below w.heap.size w w' := by
  obtain ⟨body, hb⟩ : ∃ b, Try.f5.body = some b := ⟨_, rfl⟩
  exact law_calls Try.func5 (by kernel_rfl) hb h (fn5_ok _ _ fun R k => fn5 0 _ k)
end Go.Proofs.Ytjhfbmhblpjigaa.Med
end
