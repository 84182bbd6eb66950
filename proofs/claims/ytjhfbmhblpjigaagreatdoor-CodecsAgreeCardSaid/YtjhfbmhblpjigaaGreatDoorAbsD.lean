/- A part of the proofs of the seat YtjhfbmhblpjigaaGreatDoor: no statement of the seat stands here. -/
import Derived.Below
import GoSem.Extern.Table
import Derived.Lib.Repeat
import Derived.Lib.SlTrimSet
import Derived.Lib.Bytealg
import Derived.Sort.Row
import Derived.Sort.Grow
import Derived.Lib.SlicesCompact
import Derived.Lib.ItoaNum
import Derived.Lib.Atoi
import Derived.Lib.IndexMore
import Derived.Lib.SplitLaws
import Derived.Test.YtjhfbmhblpjigaaGreatDoorAbsC
section
set_option linter.unusedVariables false
set_option linter.unusedSimpArgs false
set_option linter.unusedSectionVars false
namespace Go.Abs
open Go
variable [Globs]
section
variable {A : Nat → Prop} {hz hb : GH} {O : OM} {env env' : Env} {tm : Nat → Value} {w w' : World} {P : Program} {H : Hints} {tbl : Tbl} {me : FuncId} {n : Nat} {R : Type} {x : R} {cs : List Bool} {us : List Upd}

/-! ### the results -/
/-- - -/
def resultOf (tmps : Array Value) : ResultVar → Sem Value
 | .tmp t => pure (tmps.getD t undef)
 | .cell a t => do loadVar t (← asAddr (tmps.getD a undef))
def packV : List Value → Value
 | [v] => v
 | vs => .tuple vs.toArray
theorem run_results {tmps : Array Value} : ∀ {rs : List ResultVar} {vs : List Value} (_ : ∀ (i : Nat) r, rs[i]? = some r → ∃ v, vs[i]? = some v ∧ (resultOf tmps r).run P w = .ok v w) (_ : vs.length = rs.length), (rs.mapM (resultOf tmps)).run P w = .ok vs w
 | [], [], _, _ => rfl
 | [], _ :: _, _, hl => by simp at hl
 | r :: rs, [], _, hl => by simp at hl
 | r :: rs, v :: vs, h, hl => by
  obtain ⟨v', h1, h2⟩ := h 0 r rfl
  simp at h1
  subst h1
  have ih := run_results (rs := rs) (vs := vs) (fun i r e => by
   obtain ⟨v', h3, h4⟩ := h (i + 1) r (by simpa using e)
   exact ⟨v', by simpa using h3, h4⟩) (by simpa using hl)
  simp only [List.mapM_cons, Sem.run_bind, h2, Result.andThen_ok, ih, Sem.run_pure]
theorem results_ok {fn : Func} {tmps : Array Value} {vs : List Value} (h : ∀ (i : Nat) r, fn.results.toList[i]? = some r → ∃ v, vs[i]? = some v ∧ (resultOf tmps r).run P w = .ok v w) (hl : vs.length = fn.results.toList.length) :
  (results fn tmps).run P w = .ok (packV vs) w := by
 have hr := run_results (P := P) h hl
 unfold results
 have hf : (fun (r : ResultVar) => (match r with
   | .tmp t => (pure (tmps.getD t undef) : Sem Value)
   | .cell a t => do loadVar t (← asAddr (tmps.getD a undef)))) = resultOf tmps := by
  funext r
  cases r <;> rfl
 have he : fn.results.mapM (resultOf tmps) = (List.toArray <$> fn.results.toList.mapM (resultOf tmps)) := Array.mapM_eq_mapM_toList
 rw [Sem.run_bind]
 show ((fn.results.mapM (fun (r : ResultVar) => (match r with
   | .tmp t => (pure (tmps.getD t undef) : Sem Value)
   | .cell a t => do loadVar t (← asAddr (tmps.getD a undef))))).run P w).andThen _ = _
 rw [hf, he, Sem.run_map, hr]
 simp only [Result.andThen_ok, Sem.run_pure]
 congr 1
 cases vs with
 | nil => simp [packV]
 | cons v vs =>
  cases vs with
  | nil => simp [packV]
  | cons v' vs => simp [packV]
theorem typedT_res {t : TypeId} {p : List Nat} {v : V} {c : Value} (h : RepC hz hb O w p v c) : RepC hz hb O w p (typedT P t v) c := typedT_ok h
/-- - -/
theorem readRes_ok (I : Inv A hz hb O env tm w) {tmps : Array Value} (ht : ∀ s, s < n → tm s = tmps.getD s undef) {r : ResultVar} {v0 : V} (hk : okRV n r = true) (h : readRes P r env = some (cs, us, v0)) {M : Nat} (hM : env.length < M) (q : List Nat) :
  cs = [] ∧ ∃ hz' hb' O' c, StepT A hz hb O env tm w hz' hb' O' (applyU us env) ∧ (resultOf tmps r).run P w = .ok c w ∧ RepC hz' hb' O' w (M :: q) v0 c := by
 cases r with
 | tmp s =>
  obtain ⟨rfl, hz', hb', O', S, hr⟩ := takeOp_ok I h (M :: q)
  refine ⟨rfl, hz', hb', O', _, S.t, ?_, hr⟩
  simp only [resultOf, Sem.run_pure]
  have : evO tm (.tmp s) = tmps.getD s undef := ht s (ltN_lt hk)
  rw [this]
 | cell a ty =>
  obtain ⟨av, h3, hA⟩ := rd_bind h
  obtain ⟨c3, u3, v1, c4, u4, h4, hB, rfl, rfl⟩ := bind_inv hA
  obtain ⟨_, _, p, h5, _⟩ := rd_ok I h3
  have hE : RepE hz hb env tm w av (evO tm (.tmp a)) := by
   have : (∃ s j, av = .ref s j) ∨ (∃ l i j, av = .eref l i j) ∨ (∃ ts rows i j, av = .iref ts rows i j) := by
    obtain ⟨k, hk', h2'⟩ := opt_bind h4
    cases av <;> first
     | exact (bad_inv h2').elim
     | exact .inl ⟨_, _, rfl⟩
     | exact .inr (.inl ⟨_, _, _, rfl⟩)
     | exact .inr (.inr ⟨_, _, _, _, rfl⟩)
   rcases this with ⟨s, j, rfl⟩ | ⟨l, i, j, rfl⟩ | ⟨ts, rows, i, j, rfl⟩ <;>
   ·rcases h5 with h5 | h5
    ·exact h5.elim
    ·exact h5
  obtain ⟨rfl, rfl, blk, off, c', hc, hrun, hrep⟩ := loadV_ok I h4 hE
  have hrun2 : (resultOf tmps (.cell a ty)).run P w = .ok c' w := by
   have h6 : tmps.getD a undef = .pointer (some ⟨blk, off, none⟩) := by rw [← ht a (ltN_lt hk)]; exact hc
   simp only [resultOf, h6, asAddr, Sem.run_bind, Sem.run_pure, Result.andThen_ok, hrun]
  simp only [List.nil_append] at hB ⊢
  have hMd : getS env M = .undef := getS_ge (by omega)
  -- leaves that lean are taken
  have inhand : ∀ {y : V} {c : Value} {p : List Nat}, light y = true ∨ True → (RepL hz hb O w p y c ∨ RepE hz hb env tm w y c) → (∃ cs us v, takeLeaf true y env = some (cs, us, v)) → InHand hz hb O env tm w p y c := by
   intro y c p _ hr ⟨cs, us, v, ht⟩
   rcases hr with hr | hr
   ·exact .inl hr
   ·right
    cases y <;> first
     | exact hr.weak (.inl ⟨_, _, _, rfl⟩)
     | exact hr.weak (.inr ⟨_, _, _, _, rfl⟩)
     | exact hr.weakM
     | exact hr.weakX
     | exact hr.elim
     | exact (bad_inv (α := V) (env := env) ht).elim
  by_cases hv : ∃ xs, v1 = .agg xs
  ·obtain ⟨xs, rfl⟩ := hv
   obtain ⟨c7, u7, ys, c8, u8, h7, h8, rfl, rfl⟩ := bind_inv hB
   obtain ⟨rfl, rfl, rfl⟩ := pure_inv h8
   obtain ⟨vs, hcv, hsz, hl⟩ := hrep (M :: q)
   -- each leaf may be taken
   have hany : ∀ (j : Nat) (y : V), xs[j]? = some y → InHand hz hb O env tm w (M :: (q ++ [0 + j])) y (vs.getD (0 + j) undef) := by
    intro j y e
    rw [Nat.zero_add]
    rcases hl j y e with h9 | h9
    ·exact .inl h9
    ·right
     have : ∀ {xs ys : List V} {env1 : Env} {cs : List Bool} {us : List Upd}, takeLeaves true xs env1 = some (cs, us, ys) → y ∈ xs → ∃ e1 cs us v, takeLeaf true y e1 = some (cs, us, v) := by
      intro xs
      induction xs with
      | nil => intro ys env1 cs us _ hm; cases hm
      | cons z xs ih =>
       intro ys env1 cs us h hm
       obtain ⟨c1, u1, v1, c2, u2, hx1, hx2, _, _⟩ := bind_inv h
       obtain ⟨c3, u3, v3, c4, u4, hx3, _, _, _⟩ := bind_inv hx2
       rcases List.mem_cons.1 hm with rfl | hm
       ·exact ⟨_, _, _, _, hx1⟩
       ·exact ih hx3 hm
     obtain ⟨e1, cs, us, v', ht'⟩ := this h7 (List.mem_of_getElem? e)
     cases y <;> first
      | exact h9.weak (.inl ⟨_, _, _, rfl⟩)
      | exact h9.weak (.inr ⟨_, _, _, _, rfl⟩)
      | exact h9.weakM
      | exact h9.weakX
      | exact h9.elim
      | exact (bad_inv (α := V) (env := e1) ht').elim
   obtain ⟨rfl, hz', hb', O', S, hlen, hys⟩ := takeLeaves_ok (t := M) (r := q) (k := 0) (g := fun j => vs.getD j undef) I hMd h7 hany
   have hr : RepC hz' hb' O' w (M :: q) (.agg ys) c' := ⟨vs, hcv, by rw [hlen]; exact hsz, fun j y e => by
    have := hys j y e
    rw [Nat.zero_add] at this
    exact this⟩
   simp only [List.append_nil]
   exact ⟨trivial, hz', hb', O', c', S.n.t, hrun2, hr⟩
  ·have hB' : takeLeaf true v1 env = some (c4, u4, v0) := by cases v1 <;> first | exact hB | exact (hv ⟨_, rfl⟩).elim
   have hr0 := hrep (M :: q)
   have hih : InHand hz hb O env tm w (M :: q) v1 c' := by
    cases v1 <;> first
     | exact (hv ⟨_, rfl⟩).elim
     | exact (bad_inv (α := V) (env := env) hB').elim
     | exact inhand (.inr trivial) hr0 ⟨_, _, _, hB'⟩
   obtain ⟨rfl, hz', hb', O', S, hr⟩ := takeLeaf_ok I hB' hih
   exact ⟨rfl, hz', hb', O', c', S.n.t, hrun2, hr.C⟩
theorem okRes1_dem {v : V} (h : okRes1 v = true) : okRes1 (dem1 v) = true := by
 cases v <;> first | exact h | rfl
theorem okRes_dem {kp : Bool} {v : V} (h : okRes v = true) : okRes (demV kp v) = true := by
 cases kp with
 | true => exact h
 | false =>
  unfold demV
  simp only [cond_false]
  cases v <;> try exact h
  case agg xs =>
   simp only [okRes, List.all_map] at h ⊢
   rw [List.all_eq_true] at h ⊢
   exact fun x hx => okRes1_dem (h x hx)
/-- - -/
theorem retOne_ok (I : Inv A hz hb O env tm w) {tmps : Array Value} (ht : ∀ s, s < n → tm s = tmps.getD s undef) {kp : Bool} {r : ResultVar} {t : TypeId} {v : V} (hk : okRV n r = true) (h : retOne P kp r t env = some (cs, us, v)) {M : Nat} (hM : env.length + 2 < M) (q : List Nat) :
  cs = [] ∧ okRes v = true ∧ ∃ hz' hb' O' c, StepT A hz hb O env tm w hz' hb' O' (applyU us env) ∧ (resultOf tmps r).run P w = .ok c w ∧ RepC hz' hb' O' w (M :: q) v c := by
 obtain ⟨c1, u1, v0, c2, u2, h1, h2, rfl, rfl⟩ := bind_inv h
 obtain ⟨rfl, hz1, hb1, O1, c, S, hrun, hr⟩ := readRes_ok I ht hk h1 (M := env.length + 2) (by omega) []
 simp only at h2
 split at h2
 ·rename_i ho
  obtain ⟨rfl, rfl, rfl⟩ := pure_inv h2
  have hN : getS (applyU u1 env) (env.length + 2) = .undef := getS_ge (by rw [S.len]; omega)
  obtain ⟨hz2, hb2, O2, e2, I2, h3, k2⟩ := demV_ok (kp := kp) S.inv hN (r := []) (typedT_ok (P := P) (t := t) hr)
  refine ⟨rfl, okRes_dem ho, hz2, hb2, renH (env.length + 2) (M :: q) O2, c, ?_, hrun, by simpa using h3.renH (q := M :: q)⟩
  rw [List.append_nil]
  exact ⟨S.ext.trans e2, I2.renH hN _, S.len, fun u s hu => ((S.hand u s hu).trans (k2 u s (by omega))).trans (Keeps.renH (by omega))⟩
 ·exact (bad_inv h2).elim
end
end Go.Abs
end
section
set_option linter.unusedVariables false
set_option linter.unusedSimpArgs false
set_option linter.unusedSectionVars false
namespace Go.Abs
open Go
variable [Globs]
section
variable {A : Nat → Prop} {hz hb : GH} {O : OM} {env env' : Env} {tm : Nat → Value} {w w' : World} {P : Program} {H : Hints} {tbl : Tbl} {me : FuncId} {n : Nat} {R : Type} {x : R} {cs : List Bool} {us : List Upd}

theorem retOne_res {kp : Bool} {r : ResultVar} {t : TypeId} {v : V} (h : retOne P kp r t env = some (cs, us, v)) : okRes v = true := by
 obtain ⟨c1, u1, v0, c2, u2, h1, h2, rfl, rfl⟩ := bind_inv h
 simp only at h2
 split at h2
 ·rename_i ho
  obtain ⟨_, _, rfl⟩ := pure_inv h2
  exact okRes_dem ho
 ·exact (bad_inv h2).elim
theorem retAll_res {kp : Bool} : ∀ {rs : List ResultVar} {ts : List TypeId} {env : Env} {cs : List Bool} {us : List Upd} {vs : List V} (_ : retAll P kp rs ts env = some (cs, us, vs)), ∀ v ∈ vs, okRes v = true
 | [], ts, env, cs, us, vs, h => by
  simp only [retAll] at h
  obtain ⟨_, _, rfl⟩ := pure_inv h
  simp
 | r :: rs, [], env, cs, us, vs, h => by simp only [retAll] at h; exact (bad_inv h).elim
 | r :: rs, t :: ts, env, cs, us, vs, h => by
  simp only [retAll] at h
  obtain ⟨c1, u1, v, c2, u2, h1, hA, rfl, rfl⟩ := bind_inv h
  obtain ⟨c3, u3, vs', c4, u4, h2, hB, rfl, rfl⟩ := bind_inv hA
  obtain ⟨_, _, rfl⟩ := pure_inv hB
  intro y hy
  rcases List.mem_cons.1 hy with rfl | hy
  ·exact retOne_res h1
  ·exact retAll_res h2 y hy
theorem retAll_ok {kp : Bool} {tmps : Array Value} (ht : ∀ s, s < n → tm s = tmps.getD s undef) {g : Nat → List Nat} : ∀ {rs : List ResultVar} {ts : List TypeId} {k : Nat} {hz hb : GH} {O : OM} {env : Env} {cs : List Bool} {us : List Upd} {vs : List V} {M : Nat} (_ : Inv A hz hb O env tm w) (_ : retAll P kp rs ts env = some (cs, us, vs)) (_ : ∀ r ∈ rs, okRV n r = true) (_ : env.length + 2 < M),
  ∃ (hz' hb' : GH) (O' : OM) (vals : List Value), StepT A hz hb O env tm w hz' hb' O' (applyU us env) ∧ vs.length = rs.length ∧ vals.length = rs.length ∧ (∀ (i : Nat) r, rs[i]? = some r → ∃ v, vals[i]? = some v ∧ (resultOf tmps r).run P w = .ok v w) ∧
   ∀ (i : Nat) (v : V) (c : Value), vs[i]? = some v → vals[i]? = some c → RepC hz' hb' O' w (M :: g (k + i)) v c
 | [], ts, k, hz, hb, O, env, cs, us, vs, M, I, h, hk, hM => by
  simp only [retAll] at h
  obtain ⟨rfl, rfl, rfl⟩ := pure_inv h
  exact ⟨hz, hb, O, [], StepT.refl I, rfl, rfl, fun i r e => by simp at e, fun i v c e => by simp at e⟩
 | r :: rs, [], k, hz, hb, O, env, cs, us, vs, M, I, h, hk, hM => by simp only [retAll] at h; exact (bad_inv h).elim
 | r :: rs, t :: ts, k, hz, hb, O, env, cs, us, vs, M, I, h, hk, hM => by
  simp only [retAll] at h
  obtain ⟨c1, u1, v, c2, u2, h1, hA, rfl, rfl⟩ := bind_inv h
  obtain ⟨c3, u3, vs', c4, u4, h2, hB, rfl, rfl⟩ := bind_inv hA
  obtain ⟨rfl, rfl, rfl⟩ := pure_inv hB
  obtain ⟨rfl, ho, hz1, hb1, O1, c, S1, hrun, hr⟩ := retOne_ok I ht (hk r List.mem_cons_self) h1 hM (g k)
  obtain ⟨hz2, hb2, O2, vals, S2, l1, l2, hruns, hrs⟩ := retAll_ok ht (g := g) (k := k + 1) S1.inv h2 (fun r hr => hk r (List.mem_cons_of_mem _ hr)) (M := M) (by rw [S1.len]; exact hM)
  rw [List.append_nil u3, applyU_append]
  refine ⟨hz2, hb2, O2, c :: vals, S1.trans S2, by simp [l1], by simp [l2], fun i r' e => ?_, fun i v' c' e1 e2 => ?_⟩
  ·cases i with
   | zero => simp at e; subst e; exact ⟨c, rfl, hrun⟩
   | succ i =>
    obtain ⟨v', h3, h4⟩ := hruns i r' (by simpa using e)
    exact ⟨v', by simpa using h3, h4⟩
  ·cases i with
   | zero =>
    simp at e1 e2
    subst e1 e2
    exact hr.keep (S2.hand M (g k) (by rw [S1.len]; exact hM))
   | succ i =>
    have := hrs i v' c' (by simpa using e1) (by simpa using e2)
    rw [show k + 1 + i = k + (i + 1) by omega] at this
    exact this
/-! the entry -/
theorem enterPs_len {mode : Nat → Mode} {nt : Nat} : ∀ (vs : List V) (j : Nat), (enterPs mode nt j vs).length = vs.length
 | [], _ => rfl
 | v :: vs, j => by simp [enterPs, enterPs_len vs]
theorem hidPs_len {mode : Nat → Mode} : ∀ (vs : List V) (j : Nat), (hidPs mode j vs).length = vs.length
 | [], _ => rfl
 | v :: vs, j => by simp [hidPs, hidPs_len vs]
theorem enterPs_get {mode : Nat → Mode} {nt : Nat} : ∀ (vs : List V) (j i : Nat), (enterPs mode nt j vs)[i]? = (vs[i]?).map (enterOne (mode (j + i)) (nt + (j + i)))
 | [], _, _ => by simp [enterPs]
 | v :: vs, j, i => by
  cases i with
  | zero => simp [enterPs]
  | succ i =>
   have := enterPs_get (mode := mode) (nt := nt) vs (j + 1) i
   simp only [enterPs, List.getElem?_cons_succ]
   rw [this, show j + 1 + i = j + (i + 1) by omega]
theorem hidPs_get {mode : Nat → Mode} : ∀ (vs : List V) (j i : Nat), (hidPs mode j vs)[i]? = (vs[i]?).map (hidOne (mode (j + i)))
 | [], _, _ => by simp [hidPs]
 | v :: vs, j, i => by
  cases i with
  | zero => simp [hidPs]
  | succ i =>
   have := hidPs_get (mode := mode) vs (j + 1) i
   simp only [hidPs, List.getElem?_cons_succ]
   rw [this, show j + 1 + i = j + (i + 1) by omega]
theorem enter_len {mode : Nat → Mode} {nt : Nat} {vs : List V} (h : vs.length ≤ nt) : (enter mode nt vs).length = nt + vs.length := by
 unfold enter
 simp only [List.length_append, enterPs_len, hidPs_len, List.length_replicate]
 omega
theorem enter_param {mode : Nat → Mode} {nt : Nat} {vs : List V} {i : Nat} {v : V} (h : vs[i]? = some v) : getS (enter mode nt vs) i = enterOne (mode i) (nt + i) v := by
 have hi := (List.getElem?_eq_some_iff.1 h).1
 unfold getS enter
 rw [List.getD_eq_getElem?_getD, List.getElem?_append_left (by rw [enterPs_len]; exact hi), enterPs_get, h]
 simp
theorem enter_hid {mode : Nat → Mode} {nt : Nat} {vs : List V} (hn : vs.length ≤ nt) {i : Nat} {v : V} (h : vs[i]? = some v) : getS (enter mode nt vs) (nt + i) = hidOne (mode i) v := by
 unfold getS enter
 rw [List.getD_eq_getElem?_getD, List.getElem?_append_right (by rw [enterPs_len]; omega), List.getElem?_append_right (by rw [enterPs_len, List.length_replicate]; omega), enterPs_len, List.length_replicate,
  show nt + i - vs.length - (nt - vs.length) = i by omega, hidPs_get, h]
 simp
theorem enter_none {mode : Nat → Mode} {nt : Nat} {vs : List V} {t : Nat} (h1 : vs.length ≤ t) (h2 : t < nt) : getS (enter mode nt vs) t = .undef := by
 unfold getS enter
 rw [List.getD_eq_getElem?_getD, List.getElem?_append_right (by rw [enterPs_len]; omega), List.getElem?_append_left (by rw [enterPs_len, List.length_replicate]; omega), enterPs_len, List.getElem?_replicate]
 split <;> rfl
theorem capsIn_len {hid : Nat} : ∀ (caps : List V), (capsIn hid caps).length = caps.length
 | [] => rfl
 | x :: xs => by
  cases x <;> simp [capsIn, capsIn_len xs]
theorem objCap_at {row : List V} : ∀ {caps : List V}, objCap caps = some row → caps[objIdx caps]? = some (.obj row)
 | [], h => by cases h
 | x :: xs, h => by
  cases x
  case obj r => cases h; rfl
  all_goals
   have := objCap_at (caps := xs) h
   simpa [objIdx] using this
theorem capsIn_get {hid : Nat} : ∀ (caps : List V) (j : Nat) (y : V), (capsIn hid caps)[j]? = some y →
  (caps[j]? = some y ∧ ∀ row, y ≠ .obj row) ∨ (∃ row, caps[j]? = some (.obj row) ∧ objCap caps = some row ∧ objIdx caps = j ∧ y = .ref hid 0) ∨ y = .undef
 | [], j, y, h => by simp [capsIn] at h
 | x :: xs, j, y, h => by
  by_cases hx : ∃ row, x = .obj row
  ·obtain ⟨row, rfl⟩ := hx
   cases j with
   | zero =>
    simp [capsIn] at h
    subst h
    exact .inr (.inl ⟨row, rfl, rfl, rfl, rfl⟩)
   | succ j =>
    simp only [capsIn, List.getElem?_cons_succ, List.getElem?_map, Option.map_eq_some_iff] at h
    obtain ⟨z, h1, h2⟩ := h
    by_cases hz : ∃ r, z = .obj r
    ·obtain ⟨r, rfl⟩ := hz
     exact .inr (.inr h2.symm)
    ·have : noObj z = z := by cases z <;> first | rfl | exact (hz ⟨_, rfl⟩).elim
     rw [this] at h2
     subst h2
     exact .inl ⟨by simpa using h1, fun row e => hz ⟨row, e⟩⟩
  ·have h1 : capsIn hid (x :: xs) = x :: capsIn hid xs := by cases x <;> first | rfl | exact (hx ⟨_, rfl⟩).elim
   have h2 : objCap (x :: xs) = objCap xs := by cases x <;> first | rfl | exact (hx ⟨_, rfl⟩).elim
   have h3 : objIdx (x :: xs) = objIdx xs + 1 := by cases x <;> first | rfl | exact (hx ⟨_, rfl⟩).elim
   rw [h1] at h
   cases j with
   | zero =>
    simp at h
    subst h
    exact .inl ⟨rfl, fun row e => hx ⟨row, e⟩⟩
   | succ j =>
    rw [h2, h3]
    rcases capsIn_get xs j y (by simpa using h) with h4 | ⟨row, h4, h5, h6, h7⟩ | h4
    ·exact .inl (by simpa using h4)
    ·exact .inr (.inl ⟨row, by simpa using h4, h5, by omega, h7⟩)
    ·exact .inr (.inr h4)
def goesHid (md : Mode) : V → Bool
 | .obj _ => true
 | .own _ _ => decide (md = .inout)
 | .clos _ caps => (objCap caps).isSome
 | _ => false
/-- - -/
def entO (mode : Nat → Mode) (nt : Nat) (vs : List V) (O : OM) : OM := fun b => match O b with
 | some (j :: r) => match vs[j]? with
  | some v => if goesHid (mode j) v then some ((nt + j) :: r) else some (j :: r)
  | none => none
 | _ => none
theorem enter_inv {mode : Nat → Mode} {nt : Nat} {vs : List V} {args : Array Value} (hn : vs.length ≤ nt) (hsz : args.size = vs.length) (g : GOk A hz hb O w) (hargs : ∀ j v, vs[j]? = some v → RepC hz hb O w [j] v (args.getD j undef)) :
  Inv A hz hb (entO mode nt vs O) (enter mode nt vs) (tmA { tmps := args ++ Array.replicate (nt - args.size) undef, defers := [] } fun t => handC (vs.getD (t - nt) .undef) (args.getD (t - nt) undef)) w := by
 have hts : (args ++ Array.replicate (nt - args.size) undef).size = nt := by simp; omega
 have tmLt : ∀ t, t < vs.length → tmA { tmps := args ++ Array.replicate (nt - args.size) undef, defers := [] } (fun t => handC (vs.getD (t - nt) .undef) (args.getD (t - nt) undef)) t = args.getD t undef := by
  intro t ht
  unfold tmA
  simp only [hts]
  rw [if_pos (by omega), Array.getD_eq_getD_getElem?, Array.getD_eq_getD_getElem?, Array.getElem?_append_left (by omega)]
 have tmGe : ∀ t, tmA { tmps := args ++ Array.replicate (nt - args.size) undef, defers := [] } (fun t => handC (vs.getD (t - nt) .undef) (args.getD (t - nt) undef)) (nt + t) = handC (vs.getD t .undef) (args.getD t undef) := by
  intro t
  unfold tmA
  simp only [hts]
  rw [if_neg (by omega), Nat.add_sub_cancel_left]
 have g' : GOk A hz hb (entO mode nt vs O) w := by
  refine ⟨g.sub, g.agree, fun b p e => ?_, g.fresh, g.glob⟩
  unfold entO at e
  split at e
  ·rename_i j r hO
   exact g.owned _ _ hO
  ·cases e
 have stay : ∀ j v, vs[j]? = some v → goesHid (mode j) v = false → Moves hz hb O w hz hb (entO mode nt vs O) w j j := by
  intro j v hv hg
  refine ⟨GH.le_refl _, fun b r e => ⟨?_, rfl⟩⟩
  unfold entO
  simp only [e, hv, hg]
  rfl
 have go : ∀ j v, vs[j]? = some v → goesHid (mode j) v = true → Moves hz hb O w hz hb (entO mode nt vs O) w j (nt + j) := by
  intro j v hv hg
  refine ⟨GH.le_refl _, fun b r e => ⟨?_, rfl⟩⟩
  unfold entO
  simp only [e, hv, hg]
  rfl
 have hvd : ∀ {t v}, vs[t]? = some v → vs.getD t .undef = v := fun {t v} h => by rw [List.getD_eq_getElem?_getD, h]; rfl
 refine g'.inv fun t => ?_
 rcases Nat.lt_or_ge t vs.length with h1 | h1
 ·have hv : vs[t]? = some (vs[t]'h1) := List.getElem?_eq_getElem h1
  generalize vs[t]'h1 = v at hv
  rw [enter_param hv, tmLt t h1]
  have hr := hargs t v hv
  cases v with
  | obj row =>
   obtain ⟨blk, cells, ty, fr, hc, _⟩ := hr
   refine .inr ⟨row, blk, ?_, by rw [tmGe, hvd hv]; exact hc, hc⟩
   rw [enter_hid hn hv]
   rfl
  | own ts rows =>
   simp only [enterOne]
   split
   ·rename_i hmd
    have hg : getS (enter mode nt vs) (nt + t) = .own ts rows := by
     rw [enter_hid hn hv]
     simp [hidOne, hmd]
    cases hm : isMp ts with
    | true => exact (mx_rep (l := ⟨nt + t, none⟩) (ts := ts) (rows := rows) ⟨.own ts rows, ⟨hg, (tmGe t).trans (by rw [hvd hv]; rfl)⟩, rfl⟩ hm _).1
    | false => exact .inr ⟨ts, rows, ⟨.own ts rows, ⟨hg, (tmGe t).trans (by rw [hvd hv]; rfl)⟩, rfl⟩, rfl, rfl, hm⟩
   ·rename_i hmd
    exact .inl (RepC.move (x := .own ts rows) (stay t _ hv (by simp [goesHid, hmd])) (.inl (GH.le_refl _)) hr)
  | agg xs =>
   obtain ⟨cs, hc, hs, hl⟩ := hr
   exact ⟨cs, hc, hs, fun j y e => .inl (RepL.move (stay t _ hv rfl) (.inl (GH.le_refl _)) (hl j y e))⟩
  | f y => exact .inl hr
  | bor ts rows => exact .inl hr
  | undef => exact .inl trivial
  | clos f caps =>
   obtain ⟨cs, hc, hs, hl⟩ := hr
   refine ⟨cs, hc, by rw [capsIn_len]; exact hs, fun j y e => ?_⟩
   rcases capsIn_get caps j y e with ⟨h1, h2⟩ | ⟨row, h1, h2, h3, rfl⟩ | rfl
   ·rcases hl j y h1 with h3 | ⟨row, h3, _⟩
    ·exact .inl h3.C
    ·exact (h2 row h3).elim
   ·rcases hl j _ h1 with h4 | ⟨row', h4, h5⟩
    ·exact h4.elim
    ·cases h4
     obtain ⟨blk, cells, ty, fr, h6, _⟩ := h5
     refine .inr ⟨row, blk, ?_, ?_, h6⟩
     ·rw [enter_hid hn hv]
      simp only [hidOne, h2]
     ·rw [tmGe, hvd hv, hc]
      simp only [handC, h3]
      exact h6
   ·exact .inl trivial
  | iref a b c d => exact .inr hr
  | _ => exact hr.elim
 ·rcases Nat.lt_or_ge t nt with h2 | h2
  ·rw [enter_none h1 h2]
   exact .inl trivial
  ·rcases Nat.lt_or_ge t (nt + vs.length) with h3 | h3
   ·obtain ⟨j, rfl⟩ : ∃ j, t = nt + j := ⟨t - nt, by omega⟩
    have hj : j < vs.length := by omega
    have hv : vs[j]? = some (vs[j]'hj) := List.getElem?_eq_getElem hj
    generalize vs[j]'hj = v at hv
    rw [enter_hid hn hv, tmGe, hvd hv]
    have hr := hargs j v hv
    cases v with
    | obj row => exact RepC.move (x := .obj row) (go j _ hv rfl) (.inl (GH.le_refl _)) hr
    | own ts rows =>
     simp only [hidOne]
     split
     ·rename_i hmd
      exact .inl (RepC.move (x := .own ts rows) (go j _ hv (by simp [goesHid, hmd])) (.inl (GH.le_refl _)) hr)
     ·exact .inl trivial
    | clos f caps =>
     obtain ⟨cs, hc, hs, hl⟩ := hr
     simp only [hidOne]
     cases ho : objCap caps with
     | none => exact .inl trivial
     | some row =>
      have h1 := objCap_at ho
      rcases hl _ _ h1 with h4 | ⟨row', h4, h5⟩
      ·exact h4.elim
      ·cases h4
       rw [hc]
       exact RepObj.move (go j _ hv (by simp [goesHid, ho])) (.inl (GH.le_refl _)) h5
    | _ => exact .inl trivial
   ·rw [getS_ge (by rw [enter_len hn]; exact h3)]
    exact .inl trivial
end
end Go.Abs
end
section
set_option linter.unusedVariables false
set_option linter.unusedSimpArgs false
set_option linter.unusedSectionVars false
namespace Go.Abs
open Go
variable [Globs]
section
variable {A : Nat → Prop} {hz hb : GH} {O : OM} {env env' : Env} {tm : Nat → Value} {w w' : World} {P : Program} {H : Hints} {tbl : Tbl} {me : FuncId} {n : Nat} {R : Type} {x : R} {cs : List Bool} {us : List Upd}

/-- - -/
def leaveO (N nt k : Nat) (O : OM) : OM := fun b => match O b with
 | some (v :: r) => if v = N then some (k :: r) else if nt ≤ v ∧ v < nt + k then some ((v - nt) :: r) else none
 | _ => none
theorem outs_get {env : Env} : ∀ (k nt j : Nat) (v : V), (outsOf env nt k)[j]? = some v → v = getS env (nt + j) ∧ j < k
 | 0, nt, j, v, h => by simp [outsOf] at h
 | k + 1, nt, j, v, h => by
  cases j with
  | zero => simp [outsOf] at h; exact ⟨h.symm, by omega⟩
  | succ j =>
   obtain ⟨h1, h2⟩ := outs_get k (nt + 1) j v (by simpa [outsOf] using h)
   exact ⟨by rw [h1]; congr 1; omega, by omega⟩
theorem okR_tup {rs : List V} (h : ∀ v ∈ rs, okRes v = true) : okR (tupOf rs) = true := by
 have ht : ∀ {v : V}, okRes v = true → okR v = true := by
  intro v hv
  cases v <;> first | exact hv | (simp [okRes, okRes1] at hv)
 match rs with
 | [] => rfl
 | [r] => exact ht (h r (by simp))
 | a :: b :: rs => exact List.all_eq_true.2 h
theorem run_enter {f : FuncId} {fn : Func} {c : Code} (hf : P.funcs[f]? = some fn) (hname : (fn.name == "runtime.NumGoroutine") = false) (hb : fn.body = some c) (args : Array Value) (w : World) : (callFunc f args).run P w = .ok (.enter f args) w := by
 have h1 : fn.name ≠ "runtime.NumGoroutine" := by simpa using hname
 simp [callFunc, hf, h1, hb]
theorem runK_some {lt : LTbl} (hT : TblOk P tbl) (hm : P.follows .mixedOrders = true) (hL : LTOk P H lt) {f : FuncId} {vs : List V} {k : V → List V → Option R} (h : runK P H tbl lt f vs k = some x) : ∃ r outs, FnOk P f vs r outs ∧ k r outs = some x := by
 unfold runK at h
 split at h
 ·cases h
 ·rename_i fn hf
  split at h
  ·cases h
  ·rename_i body hbody
   cases hc : (fn.name == "runtime.NumGoroutine" || !(okCode fn.ntmps body && fn.results.toList.all (okRV fn.ntmps) && Nat.ble vs.length fn.ntmps && Nat.beq (fn.ntmps + vs.length) (H.len f))) with
   | true => rw [hc] at h; cases h
   | false =>
    rw [hc] at h
    simp only [cond_false] at h
    simp only [Bool.or_eq_false_iff, Bool.not_eq_false', Bool.and_eq_true, List.all_eq_true] at hc
    obtain ⟨hname, ⟨⟨hcode, hres⟩, hle⟩, hlen⟩ := hc
    have hlen := Nat.eq_of_beq_eq_true hlen
    have hle : vs.length ≤ fn.ntmps := Nat.le_of_ble_eq_true hle
    obtain ⟨e, env1, h1, hl1, hdo⟩ := codeK_some hT hm hL hf hbody rfl (by omega) body hcode (i := 0) (fun j hj => by rw [Nat.zero_add]) (by rw [enter_len hle]; exact hlen) h
    have hex : e = .normal ∨ e = .ret := by cases e <;> first | exact .inl rfl | exact .inr rfl | cases h1
    have h2 : (match retAll P (H.keep f) fn.results.toList fn.resultTypes.toList env1 with
     | none => fail ("ret in " ++ fn.name)
     | some (cs, us, rs) => runChecks cs (k (tupOf rs) (outsOf (applyU us env1) fn.ntmps vs.length))) = some x := by
     rcases hex with rfl | rfl <;> exact h1
    clear h1
    split at h2
    ·cases h2
    ·rename_i cs us rs hret
     obtain ⟨_, h3⟩ := runChecks_some h2
     refine ⟨_, _, ⟨okR_tup (retAll_res hret), ?_⟩, h3⟩
     intro A hz hb O w args hsz g hargs
     unfold callRun
     rw [run_enter hf hname hbody]
     simp only
     refine calls_of_wp hf hbody ?_
     have I0 := enter_inv (mode := H.mode f) hle hsz g hargs
     have hts : (args ++ Array.replicate (fn.ntmps - args.size) undef).size = fn.ntmps := by simp; omega
     refine hdo A hz hb _ _ _ w _ hts I0 ?_
     intro a1 w1 hz1 hb1 O1 e1 I1 s1 ha1 hd1
     have htm : ∀ s, s < fn.ntmps → tmA a1 (fun t => handC (vs.getD (t - fn.ntmps) .undef) (args.getD (t - fn.ntmps) undef)) s = a1.tmps.getD s undef := fun s hs => by
      unfold tmA
      rw [if_pos (by omega)]
     obtain ⟨hz2, hb2, O2, vals, S, l1, l2, hruns, hrs⟩ := retAll_ok htm (P := P) (g := if rs.length = 1 then fun _ => [] else fun i => [i]) (k := 0) (M := env1.length + 3) I1 hret (fun r hr => hres r hr) (by omega)
     have hresrun := results_ok (P := P) (w := w1) hruns l2
     have post : ∃ hz' hb' O', FzExt A hz hb hz' hb' ∧ GOk A hz' hb' O' w1 ∧ Side w w1 ∧ RepR hz' hb' O' w1 [vs.length] (tupOf rs) (packV vals) ∧
       ∀ (j : Nat) (v : V), (outsOf (applyU us env1) fn.ntmps vs.length)[j]? = some v → isHand v = true → RepC hz' hb' O' w1 [j] v (handC (vs.getD j .undef) (args.getD j undef)) := by
      refine ⟨hz2, hb2, leaveO (env1.length + 3) fn.ntmps vs.length O2, e1.trans S.ext, ?_, s1, ?_, ?_⟩
      ·refine ⟨S.inv.sub, S.inv.agree, fun b p e => ?_, S.inv.fresh, S.inv.glob⟩
       unfold leaveO at e
       split at e
       ·rename_i v r hO; exact S.inv.owned _ _ hO
       ·cases e
      ·have mv : Moves hz2 hb2 O2 w1 hz2 hb2 (leaveO (env1.length + 3) fn.ntmps vs.length O2) w1 (env1.length + 3) vs.length := by
        refine ⟨GH.le_refl _, fun b r e => ⟨?_, rfl⟩⟩
        unfold leaveO
        simp only [e, if_true]
       have hlen : vals.length = rs.length := by rw [l1, l2]
       match rs, vals, hlen, hrs, l1 with
       | [], [], _, _, _ => exact ⟨#[], rfl, rfl, fun j v e => by simp at e⟩
       | [r], [c], _, hrs, _ =>
        have hr := hrs 0 r c rfl rfl
        simp only [List.length_cons, List.length_nil, Nat.zero_add, if_true] at hr
        have hr2 := RepC.move mv (.inl (GH.le_refl _)) hr
        have hok := retAll_res hret r (by simp)
        show RepR _ _ _ _ _ r c
        cases r <;> first | exact hr2 | (simp [okRes, okRes1] at hok)
       | a :: b :: rs, c :: d :: vals, hlen, hrs, _ =>
        refine ⟨(c :: d :: vals).toArray, rfl, by simpa using hlen, fun j v e => ?_⟩
        have hj := (List.getElem?_eq_some_iff.1 e).1
        have hc : (c :: d :: vals)[j]? = some ((c :: d :: vals)[j]'(by rw [hlen]; exact hj)) := List.getElem?_eq_getElem _
        have hr := hrs j v _ e hc
        have hne : ¬ (a :: b :: rs).length = 1 := by simp
        simp only [hne, if_false, Nat.zero_add] at hr
        have hr2 := RepC.move mv (.inl (GH.le_refl _)) hr
        have hg : (c :: d :: vals).toArray.getD j undef = (c :: d :: vals)[j]'(by rw [hlen]; exact hj) := by
         rw [Array.getD_eq_getD_getElem?]
         rw [List.getElem?_toArray, hc]
         rfl
        rw [hg]
        exact hr2
      ·intro j v hv hh
       obtain ⟨rfl, hj⟩ := outs_get _ _ _ _ hv
       have mv : Moves hz2 hb2 O2 w1 hz2 hb2 (leaveO (env1.length + 3) fn.ntmps vs.length O2) w1 (fn.ntmps + j) j := by
        refine ⟨GH.le_refl _, fun b r e => ⟨?_, rfl⟩⟩
        unfold leaveO
        have : ¬ fn.ntmps + j = env1.length + 3 := by rw [hl1, enter_len hle]; omega
        have h4 : fn.ntmps ≤ fn.ntmps + j ∧ fn.ntmps + j < fn.ntmps + vs.length := by omega
        simp only [e, this, if_false, h4, and_self, if_true]
        congr 2
        omega
       have hr := S.inv.rep (fn.ntmps + j)
       have htj : tmA a1 (fun t => handC (vs.getD (t - fn.ntmps) .undef) (args.getD (t - fn.ntmps) undef)) (fn.ntmps + j) = handC (vs.getD j .undef) (args.getD j undef) := by
        unfold tmA
        rw [if_neg (by omega)]
        simp only [Nat.add_sub_cancel_left]
       rw [htj] at hr
       revert hr hh
       cases hv2 : getS (applyU us env1) (fn.ntmps + j) <;> intro hh hr <;> first | cases hh | skip
       ·rcases hr with hr | hr
        ·exact RepC.move (x := .own _ _) mv (.inl (GH.le_refl _)) hr
        ·exact hr.elim
       ·exact RepC.move (x := .obj _) mv (.inl (GH.le_refl _)) hr
     rcases hex with rfl | rfl
     ·exact ⟨by rw [hd1], _, hresrun, _, rfl, post⟩
     ·exact ⟨by rw [hd1], _, hresrun, _, rfl, post⟩
end
end Go.Abs
end
section
set_option linter.unusedVariables false
set_option linter.unusedSimpArgs false
set_option linter.unusedSectionVars false
namespace Go.Abs
open Go
variable [Globs]
section
variable {P : Program} {H : Hints} {tbl : Tbl} {lt : LTbl}

/-! ### tables -/
def noT : Tbl := fun _ _ _ _ => none
def noL : LTbl := fun _ _ _ _ _ => none
theorem noT_ok : TblOk P noT := fun R f vs k x h => by cases h
theorem noL_ok : LTOk P H noL := fun R f i vs k x h => by cases h
/-- - -/
abbrev addT (F : FuncId) (br : (R : Type) → List V → (V → List V → Option R) → Option R) (T : Tbl) : Tbl := fun R f vs k => match Nat.beq f F with
 | true => br R vs k
 | false => T R f vs k
theorem addT_ok {T : Tbl} (hT : TblOk P T) {F : FuncId} {br : (R : Type) → List V → (V → List V → Option R) → Option R} (h : ∀ R vs k x, br R vs k = some x → ∃ r outs, FnOk P F vs r outs ∧ k r outs = some x) : TblOk P (addT F br T) := by
 intro R f vs k x hx
 unfold addT at hx
 cases hb : Nat.beq f F with
 | true =>
  rw [hb] at hx
  have := Nat.eq_of_beq_eq_true hb
  subst this
  exact h R vs k x hx
 | false => rw [hb] at hx; exact hT R f vs k x hx
theorem text_ok (hT : TblOk P tbl) (hm : P.follows .mixedOrders = true) (hL : LTOk P H lt) {F : FuncId} {br : (R : Type) → List V → (V → List V → Option R) → Option R} (h : ∀ R vs k x, br R vs k = some x → runK P H tbl lt F vs k = some x) :
  ∀ R vs k x, br R vs k = some x → ∃ r outs, FnOk P F vs r outs ∧ k r outs = some x := fun R vs k x hx => runK_some hT hm hL (h R vs k x hx)
/-- - -/
def addL (F i : Nat) (E : (R : Type) → Nat → List V → (Ex → List V → Option R) → Option R) (m : Nat) (L : LTbl) : LTbl := fun R f j vs k => bif Nat.beq f F && Nat.beq j i then E R m vs k else L R f j vs k
/-- - -/
def loopChk (P : Program) (H : Hints) (F i : Nat) : Bool := match P.funcs[F]? with
 | none => false
 | some fn => match fn.body with
  | none => false
  | some body => okCode fn.ntmps body && Nat.ble fn.ntmps (H.len F) && ((loopsOf body).getD i (false, .skip)).1
/-- - -/
def joinChk (P : Program) (H : Hints) (F i : Nat) : Bool := match P.funcs[F]? with
 | none => false
 | some fn => match fn.body with
  | none => false
  | some body => okCode fn.ntmps body && Nat.ble fn.ntmps (H.len F) && !((loopsOf body).getD i (true, .skip)).1
theorem addL_ok (hT : TblOk P tbl) (hm : P.follows .mixedOrders = true) (hL : LTOk P H lt) {F i : Nat} {l : List Nat} (hc : loopChk P H F i = true) (hl : H.live F i = some l) {E : (R : Type) → Nat → List V → (Ex → List V → Option R) → Option R} (h0 : ∀ R vs k, E R 0 vs k = none)
  (hstep : ∀ R m vs k x, E R (m + 1) vs k = some x → codeK P H tbl F lt (i + 1) (loopBody P F i) (mkEnv l vs 0 (H.len F)) (fun e env' => match e with | .normal => E R m (vals l env') k | e => k e (vals l env')) = some x) (m : Nat) :
  LTOk P H (addL F i E m lt) := by
 intro R f j vs k x hx fn body b l' hf hbd hb hl'
 unfold addL at hx
 cases hq : (Nat.beq f F && Nat.beq j i) with
 | false => rw [hq] at hx; exact hL R f j vs k x hx fn body b l' hf hbd hb hl'
 | true =>
  rw [hq] at hx
  simp only [Bool.and_eq_true] at hq
  have h1 := Nat.eq_of_beq_eq_true hq.1
  have h2 := Nat.eq_of_beq_eq_true hq.2
  subst h1 h2
  rw [hl] at hl'
  cases hl'
  have hbody : loopBody P f j = b.2 := by
   unfold loopBody
   simp only [hf, hbd, List.getD_eq_getElem?_getD, hb, Option.getD_some]
  unfold loopChk at hc
  simp only [hf, hbd, Bool.and_eq_true] at hc
  obtain ⟨⟨hc1, hc2⟩, hc3⟩ := hc
  rw [List.getD_eq_getElem?_getD, hb] at hc3
  have hb' := hb
  obtain ⟨t, b⟩ := b
  simp only [Option.getD_some] at hc3
  subst hc3
  have hn : fn.ntmps ≤ H.len f := Nat.le_of_ble_eq_true hc2
  have hcb : okCode fn.ntmps b = true := okCode_loop body hc1 (b := (true, b)) (List.mem_of_getElem? hb)
  have key : ∀ (m : Nat) (vs : List V) (k : Ex → List V → Option R) (x : R), E R m vs k = some x → ∃ e vs', k e vs' = some x ∧ RoundsDo P fn.ntmps b m (mkEnv l vs 0 (H.len f)) e (mkEnv l vs' 0 (H.len f)) := by
   intro m
   induction m with
   | zero => intro vs k x h; rw [h0] at h; cases h
   | succ m ih =>
    intro vs k x h
    have h3 := hstep R m vs k x h
    rw [hbody] at h3
    obtain ⟨e1, env1, h4, h5, h6⟩ := codeK_some hT hm hL hf hbd rfl hn b hcb (within_nested body hb) (by rw [mkEnv_len]) h3
    rw [mkEnv_len] at h5
    have fg : ∀ {A : Nat → Prop} {hz hb : GH} {O : OM} {tm : Nat → Value} {w : World}, Inv A hz hb O env1 tm w → Inv A hz hb O (mkEnv l (vals l env1) 0 (H.len f)) tm w := fun {A hz hb O tm w} I => by
     have := I.forget l
     rwa [h5] at this
    cases e1 with
    | normal =>
     simp only at h4
     obtain ⟨e2, vs2, h7, h8⟩ := ih _ _ _ h4
     refine ⟨e2, vs2, h7, fun A hz hb O a hid w Q ha I hfu => ?_⟩
     rw [rounds_succ]
     refine h6 A hz hb O a hid w _ ha I fun a1 w1 hz1 hb1 O1 x1 I1 s1 ha1 hd1 => ?_
     refine h8 A hz1 hb1 O1 a1 hid w1 Q ha1 (fg I1) ?_
     rw [hd1]
     exact hfu.next x1 s1
    | exit id =>
     refine ⟨.exit id, _, h4, fun A hz hb O a hid w Q ha I hfu => ?_⟩
     rw [rounds_succ]
     exact h6 A hz hb O a hid w _ ha I fun a1 w1 hz1 hb1 O1 x1 I1 s1 ha1 hd1 => hfu a1 w1 hz1 hb1 O1 x1 (fg I1) s1 ha1 hd1
    | ret =>
     refine ⟨.ret, _, h4, fun A hz hb O a hid w Q ha I hfu => ?_⟩
     rw [rounds_succ]
     exact h6 A hz hb O a hid w _ ha I fun a1 w1 hz1 hb1 O1 x1 I1 s1 ha1 hd1 => hfu a1 w1 hz1 hb1 O1 x1 (fg I1) s1 ha1 hd1
  obtain ⟨e, vs', h7, h8⟩ := key m vs k x hx
  exact ⟨e, vs', h7, fun A hz hb O a hid w Q ha I hfu => wp_loop_rounds m (h8 A hz hb O a hid w Q ha I hfu)⟩
/-- - -/
def addJ (F i : Nat) (br : (R : Type) → List V → (Ex → List V → Option R) → Option R) (L : LTbl) : LTbl := fun R f j vs k => bif Nat.beq f F && Nat.beq j i then br R vs k else L R f j vs k
theorem addJ_ok (hT : TblOk P tbl) (hm : P.follows .mixedOrders = true) (hL : LTOk P H lt) {F i : Nat} {l : List Nat} (hc : joinChk P H F i = true) (hl : H.live F i = some l) {br : (R : Type) → List V → (Ex → List V → Option R) → Option R}
  (hbr : ∀ R vs k x, br R vs k = some x → codeK P H tbl F lt (i + 1) (loopBody P F i) (mkEnv l vs 0 (H.len F)) (fun e env' => k e (vals l env')) = some x ∨ lt R F i vs k = some x) : LTOk P H (addJ F i br lt) := by
 intro R f j vs k x hx fn body b l' hf hbd hb hl'
 unfold addJ at hx
 cases hq : (Nat.beq f F && Nat.beq j i) with
 | false => rw [hq] at hx; exact hL R f j vs k x hx fn body b l' hf hbd hb hl'
 | true =>
  rw [hq] at hx
  simp only [Bool.and_eq_true] at hq
  have h1 := Nat.eq_of_beq_eq_true hq.1
  have h2 := Nat.eq_of_beq_eq_true hq.2
  subst h1 h2
  rcases hbr R vs k x hx with h | h
  ·rw [hl] at hl'
   cases hl'
   have hbody : loopBody P f j = b.2 := by
    unfold loopBody
    simp only [hf, hbd, List.getD_eq_getElem?_getD, hb, Option.getD_some]
   unfold joinChk at hc
   simp only [hf, hbd, Bool.and_eq_true] at hc
   obtain ⟨⟨hc1, hc2⟩, hc3⟩ := hc
   rw [List.getD_eq_getElem?_getD, hb] at hc3
   obtain ⟨t, b⟩ := b
   simp only [Option.getD_some, Bool.not_eq_true'] at hc3
   subst hc3
   have hn : fn.ntmps ≤ H.len f := Nat.le_of_ble_eq_true hc2
   have hcb : okCode fn.ntmps b = true := okCode_loop body hc1 (b := (false, b)) (List.mem_of_getElem? hb)
   rw [hbody] at h
   obtain ⟨e1, env1, h4, h5, h6⟩ := codeK_some hT hm hL hf hbd rfl hn b hcb (within_nested body hb) (by rw [mkEnv_len]) h
   rw [mkEnv_len] at h5
   refine ⟨e1, _, h4, fun A hz hb O a hid w Q ha I hfu => h6 A hz hb O a hid w Q ha I fun a1 w1 hz1 hb1 O1 x1 I1 s1 ha1 hd1 => hfu a1 w1 hz1 hb1 O1 x1 ?_ s1 ha1 hd1⟩
   have := I1.forget l
   rwa [h5] at this
  ·exact hL R f j vs k x h fn body b l' hf hbd hb hl'
/-- - -/
def addB (F i : Nat) (br : (R : Type) → List V → (Ex → List V → Option R) → Option R) (L : LTbl) : LTbl := fun R f j vs k => bif Nat.beq f F && Nat.beq j i then br R vs k else L R f j vs k
theorem addB_ok (hT : TblOk P tbl) (hm : P.follows .mixedOrders = true) (hL : LTOk P H lt) {F i : Nat} {l : List Nat} (hc : loopChk P H F i = true) (hl : H.live F i = some l) (m : Nat) (E : (R : Type) → Nat → List V → (Ex → List V → Option R) → Option R) (h0 : ∀ R vs k, E R 0 vs k = none)
  (hstep : ∀ R m vs k x, E R (m + 1) vs k = some x → codeK P H tbl F lt (i + 1) (loopBody P F i) (mkEnv l vs 0 (H.len F)) (fun e env' => match e with | .normal => E R m (vals l env') k | e => k e (vals l env')) = some x)
  {br : (R : Type) → List V → (Ex → List V → Option R) → Option R} (hbr : ∀ R vs k x, br R vs k = some x → E R m vs k = some x ∨ lt R F i vs k = some x) : LTOk P H (addB F i br lt) := by
 have hA := addL_ok hT hm hL hc hl h0 hstep m
 intro R f j vs k x hx
 unfold addB at hx
 cases hq : (Nat.beq f F && Nat.beq j i) with
 | false => rw [hq] at hx; exact hL R f j vs k x hx
 | true =>
  rw [hq] at hx
  rcases hbr R vs k x hx with h | h
  ·refine hA R f j vs k x ?_
   unfold addL
   rw [hq]
   exact h
  ·simp only [Bool.and_eq_true] at hq
   have h1 := Nat.eq_of_beq_eq_true hq.1
   have h2 := Nat.eq_of_beq_eq_true hq.2
   subst h1 h2
   exact hL R f j vs k x h
end
end Go.Abs
end
section
set_option linter.unusedVariables false
set_option linter.unusedSimpArgs false
set_option linter.unusedSectionVars false
namespace Go.Abs
open Go Go.RowKit
variable [Globs]
section
variable {P : Program} {H : Hints} {tbl : Tbl} {lt : LTbl}

/-! ### a law -/
/-- - -/
def IsInts (k : IntKind) (w : World) (a : Option Addr) (len cap : Nat) (zs : List Int) : Prop :=
 (a = none ∧ len = 0 ∧ cap = 0 ∧ zs = []) ∨ ∃ x, a = some x ∧ len ≤ cap ∧ zs.length = cap ∧ ∀ i, i < zs.length → w.cell? (x.add i) = some (.int k (zs.getD i 0))
def intRows (k : IntKind) (zs : List Int) : Rows := zs.map fun n => [.lit (.int k n)]
theorem ints_rep {k : IntKind} {w : World} {a : Option Addr} {len cap : Nat} {zs : List Int} (h : IsInts k w a len cap zs) : RepF (fun b => w.heap[b]?) (.lst [.int k] (intRows k (zs.take len))) (.slice a len cap) := by
 rcases h with ⟨rfl, rfl, rfl, rfl⟩ | ⟨x, rfl, hlen, hz, hc⟩
 ·exact .nil _ _ _
 ·by_cases h0 : len = 0
  ·subst h0
   exact .nil _ _ _
  ·have hl : (intRows k (zs.take len)).length = len := by simp [intRows]; omega
   have h1 := hc 0 (by omega)
   obtain ⟨blk, off, path⟩ := x
   unfold World.cell? at h1
   have hadd0 : Addr.add ⟨blk, off, path⟩ 0 = ⟨blk, off, path⟩ := rfl
   rw [hadd0] at h1
   simp only at h1
   split at h1
   ·rename_i arr t fr hw
    split at h1
    ·cases h1
    ·rename_i hsp
     have hpath : path = none := by cases path with | none => rfl | some p => simp at hsp
     subst hpath
     have hcell : ∀ i, i < zs.length → arr[off + i]? = some (.int k (zs.getD i 0)) := by
      intro i hi
      have h2 := hc i hi
      have hadd : Addr.add ⟨blk, off, none⟩ i = ⟨blk, off + i, none⟩ := by
       unfold Addr.add
       by_cases hi0 : i = 0
       ·subst hi0; rfl
       ·rw [if_neg hi0]
      rw [hadd] at h2
      unfold World.cell? at h2
      simp only [hw] at h2
      simpa using h2
     have hsz : off + len ≤ arr.size := by
      have := hcell (len - 1) (by omega)
      have := (Array.getElem?_eq_some_iff.1 this).1
      omega
     have := RepF.lst (h := fun b => w.heap[b]?) (ts := [.int k]) (rows := intRows k (zs.take len)) (blk := blk) (off := off) (cap := cap) (arr := arr) (t := t) (fr := fr) hw (by rw [hl]; exact hlen) (by rw [hl]; simpa using hsz) (fun row hrow => by
      simp only [intRows, List.mem_map] at hrow
      obtain ⟨n, _, rfl⟩ := hrow
      exact .cons ⟨n, rfl⟩ .nil) (fun i j row y e1 e2 => by
      simp only [intRows, List.getElem?_map, Option.map_eq_some_iff] at e1
      obtain ⟨n, hn, rfl⟩ := e1
      cases j with
      | succ j => simp at e2
      | zero =>
       simp at e2
       subst e2
       have hi := (List.getElem?_eq_some_iff.1 hn).1
       simp at hi
       have hg : zs.getD i 0 = n := by
        rw [List.getElem?_take] at hn
        split at hn
        ·rw [List.getD_eq_getElem?_getD, hn]; rfl
        ·cases hn
       have hv := hcell i (by omega)
       rw [hg] at hv
       have : arr.getD (off + i * [LT.int k].length + 0) undef = .int k n := by
        simp only [List.length_cons, List.length_nil, Nat.zero_add, Nat.mul_one, Nat.add_zero]
        rw [Array.getD_eq_getD_getElem?, hv]
        rfl
       rw [this]
       exact .lit _)
     rw [hl] at this
     exact this
   ·cases h1
/-- - -/
theorem law_calls {f : FuncId} {fn : Func} {body : Code} (hf : P.funcs[f]? = some fn) (hname : (fn.name == "runtime.NumGoroutine") = false) (hb : fn.body = some body) {k : IntKind} {w : World} {a : Option Addr} {len cap : Nat} {zs : List Int} (hz : IsInts k w a len cap zs) (hG : GlobOk fun b => w.heap[b]?) {outs : List V}
  (hF : FnOk P f [.f (.lst [.int k] (intRows k (zs.take len)))] (vBool true) outs) : Calls P f #[.slice a len cap] w fun e w' => e = .returned (.bool true) ∧ Below w.heap.size w w' := by
 obtain ⟨_, hrun⟩ := hF
 have h := hrun (fun b => w.heap.size ≤ b) (fun b => w.heap[b]?) (fun b => w.heap[b]?) (fun _ => none) w #[.slice a len cap] rfl ⟨GH.le_refl _, fun b o e => e, (fun b p e => nomatch e), fun b e => e, hG⟩ (fun j v e => by
  cases j with
  | zero => simp at e; subst e; exact ints_rep hz
  | succ j => simp at e)
 unfold callRun at h
 rw [run_enter hf hname hb] at h
 refine Calls.mono h fun e w' he => ?_
 obtain ⟨v, rfl, hz', hb', O', ext, g, hs, hr, _⟩ := he
 have hv : v = .bool true := by
  have hr' : RepF hz' (.lit (.bool true)) v := hr
  cases hr'
  rfl
 refine ⟨by rw [hv], hs.os, hs.tape, hs.output, hs.size, fun b hb2 => ?_⟩
 have h1 : w.heap[b]? = some (w.heap[b]'hb2) := Array.getElem?_eq_getElem hb2
 rw [h1]
 exact g.agree _ _ (ext.2.1 _ _ h1)
/-- - -/
theorem globOk_none (h : ∀ g, Globs.view g = none) (hz : GH) (h2 : ∀ g, Globs.known g = none := by exact fun _ => rfl) : GlobOk hz :=
 ⟨fun g ts rows e => (by rw [h g] at e; cases e), fun g p e => (by rw [h2 g] at e; cases e)⟩
/-- - -/
theorem glob_ints {k : IntKind} {w : World} {g : Nat} {zs : List Int} (h0 : 0 < zs.length) (h : ∀ i, i < zs.length → w.cell? ⟨g, i, none⟩ = some (.int k (zs.getD i 0))) :
  0 < (intRows k zs).length ∧ RepF (fun b => w.heap[b]?) (.lst [.int k] (intRows k zs)) (.slice (some ⟨g, 0, none⟩) (intRows k zs).length (intRows k zs).length) := by
 have hl : (intRows k zs).length = zs.length := by simp [intRows]
 have := ints_rep (k := k) (w := w) (a := some ⟨g, 0, none⟩) (len := zs.length) (cap := zs.length) (zs := zs) (.inr ⟨_, rfl, Nat.le_refl _, rfl, fun i hi => by
  have e : Addr.add ⟨g, 0, none⟩ i = ⟨g, i, none⟩ := by
   unfold Addr.add
   by_cases h : i = 0
   ·subst h; rfl
   ·rw [if_neg h]; simp
  rw [e]
  exact h i hi⟩)
 rw [List.take_length] at this
 rw [hl]
 exact ⟨h0, this⟩
/-- - -/
theorem law_of (hT : TblOk P tbl) {f : FuncId} {vs : List V} {r : V} {outs : List V} (h : ∀ (R : Type) (k : V → List V → Option R), tbl R f vs k = k r outs) : FnOk P f vs r outs := by
 obtain ⟨r', outs', h1, h2⟩ := hT (V × List V) f vs (fun r o => some (r, o)) (r, outs) (h _ _)
 simp only [Option.some.injEq, Prod.mk.injEq] at h2
 obtain ⟨rfl, rfl⟩ := h2
 exact h1
end
end Go.Abs
end
section
set_option linter.unusedVariables false
set_option linter.unusedSimpArgs false
set_option linter.unusedSectionVars false
namespace Go.Abs
open Go
variable [Globs]
section
variable {P : Program} {H : Hints} {tbl : Tbl} {lt : LTbl}

/-! ### a list's copy: whether it is nil is not seen here -/
def brClone (ts : List LT) (F : Nat) (T : Tbl) : (R : Type) → List V → (V → List V → Option R) → Option R := fun R vs k => match vs with
 | [.bor ts' rows] => bif eqTs ts' ts then bif lenOk rows then k (.own ts rows) [.undef] else none else T R F vs k
 | [.f (.lst ts' rows)] => bif eqTs ts' ts then bif lenOk rows then k (.own ts rows) [.undef] else none else T R F vs k
 | _ => T R F vs k
theorem fnOk_runK (hT : TblOk P tbl) (hm : P.follows .mixedOrders = true) (hL : LTOk P H lt) {f : FuncId} {vs : List V} {r : V} {outs : List V} (h : ∀ (R : Type) (k : V → List V → Option R), runK P H tbl lt f vs k = k r outs) : FnOk P f vs r outs := by
 obtain ⟨r', outs', h1, h2⟩ := runK_some hT hm hL (h (V × List V) fun r o => some (r, o))
 simp only [Option.some.injEq, Prod.mk.injEq] at h2
 obtain ⟨rfl, rfl⟩ := h2
 exact h1
theorem clone_ok {F : FuncId} {ts : List LT} (h1 : ∀ cap, FnOk P F [.f (.lit (.slice none 0 cap))] (.own ts []) [.undef]) (h2 : ∀ a cap, FnOk P F [.f (.lit (.slice (some a) 0 cap))] (.own ts []) [.undef])
  (h3 : ∀ r rs, lenOk (r :: rs) = true → FnOk P F [.bor ts (r :: rs)] (.own ts (r :: rs)) [.undef]) (rows : Rows) (hl : lenOk rows = true) : FnOk P F [.bor ts rows] (.own ts rows) [.undef] := by
 cases rows with
 | cons r rs => exact h3 r rs hl
 | nil =>
  refine ⟨rfl, fun A hz hb O w args hsz g hargs => ?_⟩
  have h0 := hargs 0 (.bor ts []) rfl
  obtain ⟨_, a, cap, hc, _⟩ := h0
  have lit : ∀ v, args.getD 0 undef = v → ∀ (j : Nat) (x : V), [V.f (.lit v)][j]? = some x → RepC hz hb O w [j] x (args.getD j undef) := by
   intro v hv j x e
   cases j with
   | zero => simp at e; subst e; rw [hv]; exact .lit v
   | succ j => simp at e
  cases a with
  | none => exact ((h1 cap).2 A hz hb O w args hsz g (lit _ hc)).mono fun c w' ⟨hz', hb', O', e1, e2, e3, e4, e5⟩ => ⟨hz', hb', O', e1, e2, e3, e4, fun j v ho hh => by have := e5 j v ho hh; cases j <;> exact this⟩
  | some a => exact ((h2 a cap).2 A hz hb O w args hsz g (lit _ hc)).mono fun c w' ⟨hz', hb', O', e1, e2, e3, e4, e5⟩ => ⟨hz', hb', O', e1, e2, e3, e4, fun j v ho hh => by have := e5 j v ho hh; cases j <;> exact this⟩
theorem clone_f {F : FuncId} {ts : List LT} {rows : Rows} {r : V} {outs : List V} (h : FnOk P F [.bor ts rows] r outs) : FnOk P F [.f (.lst ts rows)] r outs := by
 refine ⟨h.1, fun A hz hb O w args hsz g hargs => callRun.mono (h.2 A hz hb O w args hsz g fun j v e => ?_) fun c w' ⟨hz', hb', O', e1, e2, e3, e4, e5⟩ => ⟨hz', hb', O', e1, e2, e3, e4, fun j v ho hh => by have := e5 j v ho hh; cases j <;> exact this⟩⟩
 cases j with
 | zero =>
  simp at e
  subst e
  have h0 : RepF hz (.lst ts rows) _ := hargs 0 _ rfl
  exact h0.b g.sub
 | succ j => simp at e
theorem brClone_ok {T : Tbl} (hT : TblOk P T) {F : FuncId} {ts : List LT} (h : ∀ rows, lenOk rows = true → FnOk P F [.bor ts rows] (.own ts rows) [.undef]) : TblOk P (addT F (brClone ts F T) T) := by
 refine addT_ok hT fun R vs k x hx => ?_
 unfold brClone at hx
 split at hx
 ·rename_i ts' rows
  cases he : eqTs ts' ts with
  | false => rw [he] at hx; exact hT R F _ k x hx
  | true =>
   obtain rfl := eqTs_eq he
   rw [he] at hx
   cases hl : lenOk rows with
   | false => rw [hl] at hx; cases hx
   | true => rw [hl] at hx; exact ⟨_, _, h rows hl, hx⟩
 ·rename_i ts' rows
  cases he : eqTs ts' ts with
  | false => rw [he] at hx; exact hT R F _ k x hx
  | true =>
   obtain rfl := eqTs_eq he
   rw [he] at hx
   cases hl : lenOk rows with
   | false => rw [hl] at hx; cases hx
   | true => rw [hl] at hx; exact ⟨_, _, clone_f (h rows hl), hx⟩
 ·exact hT R F vs k x hx
end
end Go.Abs
end
section
set_option linter.unusedVariables false
set_option linter.unusedSimpArgs false
set_option linter.unusedSectionVars false
namespace Go.Abs
open Go
variable [Globs]
section
variable {P : Program} {H : Hints} {tbl : Tbl} {lt : LTbl}

/-! ### functions that have no text -/
theorem extern_ok {f : FuncId} {fn : Func} {e : Array Value → Sem Value} (hf : P.funcs[f]? = some fn) (hn : (fn.name == "runtime.NumGoroutine") = false) (hb : fn.body.isNone = true) (hx : (Extern.findNext fn).isNone = true) (he : Extern.find fn = some e)
  {vs : List V} {r : V} {outs : List V} (hok : okR r = true) (ho : outs.all (fun v => !isHand v) = true)
  (hr : ∀ (hz hb : GH) (O : OM) (w : World) (args : Array Value), args.size = vs.length → (∀ j v, vs[j]? = some v → RepC hz hb O w [j] v (args.getD j undef)) → ∃ c, (e args).run P w = .ok c w ∧ ∀ p, RepR hz hb O w p r c) : FnOk P f vs r outs := by
 refine ⟨hok, fun A hz hb' O w args hsz g hargs => ?_⟩
 obtain ⟨c, hrun, hc⟩ := hr hz hb' O w args hsz hargs
 have h1 : (callFunc f args).run P w = .ok (.value c) w := by
  have hx' : Extern.findNext fn = none := by
   cases h : Extern.findNext fn with
   | none => rfl
   | some y => rw [h] at hx; cases hx
  have hne : ¬ fn.name = "runtime.NumGoroutine" := by simpa using hn
  have hb2 : fn.body = none := by simpa using hb
  simp [callFunc, hf, hne, hb2, hx', he, hrun]
 unfold callRun
 rw [h1]
 refine ⟨hz, hb', O, FzExt.refl _ _ _, g, Side.refl _, hc _, fun j v e hv => ?_⟩
 have := List.all_eq_true.1 ho v (List.mem_of_getElem? e)
 rw [hv] at this
 cases this
def brIdx (F : Nat) (T : Tbl) : (R : Type) → List V → (V → List V → Option R) → Option R := fun R vs k => match vs with
 | [.f (.lit (.string s)), .f (.lit (.int .u8 c))] => k (vInt .i64 (idxByte s c)) [.undef, .undef]
 | _ => T R F vs k
theorem idx_ok {f : FuncId} {fn : Func} (hf : P.funcs[f]? = some fn) (hn : (fn.name == "runtime.NumGoroutine") = false) (hb : fn.body.isNone = true) (hx : (Extern.findNext fn).isNone = true) (he : Extern.find fn = some Extern.BytealgIndexByte.indexByte)
  (s : ByteArray) (c : Int) : FnOk P f [.f (.lit (.string s)), .f (.lit (.int .u8 c))] (vInt .i64 (idxByte s c)) [.undef, .undef] := by
 refine extern_ok hf hn hb hx he rfl rfl fun hz hb O w args hsz hargs => ?_
 obtain ⟨a, b, rfl⟩ : ∃ a b, args = #[a, b] := by
  rcases args with ⟨l⟩
  match l, hsz with
  | [a, b], _ => exact ⟨a, b, rfl⟩
 have h0 : RepF hz (.lit (.string s)) a := hargs 0 _ rfl
 have h1 : RepF hz (.lit (.int .u8 c)) b := hargs 1 _ rfl
 cases h0
 cases h1
 refine ⟨_, ?_, fun p => .lit _⟩
 unfold idxByte
 show ((match (List.range s.size).find? fun i => s[i]! == c.toNat.toUInt8 with
  | some i => pure (goInt i)
  | none => pure (goInt (-1)) : Go.Sem Value)).run P w = _
 cases (List.range s.size).find? fun i => s[i]! == c.toNat.toUInt8 <;> rfl
theorem brIdx_ok {T : Tbl} (hT : TblOk P T) {F : FuncId} (h : ∀ s c, FnOk P F [.f (.lit (.string s)), .f (.lit (.int .u8 c))] (vInt .i64 (idxByte s c)) [.undef, .undef]) : TblOk P (addT F (brIdx F T) T) := by
 refine addT_ok hT fun R vs k x hx => ?_
 unfold brIdx at hx
 split at hx
 ·exact ⟨_, _, h _ _, hx⟩
 ·exact hT R F vs k x hx
end
end Go.Abs
end
section
set_option linter.unusedVariables false
set_option linter.unusedSimpArgs false
set_option linter.unusedSectionVars false
namespace Go.Abs
open Go Go.RowKit
/-- - -/
def tzF : Nat → Nat → Nat
 | 0, _ => 0
 | k + 1, n => if n % 2 = 1 then 0 else tzF k (n / 2) + 1
def tz16 (n : Int) : Int := tzF 16 n.toNat
/-- - -/
def repB (s : ByteArray) (n : Int) : ByteArray := ⟨(Lib.repeatL s.data.toList n.toNat).toArray⟩
def repOk (s : ByteArray) (n : Int) : Bool := decide (2 ≤ n) && (decide (n ≤ 1000000) && (decide (s.size ≤ 1000000) && decide (0 < s.size)))
variable [Globs]
set_option linter.unusedSectionVars false
section
variable {P : Program} {H : Hints} {tbl : Tbl} {lt : LTbl}

/-! ### functions that are known by a contract on plain values -/
theorem fnOk_lit {f : FuncId} {fn : Func} {body : Code} (hf : P.funcs[f]? = some fn) (hname : (fn.name == "runtime.NumGoroutine") = false) (hb : fn.body = some body) {xs : List Value} {v : Value} (hv : okR (.f (.lit v)) = true)
  (hc : ∀ w, Calls P f xs.toArray w fun e w' => e = .returned v ∧ Below w.heap.size w w') : FnOk P f (xs.map fun x => .f (.lit x)) (.f (.lit v)) (xs.map fun _ => .undef) := by
 refine ⟨hv, fun A hz hb' O w args hsz g hargs => ?_⟩
 obtain rfl : args = xs.toArray := by
  apply Array.ext
  ·simpa using hsz
  ·intro i h1 h2
   have h3 := hargs i (.f (.lit xs[i])) (by simp at h2; simp [h2])
   have h4 : RepF hz (.lit xs[i]) (args.getD i undef) := h3
   have h5 : args.getD i undef = args[i] := by simp [Array.getD, h1]
   rw [h5] at h4
   generalize args[i] = y at h4 ⊢
   cases h4
   simp
 unfold callRun
 rw [run_enter hf hname hb]
 refine Calls.mono (hc w) fun e w' ⟨he, hb⟩ => ?_
 obtain ⟨ho, ht, hu, hs, hk⟩ := hb
 refine ⟨v, he, hz, hb', O, FzExt.refl _ _ _, ⟨g.sub, fun b o e => ?_, fun b p e => ?_, fun b e => g.fresh b (by omega), g.glob⟩, ⟨ho, ht, hu, hs⟩, .lit v, fun j u e hu => ?_⟩
 ·have h1 := g.agree b o e
  have h2 := (Array.getElem?_eq_some_iff.1 h1).1
  rw [hk b h2]; exact h1
 ·have := g.owned b p e
  exact ⟨this.1, this.2.1, by omega⟩
 ·simp only [List.getElem?_map, Option.map_eq_some_iff] at e
  obtain ⟨_, _, rfl⟩ := e
  cases hu
def brRep (F : Nat) (T : Tbl) : (R : Type) → List V → (V → List V → Option R) → Option R := fun R vs k => match vs with
 | [.f (.lit (.string s)), .f (.lit (.int .i64 n))] => bif repOk s n then k (.f (.lit (.string (repB s n)))) [.undef, .undef] else T R F vs k
 | _ => T R F vs k
theorem brRep_ok {T : Tbl} (hT : TblOk P T) {F : FuncId} (h : ∀ s n, repOk s n = true → FnOk P F [.f (.lit (.string s)), .f (.lit (.int .i64 n))] (.f (.lit (.string (repB s n)))) [.undef, .undef]) : TblOk P (addT F (brRep F T) T) := by
 refine addT_ok hT fun R vs k x hx => ?_
 unfold brRep at hx
 split at hx
 ·rename_i s n
  cases hr : repOk s n with
  | true => rw [hr] at hx; exact ⟨_, _, h s n hr, hx⟩
  | false => rw [hr] at hx; exact hT R F _ k x hx
 ·exact hT R F vs k x hx
def brTz (F : Nat) (T : Tbl) : (R : Type) → List V → (V → List V → Option R) → Option R := fun R vs k => match vs with
 | [.f (.lit (.int .u16 n))] => bif decide (0 ≤ n ∧ n < 4096) then k (vInt .i64 (tz16 n)) [.undef] else T R F vs k
 | _ => T R F vs k
theorem brTz_ok {T : Tbl} (hT : TblOk P T) {F : FuncId} (h : ∀ n : Int, 0 ≤ n ∧ n < 4096 → FnOk P F [.f (.lit (.int .u16 n))] (vInt .i64 (tz16 n)) [.undef]) : TblOk P (addT F (brTz F T) T) := by
 refine addT_ok hT fun R vs k x hx => ?_
 unfold brTz at hx
 split at hx
 ·rename_i n
  cases hr : decide (0 ≤ n ∧ n < 4096) with
  | true => rw [hr] at hx; exact ⟨_, _, h n (of_decide_eq_true hr), hx⟩
  | false => rw [hr] at hx; exact hT R F _ k x hx
 ·exact hT R F vs k x hx
/-- - -/
def tryAt (P : Program) (H : Hints) (f : FuncId) (k : IntKind) (g : Int → Int) (n : Nat) : Bool := match runK P H noT noL f [.f (.lit (.int k n))] (fun r o => some (r, o)) with
 | some (.f (.lit (.int .i64 c)), [.undef]) => decide (c = g n)
 | _ => false
theorem tried {H : Hints} {f : FuncId} {k : IntKind} {g : Int → Int} (hm : P.follows .mixedOrders = true) {N : Nat} (h : (List.range N).all (tryAt P H f k g) = true) (n : Int) (hn : 0 ≤ n ∧ n < N) : FnOk P f [.f (.lit (.int k n))] (vInt .i64 (g n)) [.undef] := by
 obtain ⟨m, rfl⟩ := Int.eq_ofNat_of_zero_le hn.1
 have h1 := List.all_eq_true.1 h m (List.mem_range.2 (by omega))
 unfold tryAt at h1
 split at h1
 ·rename_i c hc
  obtain ⟨r, outs, h2, h3⟩ := runK_some noT_ok hm noL_ok hc
  simp only [Option.some.injEq, Prod.mk.injEq] at h3
  obtain ⟨rfl, rfl⟩ := h3
  rw [← of_decide_eq_true h1]
  exact h2
 ·cases h1
end
end Go.Abs
end
section
set_option linter.unusedVariables false
set_option linter.unusedSimpArgs false
set_option linter.unusedSectionVars false
namespace Go.Abs
open Go Go.RowKit
/-- - -/
def trimB (s c : ByteArray) : ByteArray := ⟨(Lib.trimS s.data.toList c.data.toList).toArray⟩
def trimOk (s c : ByteArray) : Bool := decide (s.size ≤ 1000000) && (decide (c.size ≤ 1000) && c.data.toList.all fun b => decide (b.toNat < 128))
def cmpB (a b : ByteArray) : Int := Lib.compareBytes a.data.toList b.data.toList
variable [Globs]
set_option linter.unusedSectionVars false
variable {P : Program}
def brTrim (F : Nat) (T : Tbl) : (R : Type) → List V → (V → List V → Option R) → Option R := fun R vs k => match vs with
 | [.f (.lit (.string s)), .f (.lit (.string c))] => bif trimOk s c then k (.f (.lit (.string (trimB s c)))) [.undef, .undef] else T R F vs k
 | _ => T R F vs k
theorem brTrim_ok {T : Tbl} (hT : TblOk P T) {F : FuncId} (h : ∀ s n, trimOk s n = true → FnOk P F [.f (.lit (.string s)), .f (.lit (.string n))] (.f (.lit (.string (trimB s n)))) [.undef, .undef]) : TblOk P (addT F (brTrim F T) T) := by
 refine addT_ok hT fun R vs k x hx => ?_
 unfold brTrim at hx
 split at hx
 ·rename_i s n
  cases hr : trimOk s n with
  | true => rw [hr] at hx; exact ⟨_, _, h s n hr, hx⟩
  | false => rw [hr] at hx; exact hT R F _ k x hx
 ·exact hT R F vs k x hx
def brCmp (F : Nat) (T : Tbl) : (R : Type) → List V → (V → List V → Option R) → Option R := fun R vs k => match vs with
 | [.f (.lit (.string s)), .f (.lit (.string c))] => k (vInt .i64 (cmpB s c)) [.undef, .undef]
 | _ => T R F vs k
theorem brCmp_ok {T : Tbl} (hT : TblOk P T) {F : FuncId} (h : ∀ s n, FnOk P F [.f (.lit (.string s)), .f (.lit (.string n))] (vInt .i64 (cmpB s n)) [.undef, .undef]) : TblOk P (addT F (brCmp F T) T) := by
 refine addT_ok hT fun R vs k x hx => ?_
 unfold brCmp at hx
 split at hx
 ·exact ⟨_, _, h _ _, hx⟩
 ·exact hT R F vs k x hx
end Go.Abs
end
section
set_option linter.unusedVariables false
set_option linter.unusedSimpArgs false
set_option linter.unusedSectionVars false
namespace Go.Abs
open Go Go.RowKit
variable [Globs]
set_option linter.unusedSectionVars false
section
variable {P : Program}
/-! ### slices.Sort of whole numbers, by its contract -/
/-- - -/
def sortI (l : List Int) : List Int := l.mergeSort fun x y => decide (x ≤ y)
def intsR (l : List Int) : Rows := l.map fun z => [F.lit (.int .i64 z)]
def sortR (rows : Rows) : Rows := intsR (sortI (rows.map rowInt))
def sortOk (rows : Rows) : Bool := decide (0 < rows.length) && decide (rows.length ≤ rowMax)
theorem sortI_len (l : List Int) : (sortI l).length = l.length := by simp [sortI]
theorem sortR_len (rows : Rows) : (sortR rows).length = rows.length := by simp [sortR, intsR, sortI_len]
theorem intRow {row : List F} (h : TyRow [.int .i64] row) : row = [F.lit (.int .i64 (rowInt row))] := by
 cases h with
 | cons h hs =>
  cases hs
  obtain ⟨n, rfl⟩ := h
  rfl
theorem sortInt_ok {f : FuncId} {fn : Func} {body : Code} (hf : P.funcs[f]? = some fn) (hname : (fn.name == "runtime.NumGoroutine") = false) (hb : fn.body = some body)
  (hc : ∀ (blk off cap : Nat) (zs : List Int) (w : World), Sort.Holds (Value.int .i64) w blk off zs.toArray → blk < w.heap.size → zs.length < 4611686018427387904 →
   Calls P f #[.slice (some ⟨blk, off, none⟩) zs.length cap] w fun e w' => e = .returned (.tuple #[]) ∧ ∃ n os, w' = Sort.grow (Sort.putRow (Value.int .i64) (Sort.ahead w n) blk off (zs.mergeSort fun x y => decide (x ≤ y)).toArray) os)
  (rows : Rows) (hok : sortOk rows = true) : FnOk P f [.own [.int .i64] rows] (.tup []) [.own [.int .i64] (sortR rows)] := by
 simp only [sortOk, Bool.and_eq_true, decide_eq_true_eq] at hok
 refine ⟨rfl, fun A hz hb' O w args hsz g hargs => ?_⟩
 have h0 : Own hz O w [0] [.int .i64] rows (args.getD 0 undef) := hargs 0 _ rfl
 obtain ⟨hty, a, cap, hsl, hcap, hd⟩ := h0.lst rfl
 rcases hd with hd | ⟨blk, off, arr, t, fr, rfl, hO, hw, hfr, hs, hcell⟩
 ·omega
 obtain rfl : args = #[.slice (some ⟨blk, off, none⟩) rows.length cap] := by
  apply Array.ext
  ·simpa using hsz
  ·intro i h1 h2
   have hi : i = 0 := by simp at h2; exact h2
   subst hi
   have h5 : args.getD 0 undef = args[0] := by simp [Array.getD, h1]
   rw [← h5, hsl]
   rfl
 have hcells : ∀ j, j < rows.length → arr[off + j]? = some (.int .i64 (rowInt (rows.getD j []))) := by
  intro j hj
  have hrow : rows[j]? = some rows[j] := List.getElem?_eq_getElem hj
  have htr := hty _ (List.mem_of_getElem? hrow)
  have hx := hcell j 0 rows[j] (.lit (.int .i64 (rowInt rows[j]))) hrow (by rw [intRow htr]; rfl)
  simp only [List.length_cons, List.length_nil, Nat.zero_add, Nat.mul_one, Nat.add_zero] at hx hs
  have hlt : off + j < arr.size := by omega
  rw [Array.getD_eq_getD_getElem?, Array.getElem?_eq_getElem hlt] at hx
  simp only [Option.getD_some] at hx
  rw [Array.getElem?_eq_getElem hlt, List.getD_eq_getElem?_getD, hrow]
  generalize arr[off + j] = c at hx
  cases hx
  rfl
 have hH : Sort.Holds (Value.int .i64) w blk off (rows.map rowInt).toArray := by
  intro j hj
  have hj' : j < rows.length := by simpa using hj
  have hc2 := hcells j hj'
  have hlt : off + j < arr.size := (Array.getElem?_eq_some_iff.1 hc2).1
  refine ⟨?_, ?_⟩
  ·rw [cell_at hw hlt, Array.getD_eq_getD_getElem?, hc2]
   simp [hj', List.getD_eq_getElem?_getD]
  ·unfold World.frozen?
   simp only [hw]
   have := hfr.no (off + j) hlt
   simp only [Bool.and_eq_false_iff, decide_eq_false_iff_not]
   omega
 have hblk : blk < w.heap.size := (Array.getElem?_eq_some_iff.1 hw).1
 unfold callRun
 rw [run_enter hf hname hb]
 have hrm : rowMax = 1073741824 := rfl
 have hcall := hc blk off cap (rows.map rowInt) w hH hblk (by rw [List.length_map]; omega)
 rw [List.length_map] at hcall
 refine Calls.mono hcall fun e w' ⟨he, n, os, hw'⟩ => ?_
 obtain ⟨hA, hbn, _⟩ := g.owned _ _ hO
 have hheap : w'.heap = (w.heap.modify blk (Sort.onCells (Sort.putCells (Value.int .i64) off (sortI (rows.map rowInt)).toArray))) ++ os := by rw [hw']; rfl
 have hsize : w.heap.size ≤ w'.heap.size := by rw [hheap, Array.size_append, Array.size_modify]; omega
 have hold : ∀ b, b ≠ blk → b < w.heap.size → w'.heap[b]? = w.heap[b]? := by
  intro b hne hlt
  rw [hheap, Array.getElem?_append_left (by rw [Array.size_modify]; exact hlt), Array.getElem?_modify, if_neg (Ne.symm hne)]
 have hnew : w'.heap[blk]? = some (.cells (Sort.putCells (Value.int .i64) off (sortI (rows.map rowInt)).toArray arr) t fr) := by
  rw [hheap, Array.getElem?_append_left (by rw [Array.size_modify]; exact hblk), Array.getElem?_modify, if_pos rfl, hw]
  rfl
 have hpc : (Sort.putCells (Value.int .i64) off (sortI (rows.map rowInt)).toArray arr).size = arr.size := by simp [Sort.putCells]
 refine ⟨.tuple #[], he, hz, hb', O, FzExt.refl _ _ _, ⟨g.sub, fun b o e => ?_, fun b p e => ?_, fun b e => g.fresh b (by omega), g.glob⟩, ⟨by rw [hw']; rfl, by rw [hw']; rfl, by rw [hw']; rfl, hsize⟩, ⟨#[], rfl, rfl, by simp⟩, fun j u e hu => ?_⟩
 ·have h1 := g.agree b o e
  have h2 := (Array.getElem?_eq_some_iff.1 h1).1
  by_cases hne : b = blk
  ·subst hne; rw [hbn] at e; cases e
  ·rw [hold b hne h2]; exact h1
 ·have := g.owned b p e
  exact ⟨this.1, this.2.1, by omega⟩
 ·cases j with
  | succ j => simp at e
  | zero =>
   simp at e
   subst e
   refine .inl ⟨rfl, fun row hrow => ?_, some ⟨blk, off, none⟩, cap, by rw [sortR_len]; rfl, by rw [sortR_len]; exact hcap, .inr ⟨blk, off, _, t, fr, rfl, hO, hnew, ?_, by rw [hpc]; exact hs, fun i j row x h1 h2 => ?_⟩⟩
   ·simp only [sortR, intsR, List.mem_map] at hrow
    obtain ⟨z, _, rfl⟩ := hrow
    exact .cons ⟨z, rfl⟩ .nil
   ·unfold Free at hfr ⊢
    rw [hpc]
    exact hfr
   ·simp only [sortR, intsR, List.getElem?_map, Option.map_eq_some_iff] at h1
    obtain ⟨z, hz1, rfl⟩ := h1
    have hi : i < (sortI (rows.map rowInt)).length := (List.getElem?_eq_some_iff.1 hz1).1
    have hi2 : i < rows.length := by rw [sortI_len, List.length_map] at hi; exact hi
    cases j with
    | succ j => simp at h2
    | zero =>
     simp at h2
     subst h2
     have hlt : off + i < arr.size := (Array.getElem?_eq_some_iff.1 (hcells i hi2)).1
     have hg : (Sort.putCells (Value.int .i64) off (sortI (rows.map rowInt)).toArray arr).getD (off + i * 1 + 0) undef = .int .i64 z := by
      rw [Nat.mul_one, Nat.add_zero, Array.getD_eq_getD_getElem?]
      unfold Sort.putCells
      rw [Array.getElem?_mapIdx, Array.getElem?_eq_getElem hlt]
      simp only [Option.map_some, Option.getD_some, List.size_toArray]
      rw [if_pos ⟨by omega, by omega⟩, show off + i - off = i by omega]
      have := (List.getElem?_eq_some_iff.1 hz1).2
      simp [hi, this]
     show RepF hz (.lit (.int .i64 z)) ((Sort.putCells (Value.int .i64) off (sortI (rows.map rowInt)).toArray arr).getD (off + i * 1 + 0) undef)
     rw [hg]
     exact .lit _
def brSort (F : Nat) (T : Tbl) : (R : Type) → List V → (V → List V → Option R) → Option R := fun R vs k => match vs with
 | [.own ts rows] => bif eqTs ts [.int .i64] && sortOk rows then k (.tup []) [.own [.int .i64] (sortR rows)] else T R F vs k
 | _ => T R F vs k
theorem brSort_ok {T : Tbl} (hT : TblOk P T) {F : FuncId} (h : ∀ rows, sortOk rows = true → FnOk P F [.own [.int .i64] rows] (.tup []) [.own [.int .i64] (sortR rows)]) : TblOk P (addT F (brSort F T) T) := by
 refine addT_ok hT fun R vs k x hx => ?_
 unfold brSort at hx
 split at hx
 ·rename_i ts rows
  cases hr : (eqTs ts [.int .i64] && sortOk rows) with
  | true =>
   rw [hr] at hx
   simp only [Bool.and_eq_true] at hr
   obtain rfl := eqTs_eq hr.1
   exact ⟨_, _, h rows hr.2, hx⟩
  | false => rw [hr] at hx; exact hT R F _ k x hx
 ·exact hT R F vs k x hx
end
end Go.Abs
end
section
set_option linter.unusedVariables false
set_option linter.unusedSimpArgs false
set_option linter.unusedSectionVars false
namespace Go.Abs
open Go Go.RowKit
variable [Globs]
set_option linter.unusedSectionVars false
section
variable {P : Program}
/-! ### slices.Compact of whole numbers, by its contract -/
def compR (rows : Rows) : Rows := intsR (Lib.compact (rows.map rowInt))
theorem compI_len (l : List Int) : (Lib.compact l).length ≤ l.length := by
 unfold Lib.compact Lib.compactUpTo
 rw [List.length_map]
 have := List.length_filter_le (Lib.keeps l.toArray) (List.range l.length)
 simpa using this
/-- - -/
theorem compactInt_ok {f : FuncId} {fn : Func} {body : Code} (hf : P.funcs[f]? = some fn) (hname : (fn.name == "runtime.NumGoroutine") = false) (hb : fn.body = some body)
  (hc : ∀ (blk off cap : Nat) (zs : List Int) (w : World), Sort.Holds (Value.int .i64) w blk off zs.toArray → zs.length ≤ 9223372036854775807 → zs.length ≤ cap →
   Calls P f #[.slice (some ⟨blk, off, none⟩) zs.length cap] w fun e w' => e = .returned (.slice (some ⟨blk, off, none⟩) (Lib.compact zs).length cap) ∧ ∃ q, w' = Sort.putRow (Value.int .i64) (Sort.ahead w q) blk off (Lib.compact zs ++ List.replicate (zs.length - (Lib.compact zs).length) 0).toArray)
  (rows : Rows) (hok : sortOk rows = true) : FnOk P f [.own [.int .i64] rows] (.own [.int .i64] (compR rows)) [.undef] := by
 simp only [sortOk, Bool.and_eq_true, decide_eq_true_eq] at hok
 refine ⟨rfl, fun A hz hb' O w args hsz g hargs => ?_⟩
 have h0 : Own hz O w [0] [.int .i64] rows (args.getD 0 undef) := hargs 0 _ rfl
 obtain ⟨hty, a, cap, hsl, hcap, hd⟩ := h0.lst rfl
 rcases hd with hd | ⟨blk, off, arr, t, fr, rfl, hO, hw, hfr, hs, hcell⟩
 ·omega
 obtain rfl : args = #[.slice (some ⟨blk, off, none⟩) rows.length cap] := by
  apply Array.ext
  ·simpa using hsz
  ·intro i h1 h2
   have hi : i = 0 := by simp at h2; exact h2
   subst hi
   have h5 : args.getD 0 undef = args[0] := by simp [Array.getD, h1]
   rw [← h5, hsl]
   rfl
 have hcells : ∀ j, j < rows.length → arr[off + j]? = some (.int .i64 (rowInt (rows.getD j []))) := by
  intro j hj
  have hrow : rows[j]? = some rows[j] := List.getElem?_eq_getElem hj
  have htr := hty _ (List.mem_of_getElem? hrow)
  have hx := hcell j 0 rows[j] (.lit (.int .i64 (rowInt rows[j]))) hrow (by rw [intRow htr]; rfl)
  simp only [List.length_cons, List.length_nil, Nat.zero_add, Nat.mul_one, Nat.add_zero] at hx hs
  have hlt : off + j < arr.size := by omega
  rw [Array.getD_eq_getD_getElem?, Array.getElem?_eq_getElem hlt] at hx
  simp only [Option.getD_some] at hx
  rw [Array.getElem?_eq_getElem hlt, List.getD_eq_getElem?_getD, hrow]
  generalize arr[off + j] = c at hx
  cases hx
  rfl
 have hH : Sort.Holds (Value.int .i64) w blk off (rows.map rowInt).toArray := by
  intro j hj
  have hj' : j < rows.length := by simpa using hj
  have hc2 := hcells j hj'
  have hlt : off + j < arr.size := (Array.getElem?_eq_some_iff.1 hc2).1
  refine ⟨?_, ?_⟩
  ·rw [cell_at hw hlt, Array.getD_eq_getD_getElem?, hc2]
   simp [hj', List.getD_eq_getElem?_getD]
  ·unfold World.frozen?
   simp only [hw]
   have := hfr.no (off + j) hlt
   simp only [Bool.and_eq_false_iff, decide_eq_false_iff_not]
   omega
 have hblk : blk < w.heap.size := (Array.getElem?_eq_some_iff.1 hw).1
 unfold callRun
 rw [run_enter hf hname hb]
 have hrm : rowMax = 1073741824 := rfl
 have hcall := hc blk off cap (rows.map rowInt) w hH (by rw [List.length_map]; omega) (by rw [List.length_map]; exact hcap)
 rw [List.length_map] at hcall
 have hcl : (Lib.compact (rows.map rowInt)).length ≤ rows.length := by have := compI_len (rows.map rowInt); rwa [List.length_map] at this
 generalize hD : (Lib.compact (rows.map rowInt) ++ List.replicate (rows.length - (Lib.compact (rows.map rowInt)).length) (0 : Int)).toArray = D at hcall
 refine Calls.mono hcall fun e w' ⟨he, n, hw'⟩ => ?_
 obtain ⟨hA, hbn, _⟩ := g.owned _ _ hO
 have hheap : w'.heap = w.heap.modify blk (Sort.onCells (Sort.putCells (Value.int .i64) off D)) := by rw [hw']; rfl
 have hsize : w'.heap.size = w.heap.size := by rw [hheap, Array.size_modify]
 have hold : ∀ b, b ≠ blk → w'.heap[b]? = w.heap[b]? := by
  intro b hne
  rw [hheap, Array.getElem?_modify, if_neg (Ne.symm hne)]
 have hnew : w'.heap[blk]? = some (.cells (Sort.putCells (Value.int .i64) off D arr) t fr) := by
  rw [hheap, Array.getElem?_modify, if_pos rfl, hw]
  rfl
 have hpc : (Sort.putCells (Value.int .i64) off D arr).size = arr.size := by simp [Sort.putCells]
 refine ⟨.slice (some ⟨blk, off, none⟩) (Lib.compact (rows.map rowInt)).length cap, he, hz, hb', ren [0] [1] O, FzExt.refl _ _ _, ⟨g.sub, fun b o e => ?_, fun b p e => ?_, fun b e => g.fresh b (by omega), g.glob⟩, ⟨by rw [hw']; rfl, by rw [hw']; rfl, by rw [hw']; rfl, by omega⟩, ?_, fun j u e hu => ?_⟩
 ·have h1 := g.agree b o e
  by_cases hne : b = blk
  ·subst hne; rw [hbn] at e; cases e
  ·rw [hold b hne]; exact h1
 ·have := ren_owned (A := A) (hb := hb') (w := w) [0] [1] g.owned b p e
  exact ⟨this.1, this.2.1, by omega⟩
 ·have hO' : ren [0] [1] O blk = some [1] := by
   have := ren_eq (p := [0]) (q := [1]) (s := []) (O := O) (b := blk) (by simpa using hO)
   simpa using this
  refine .inl ⟨rfl, fun row hrow => ?_, some ⟨blk, off, none⟩, cap, by simp [compR, intsR], by simp only [compR, intsR, List.length_map]; omega, .inr ⟨blk, off, _, t, fr, rfl, hO', hnew, ?_, by rw [hpc]; exact hs, fun i j row x h1 h2 => ?_⟩⟩
  ·simp only [compR, intsR, List.mem_map] at hrow
   obtain ⟨z, _, rfl⟩ := hrow
   exact .cons ⟨z, rfl⟩ .nil
  ·unfold Free at hfr ⊢
   rw [hpc]
   exact hfr
  ·simp only [compR, intsR, List.getElem?_map, Option.map_eq_some_iff] at h1
   obtain ⟨z, hz1, rfl⟩ := h1
   have hi : i < (Lib.compact (rows.map rowInt)).length := (List.getElem?_eq_some_iff.1 hz1).1
   cases j with
   | succ j => simp at h2
   | zero =>
    simp at h2
    subst h2
    have hlt : off + i < arr.size := (Array.getElem?_eq_some_iff.1 (hcells i (by omega))).1
    have hDs : D.size = rows.length := by rw [← hD]; simp; omega
    have hDi : D[i]! = z := by
     rw [← hD]
     have h3 : (Lib.compact (rows.map rowInt) ++ List.replicate (rows.length - (Lib.compact (rows.map rowInt)).length) (0 : Int))[i]? = some z := by
      rw [List.getElem?_append_left hi]; exact hz1
     rw [getElem!_def, List.getElem?_toArray, h3]
    have hg : (Sort.putCells (Value.int .i64) off D arr).getD (off + i * 1 + 0) undef = .int .i64 z := by
     rw [Nat.mul_one, Nat.add_zero, Array.getD_eq_getD_getElem?]
     unfold Sort.putCells
     rw [Array.getElem?_mapIdx, Array.getElem?_eq_getElem hlt]
     simp only [Option.map_some, Option.getD_some]
     rw [if_pos ⟨by omega, by omega⟩, show off + i - off = i by omega, hDi]
    show RepF hz (.lit (.int .i64 z)) ((Sort.putCells (Value.int .i64) off D arr).getD (off + i * 1 + 0) undef)
    rw [hg]
    exact .lit _
 ·cases j with
  | succ j => simp at e
  | zero => simp at e; subst e; cases hu
def brComp (F : Nat) (T : Tbl) : (R : Type) → List V → (V → List V → Option R) → Option R := fun R vs k => match vs with
 | [.own ts rows] => bif eqTs ts [.int .i64] && sortOk rows then k (.own [.int .i64] (compR rows)) [.undef] else T R F vs k
 | _ => T R F vs k
theorem brComp_ok {T : Tbl} (hT : TblOk P T) {F : FuncId} (h : ∀ rows, sortOk rows = true → FnOk P F [.own [.int .i64] rows] (.own [.int .i64] (compR rows)) [.undef]) : TblOk P (addT F (brComp F T) T) := by
 refine addT_ok hT fun R vs k x hx => ?_
 unfold brComp at hx
 split at hx
 ·rename_i ts rows
  cases hr : (eqTs ts [.int .i64] && sortOk rows) with
  | true =>
   rw [hr] at hx
   simp only [Bool.and_eq_true] at hr
   obtain rfl := eqTs_eq hr.1
   exact ⟨_, _, h rows hr.2, hx⟩
  | false => rw [hr] at hx; exact hT R F _ k x hx
 ·exact hT R F vs k x hx
end
end Go.Abs
end
section
set_option linter.unusedVariables false
set_option linter.unusedSimpArgs false
set_option linter.unusedSectionVars false
namespace Go.Abs
open Go Go.RowKit
variable [Globs]
set_option linter.unusedSectionVars false
section
variable {P : Program}
/-! ### functions on plain values that are known by a contract, the tables known -/
theorem fnOk_vals {f : FuncId} {fn : Func} {body : Code} (hf : P.funcs[f]? = some fn) (hname : (fn.name == "runtime.NumGoroutine") = false) (hb : fn.body = some body) {xs : List Value} {r : V} {c : Value} (hv : okR r = true)
  (hr : ∀ (hz hb : GH) (O : OM) (w : World) (p : List Nat), RepR hz hb O w p r c)
  (hc : ∀ (A : Nat → Prop) (hz hb : GH) (O : OM) (w : World), GOk A hz hb O w → Calls P f xs.toArray w fun e w' => e = .returned c ∧ Below w.heap.size w w') : FnOk P f (xs.map fun x => .f (.lit x)) r (xs.map fun _ => .undef) := by
 refine ⟨hv, fun A hz hb' O w args hsz g hargs => ?_⟩
 obtain rfl : args = xs.toArray := by
  apply Array.ext
  ·simpa using hsz
  ·intro i h1 h2
   have h3 := hargs i (.f (.lit xs[i])) (by simp at h2; simp [h2])
   have h4 : RepF hz (.lit xs[i]) (args.getD i undef) := h3
   have h5 : args.getD i undef = args[i] := by simp [Array.getD, h1]
   rw [h5] at h4
   generalize args[i] = y at h4 ⊢
   cases h4
   simp
 unfold callRun
 rw [run_enter hf hname hb]
 refine Calls.mono (hc A hz hb' O w g) fun e w' ⟨he, hb⟩ => ?_
 obtain ⟨ho, ht, hu, hs, hk⟩ := hb
 refine ⟨c, he, hz, hb', O, FzExt.refl _ _ _, ⟨g.sub, fun b o e => ?_, fun b p e => ?_, fun b e => g.fresh b (by omega), g.glob⟩, ⟨ho, ht, hu, hs⟩, hr _ _ _ _ _, fun j u e hu => ?_⟩
 ·have h1 := g.agree b o e
  have h2 := (Array.getElem?_eq_some_iff.1 h1).1
  rw [hk b h2]; exact h1
 ·have := g.owned b p e
  exact ⟨this.1, this.2.1, by omega⟩
 ·simp only [List.getElem?_map, Option.map_eq_some_iff] at e
  obtain ⟨_, _, rfl⟩ := e
  cases hu
theorem repR_lit (hz hb : GH) (O : OM) (w : World) (p : List Nat) (v : Value) : RepR hz hb O w p (.f (.lit v)) v := .lit v
theorem repR_tup (hz hb : GH) (O : OM) (w : World) (p : List Nat) (vs : List Value) : RepR hz hb O w p (.tup (vs.map fun v => .f (.lit v))) (.tuple vs.toArray) := by
 refine ⟨vs.toArray, rfl, by simp, fun j v e => ?_⟩
 simp only [List.getElem?_map, Option.map_eq_some_iff] at e
 obtain ⟨y, h1, rfl⟩ := e
 have : vs.toArray.getD j undef = y := by rw [Array.getD_eq_getD_getElem?, List.getElem?_toArray, h1]; rfl
 rw [this]
 exact .lit y
theorem okR_lits (vs : List Value) : okR (.tup (vs.map fun v => .f (.lit v))) = true := by
 simp [okR, okRes, okRes1, List.all_map]
/-- - -/
theorem GOk.known {A : Nat → Prop} {hz hb : GH} {O : OM} {w : World} (g : GOk A hz hb O w) {b : Nat} {p : Array Value → Prop} (h : Globs.known b = some p) : ∃ cs t fr, w.heap[b]? = some (.cells cs t fr) ∧ p cs := by
 obtain ⟨cs, t, fr, h1, h2⟩ := g.glob.2 b p h
 exact ⟨cs, t, fr, g.agree _ _ (g.sub _ _ h1), h2⟩
theorem GOk.cell {A : Nat → Prop} {hz hb : GH} {O : OM} {w : World} (g : GOk A hz hb O w) {b : Nat} {k : IntKind} (h : Globs.known b = some (fun cs => ∃ m, cs[0]? = some (.int k m))) : ∃ m, w.cell? ⟨b, 0, none⟩ = some (.int k m) := by
 obtain ⟨cs, t, fr, h1, m, h2⟩ := g.known h
 have hlt := (Array.getElem?_eq_some_iff.1 h2).1
 refine ⟨m, ?_⟩
 rw [cell_at h1 hlt, Array.getD_eq_getD_getElem?, h2]
 rfl
theorem GOk.var {A : Nat → Prop} {hz hb : GH} {O : OM} {w : World} (g : GOk A hz hb O w) {b : Nat} {cs : Array Value} (h : Globs.known b = some (· = cs)) {name : String} (hn : P.globalNamed name = some b) : w.var? P name = some cs := by
 obtain ⟨cs', t, fr, h1, rfl⟩ := g.known h
 unfold World.var?
 rw [hn]
 simp [h1]
/-! strconv.Itoa, strconv.Atoi, strings.Cut, strings.Split -/
def itoaB (n : Int) : ByteArray := ⟨(Lib.itoa n).toArray⟩
def itoaOk (n : Int) : Bool := decide (-9223372036854775808 ≤ n) && decide (n ≤ 9223372036854775807)
def atoiB (s : ByteArray) : Int := (Lib.atoi s.data.toList).getD 0
def atoiOk (s : ByteArray) : Bool := decide (s.size ≤ 18) && (Lib.atoi s.data.toList).isSome
def cutA (s c : ByteArray) : ByteArray := ⟨(Lib.cut s.data.toList c.data.toList).1.toArray⟩
def cutZ (s c : ByteArray) : ByteArray := ⟨(Lib.cut s.data.toList c.data.toList).2.1.toArray⟩
def cutOn (s c : ByteArray) : Bool := (Lib.cut s.data.toList c.data.toList).2.2
def strOk (s : ByteArray) : Bool := decide (s.size ≤ 1000000)
def splitR (s c : ByteArray) : Rows := (Lib.splitB c 0 (Lib.countB s c) s).map fun b => [F.lit (.string b)]
def splitOk (s c : ByteArray) : Bool := strOk s && decide (1 ≤ c.size)
def brItoa (F : Nat) (T : Tbl) : (R : Type) → List V → (V → List V → Option R) → Option R := fun R vs k => match vs with
 | [.f (.lit (.int .i64 n))] => bif itoaOk n then k (.f (.lit (.string (itoaB n)))) [.undef] else T R F vs k
 | _ => T R F vs k
theorem brItoa_ok {T : Tbl} (hT : TblOk P T) {F : FuncId} (h : ∀ n, itoaOk n = true → FnOk P F [.f (.lit (.int .i64 n))] (.f (.lit (.string (itoaB n)))) [.undef]) : TblOk P (addT F (brItoa F T) T) := by
 refine addT_ok hT fun R vs k x hx => ?_
 unfold brItoa at hx
 split at hx
 ·rename_i n
  cases hr : itoaOk n with
  | true => rw [hr] at hx; exact ⟨_, _, h n hr, hx⟩
  | false => rw [hr] at hx; exact hT R F _ k x hx
 ·exact hT R F vs k x hx
def brAtoi (F : Nat) (T : Tbl) : (R : Type) → List V → (V → List V → Option R) → Option R := fun R vs k => match vs with
 | [.f (.lit (.string s))] => bif atoiOk s then k (.tup [.f (.lit (.int .i64 (atoiB s))), .f (.lit .nilIface)]) [.undef] else T R F vs k
 | _ => T R F vs k
theorem brAtoi_ok {T : Tbl} (hT : TblOk P T) {F : FuncId} (h : ∀ s, atoiOk s = true → FnOk P F [.f (.lit (.string s))] (.tup [.f (.lit (.int .i64 (atoiB s))), .f (.lit .nilIface)]) [.undef]) : TblOk P (addT F (brAtoi F T) T) := by
 refine addT_ok hT fun R vs k x hx => ?_
 unfold brAtoi at hx
 split at hx
 ·rename_i s
  cases hr : atoiOk s with
  | true => rw [hr] at hx; exact ⟨_, _, h s hr, hx⟩
  | false => rw [hr] at hx; exact hT R F _ k x hx
 ·exact hT R F vs k x hx
def brCut (F : Nat) (T : Tbl) : (R : Type) → List V → (V → List V → Option R) → Option R := fun R vs k => match vs with
 | [.f (.lit (.string s)), .f (.lit (.string c))] => bif strOk s then k (.tup [.f (.lit (.string (cutA s c))), .f (.lit (.string (cutZ s c))), .f (.lit (.bool (cutOn s c)))]) [.undef, .undef] else T R F vs k
 | _ => T R F vs k
theorem brCut_ok {T : Tbl} (hT : TblOk P T) {F : FuncId} (h : ∀ s c, strOk s = true → FnOk P F [.f (.lit (.string s)), .f (.lit (.string c))] (.tup [.f (.lit (.string (cutA s c))), .f (.lit (.string (cutZ s c))), .f (.lit (.bool (cutOn s c)))]) [.undef, .undef]) : TblOk P (addT F (brCut F T) T) := by
 refine addT_ok hT fun R vs k x hx => ?_
 unfold brCut at hx
 split at hx
 ·rename_i s c
  cases hr : strOk s with
  | true => rw [hr] at hx; exact ⟨_, _, h s c hr, hx⟩
  | false => rw [hr] at hx; exact hT R F _ k x hx
 ·exact hT R F vs k x hx
def brSplit (F : Nat) (T : Tbl) : (R : Type) → List V → (V → List V → Option R) → Option R := fun R vs k => match vs with
 | [.f (.lit (.string s)), .f (.lit (.string c))] => bif splitOk s c then k (.own [.str] (splitR s c)) [.undef, .undef] else T R F vs k
 | _ => T R F vs k
theorem brSplit_ok {T : Tbl} (hT : TblOk P T) {F : FuncId} (h : ∀ s c, splitOk s c = true → FnOk P F [.f (.lit (.string s)), .f (.lit (.string c))] (.own [.str] (splitR s c)) [.undef, .undef]) : TblOk P (addT F (brSplit F T) T) := by
 refine addT_ok hT fun R vs k x hx => ?_
 unfold brSplit at hx
 split at hx
 ·rename_i s c
  cases hr : splitOk s c with
  | true => rw [hr] at hx; exact ⟨_, _, h s c hr, hx⟩
  | false => rw [hr] at hx; exact hT R F _ k x hx
 ·exact hT R F vs k x hx
theorem split_ok {f : FuncId} {fn : Func} {body : Code} (hf : P.funcs[f]? = some fn) (hname : (fn.name == "runtime.NumGoroutine") = false) (hb : fn.body = some body) {s c : ByteArray} (h1 : 1 ≤ c.size) {t : TypeId}
  (hc : ∀ (A : Nat → Prop) (hz hb : GH) (O : OM) (w : World), GOk A hz hb O w → Calls P f #[.string s, .string c] w fun e w' =>
   e = .returned (.slice (some ⟨w.heap.size, 0, none⟩) (Lib.countB s c + 1) (Lib.countB s c + 1)) ∧ w' = w.alloc (.cells ((Lib.splitB c 0 (Lib.countB s c) s).map Value.string).toArray t)) :
  FnOk P f [.f (.lit (.string s)), .f (.lit (.string c))] (.own [.str] (splitR s c)) [.undef, .undef] := by
 refine ⟨rfl, fun A hz hb' O w args hsz g hargs => ?_⟩
 have ha : ∀ (i : Nat) (x : ByteArray), ([V.f (.lit (.string s)), V.f (.lit (.string c))] : List V)[i]? = some (.f (.lit (.string x))) → args[i]? = some (.string x) := by
  intro i x e
  have h4 : RepF hz (.lit (.string x)) (args.getD i undef) := hargs i _ e
  have hi : i < args.size := by rw [hsz]; exact (List.getElem?_eq_some_iff.1 e).1
  have h5 : args.getD i undef = args[i] := by simp [Array.getD, hi]
  rw [h5] at h4
  rw [Array.getElem?_eq_getElem hi]
  generalize args[i] = y at h4 ⊢
  cases h4
  rfl
 obtain rfl : args = #[.string s, .string c] := by
  apply Array.ext
  ·simpa using hsz
  ·intro i h1 h2
   have h3 : i = 0 ∨ i = 1 := by simp at h2; omega
   rcases h3 with rfl | rfl
   ·have := ha 0 s rfl; rw [Array.getElem?_eq_getElem h1] at this; exact Option.some.inj this
   ·have := ha 1 c rfl; rw [Array.getElem?_eq_getElem h1] at this; exact Option.some.inj this
 unfold callRun
 rw [run_enter hf hname hb]
 refine Calls.mono (hc A hz hb' O w g) fun e w' ⟨he, hw'⟩ => ?_
 subst hw'
 have hlen : (splitR s c).length = Lib.countB s c + 1 := by rw [splitR, List.length_map]; exact Lib.splitB_all c h1 0 _ s rfl
 have old : ∀ b, b < w.heap.size → (w.alloc (.cells ((Lib.splitB c 0 (Lib.countB s c) s).map Value.string).toArray t)).heap[b]? = w.heap[b]? := fun b hb => by
  show (w.heap.push _)[b]? = _
  rw [Array.getElem?_push_lt hb, Array.getElem?_eq_getElem hb]
 refine ⟨_, he, hz, hb', newO O w.heap.size [2], FzExt.refl _ _ _, ⟨g.sub, fun b o e => ?_, fun b p e => ?_, fun b e => g.fresh b ?_, g.glob⟩, ?_, ?_, fun j u e hu => ?_⟩
 ·have h1 := g.agree b o e
  have h2 := (Array.getElem?_eq_some_iff.1 h1).1
  rw [old b h2]; exact h1
 ·unfold newO at e
  split at e
  ·rename_i hbn
   subst hbn
   refine ⟨g.fresh _ (Nat.le_refl _), ?_, by show _ < (w.heap.push _).size; simp⟩
   cases hh : hb' w.heap.size with
   | none => rfl
   | some o =>
    have h2 := (Array.getElem?_eq_some_iff.1 (g.agree _ _ hh)).1
    omega
  ·have := g.owned b p e
   refine ⟨this.1, this.2.1, ?_⟩
   show b < (w.heap.push _).size
   rw [Array.size_push]
   omega
 ·have h2 : (w.heap.push (.cells ((Lib.splitB c 0 (Lib.countB s c) s).map Value.string).toArray t)).size ≤ b := e
  rw [Array.size_push] at h2
  omega
 ·exact Side.alloc _ _
 ·refine .inl ⟨rfl, fun row hrow => ?_, some ⟨w.heap.size, 0, none⟩, Lib.countB s c + 1, by rw [hlen], by omega, .inr ⟨w.heap.size, 0, _, t, (0, 0), rfl, newO_get _ _ _, alloc_get _ _, Free.zero _, ?_, fun i j row x h1 h2 => ?_⟩⟩
  ·simp only [splitR, List.mem_map] at hrow
   obtain ⟨z, _, rfl⟩ := hrow
   exact .cons ⟨z, rfl⟩ .nil
  ·have := Lib.splitB_all c (by assumption) 0 _ s rfl
   simp [this]
  ·simp only [splitR, List.getElem?_map, Option.map_eq_some_iff] at h1
   obtain ⟨z, hz1, rfl⟩ := h1
   cases j with
   | succ j => simp at h2
   | zero =>
    simp at h2
    subst h2
    have hg : ((Lib.splitB c 0 (Lib.countB s c) s).map Value.string).toArray.getD (0 + i * 1 + 0) undef = .string z := by
     rw [Array.getD_eq_getD_getElem?, List.getElem?_toArray, List.getElem?_map, show 0 + i * 1 + 0 = i by omega, hz1]
     rfl
    show RepF hz (.lit (.string z)) (((Lib.splitB c 0 (Lib.countB s c) s).map Value.string).toArray.getD (0 + i * 1 + 0) undef)
    rw [hg]
    exact .lit _
 ·match j, e with
  | 0, e => simp at e; subst e; cases hu
  | 1, e => simp at e; subst e; cases hu
end
end Go.Abs
end
