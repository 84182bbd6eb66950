/- A part of the proofs of the seat YtjhfbmhblpjigaaGreatDoor: no statement of the seat stands here. -/
import Derived.DataElems
import Derived.Laws.Slices
import Derived.MapKept
import Derived.Laws.MakeOwn
import Derived.Laws.Tables
import Derived.Laws.IdiomStrings
import Derived.Laws.AppendOwn
import Derived.Test.YtjhfbmhblpjigaaGreatDoorAbsA
section
set_option linter.unusedVariables false
set_option linter.unusedSimpArgs false
set_option linter.unusedSectionVars false
namespace Go.Abs
open Go
variable [Globs]
section
variable {A : Nat → Prop} {hz hb : GH} {O : OM} {env : Env} {tm : Nat → Value} {w : World} {P : Program}

/-! ### lists whose rows have lists of their own -/
theorem dropF_get : ∀ (j : Nat) (row : List F) (x : F), row[j]? = some x → (dropF j row).headD default = x
 | 0, [], x, h => by simp at h
 | 0, y :: ys, x, h => by simp at h; simp [dropF, h]
 | j + 1, [], x, h => by simp at h
 | j + 1, y :: ys, x, h => dropF_get j ys x (by simpa using h)
theorem fR_get {rows : Rows} {i j : Nat} {row : List F} {x : F} (h1 : rows[i]? = some row) (h2 : row[j]? = some x) : fR rows i j = x.toRows := by
 unfold fR
 have : rowAt rows i = row := by simp [rowAt, List.getD_eq_getElem?_getD, h1]
 rw [this, dropF_get j row x h2]
/-- - -/
theorem ren_leaf {p : List Nat} {m m' : Nat} {q : List Nat} {b : Nat} (h : O b = some (p ++ [m'])) (hm : m' ≠ m) : ren (p ++ [m]) q O b = some (p ++ [m']) :=
 ren_ne h fun s e => by
  rw [List.append_assoc] at e
  have := List.append_cancel_left e
  simp at this
  exact hm this.1
theorem ren_self {p : List Nat} {m : Nat} {q : List Nat} {b : Nat} (h : O b = some p) : ren (p ++ [m]) q O b = some p :=
 ren_ne h fun s e => by
  have := congrArg List.length e
  simp at this
theorem leaf_num {n i j i' j' : Nat} (hj : j < n) (hj' : j' < n) (h : i * n + j = i' * n + j') : i = i' ∧ j = j' := by
 have h1 : i = i' := by
  rcases Nat.lt_trichotomy i i' with h2 | h2 | h2
  ·have := Nat.mul_le_mul_right n (show i + 1 ≤ i' from h2)
   rw [Nat.add_mul] at this
   omega
  ·exact h2
  ·have := Nat.mul_le_mul_right n (show i' + 1 ≤ i from h2)
   rw [Nat.add_mul] at this
   omega
 subst h1
 exact ⟨rfl, by omega⟩
/-- - -/
theorem nx_take (I : Inv A hz hb O env tm w) {l : Loc} {mk : List Nat} {ks ts : List LT} {rows : Rows} {i j : Nat} (hg : getLoc env l = .own (.nx none mk :: ks) rows) (hi : i < rows.length) (hj : hasN mk j = true) (hk : ks[j]? = some (.lst ts)) :
  ∃ blk off cap arr t fr, LocIs env tm w l (.own (.nx none mk :: ks) rows) (.slice (some ⟨blk, off, none⟩) rows.length cap) ∧ w.heap[blk]? = some (.cells arr t fr) ∧ off + i * ks.length + j < arr.size ∧
   Inv A hz hb (ren (locPath l ++ [i * ks.length + j]) [env.length] O) (chLoc env l (.own (.nx (some (i, j)) mk :: ks) rows)) tm w ∧
   Own hz (ren (locPath l ++ [i * ks.length + j]) [env.length] O) w [env.length] ts (fR rows i j) (arr.getD (off + i * ks.length + j) undef) := by
 obtain ⟨c, hl, hown⟩ := I.own_at hg
 obtain ⟨h0, mk', ks', sk, e, hk2, hty, ⟨hts, a, cap, rfl, hcap, hd⟩, hlen, hnest⟩ := hown.nx rfl
 cases e
 have hjn : j < ks.length := (List.getElem?_eq_some_iff.1 hk).1
 have hrow := rowAt_get hi
 have htr := hty _ (List.mem_of_getElem? hrow)
 have hxj : (rowAt rows i)[j]? = some ((rowAt rows i)[j]'(by rw [htr.len]; exact hjn)) := List.getElem?_eq_getElem _
 obtain ⟨t0, ht0, htf⟩ := htr.get hxj
 rw [hk] at ht0
 cases ht0
 obtain ⟨rs, hx⟩ := htf
 rw [hx] at hxj
 have hsi : sk[i]? = some (sk[i]'(by omega)) := List.getElem?_eq_getElem (by omega)
 obtain ⟨y, h5, h6⟩ := hnest i j _ _ _ hrow hsi hxj
 unfold LeafX at h6
 rw [if_pos hj] at h6
 obtain ⟨v, rfl, h6⟩ := h6
 rcases h6 with h6 | ⟨ts', rs', h7, hm, h8⟩
 ·cases h6
 cases h7
 rcases hd with hd | ⟨blk, off, arr, t, fr, rfl, hO, hw, hf, hs, hc⟩
 ·omega
 rw [anyK_len] at hs hc
 have hv := hc i j _ _ hsi h5
 have hvv : arr.getD (off + i * ks.length + j) undef = v := by
  generalize arr.getD (off + i * ks.length + j) undef = cc at hv
  cases hv
  rfl
 have hle : (i + 1) * ks.length ≤ cap * ks.length := Nat.mul_le_mul_right _ (by omega)
 rw [Nat.add_mul] at hle
 refine ⟨blk, off, cap, arr, t, fr, by rw [← hlen]; exact hl, hw, by omega, ?_, ?_⟩
 ·have hx1 : Own hz (ren (locPath l ++ [i * ks.length + j]) [env.length] O) w (locPath l) (.nx (some (i, j)) mk :: ks) rows (.slice (some ⟨blk, off, none⟩) sk.length cap) := by
   refine .inr (.inr ⟨rfl, some (i, j), mk, ks, sk, rfl, hk2, hty, ⟨hts, _, cap, rfl, hcap, .inr ⟨blk, off, arr, t, fr, rfl, ren_self hO, hw, hf, by rw [anyK_len]; exact hs, by rw [anyK_len]; exact hc⟩⟩, hlen, fun i' j' row srow x e1 e2 e3 => ?_⟩)
   obtain ⟨y, h9, h10⟩ := hnest i' j' row srow x e1 e2 e3
   refine ⟨y, h9, ?_⟩
   unfold LeafX at h10 ⊢
   split
   ·rename_i hm'
    rw [if_pos hm'] at h10
    obtain ⟨v', rfl, h10⟩ := h10
    refine ⟨v', rfl, ?_⟩
    rcases h10 with h10 | ⟨ts2, rs2, rfl, hm2, h11⟩
    ·cases h10
    ·by_cases hij : i' * ks.length + j' = i * ks.length + j
     ·left
      have hj' : j' < ks.length := by
       have := (List.getElem?_eq_some_iff.1 e3).1
       rw [(hty row (List.mem_of_getElem? e1)).len] at this
       exact this
      obtain ⟨rfl, rfl⟩ := leaf_num hj' hjn hij
      rfl
     ·exact .inr ⟨ts2, rs2, rfl, hm2, h11.re fun b e => ren_leaf e hij⟩
   ·rename_i hm'
    rw [if_neg hm'] at h10
    exact h10
  refine ⟨I.sub, I.agree, ren_owned _ _ I.owned, I.fresh, I.glob, ?_⟩
  refine rep_chLoc I.rep (fun t ht => Keeps.ren _ _ fun r s e => ht (locPath_slotA (by rw [List.append_assoc] at e; exact e)).symm) (fun j' i' hj' hi' => Keeps.ren _ _ fun r s e => hi' (locPath_leafA hj' (by rw [List.append_assoc] at e; exact e)))
   (fun j' b hj' e => ren_ne e (by intro s e2; unfold locPath at e2; rw [hj'] at e2; simp at e2)) (fun t m _ => ?_) (by simp) hl hx1 (fun hlf => ?_)
  ·by_cases hm2 : l = m
   ·subst hm2; exact Pass.selfK hg rfl (.inr ⟨rfl, rfl, rfl⟩) (fun _ => rfl)
   ·refine Pass.chLoc hm2 (fun row h1 h2 h3 h4 => ?_) ⟨_, _, hg⟩
    exact hm2 (by cases l; cases m; simp_all)
  ·left
   have : locPath l = [l.slot] := by unfold locPath; rw [hlf]
   rw [← this]; exact hx1
 ·rw [fR_get hrow hxj, hvv]
  refine .inl ⟨hm, h8.re fun b e => ?_⟩
  have := ren_eq (q := [env.length]) (s := []) (O := O) (by simpa using e)
  simpa using this
theorem loadX_inv {t : TypeId} {a v : V} {cs : List Bool} {us : List Upd} (h : loadX P t a env = some (cs, us, v)) :
  loadV P t a env = some (cs, us, v) ∨ ∃ l i j mk ks ts rows, a = .eref l i j ∧ getLoc env l = .own (.nx none mk :: ks) rows ∧ hasN mk j = true ∧ ks[j]? = some (.lst ts) ∧ sz P t = some 1 ∧ isSliceD (und P t) = true ∧ cs = [] ∧
   applyU us env = chLoc env l (.own (.nx (some (i, j)) mk :: ks) rows) ∧ v = .own ts (fR rows i j) := by
 unfold loadX at h
 split at h
 ·rename_i l i j
  obtain ⟨c1, u1, y, c2, u2, h1, h2, rfl, rfl⟩ := bind_inv h
  obtain ⟨rfl, rfl, hy, _⟩ := locM_inv h1
  simp only [applyU, List.nil_append] at h2 ⊢
  split at h2
  ·rename_i ts rows hu
   unfold loadNx at h2
   split at h2
   ·rename_i h0 mk ks
    cases hc : (hasN mk j && (sz P t == some 1 && isSliceD (und P t))) with
    | false => rw [hc] at h2; exact .inl h2
    | true =>
     rw [hc] at h2
     simp only [Bool.and_eq_true, beq_iff_eq] at hc
     right
     simp only [cond_true] at h2
     unfold takeNx at h2
     cases h0 with
     | some z => exact (bad_inv (α := V) (env := env) h2).elim
     | none =>
      cases hk : ks[j]? with
      | none => rw [hk] at h2; exact (bad_inv (α := V) (env := env) h2).elim
      | some k0 =>
       rw [hk] at h2
       cases k0 with
       | lst ts =>
        obtain ⟨c3, u3, y3, c4, u4, h3, h4, rfl, rfl⟩ := bind_inv h2
        obtain ⟨rfl, h5⟩ := setLoc_inv h3
        obtain ⟨rfl, rfl, rfl⟩ := pure_inv h4
        refine ⟨l, i, j, mk, ks, ts, rows, rfl, hy, hc.1, hk, hc.2.1, hc.2.2, rfl, ?_, rfl⟩
        rw [List.append_nil]
        exact h5
       | _ => exact (bad_inv (α := V) (env := env) h2).elim
   ·exact .inl h2
  ·exact .inl h2
 ·exact .inl h
end
end Go.Abs
end
section
set_option linter.unusedVariables false
set_option linter.unusedSimpArgs false
set_option linter.unusedSectionVars false
namespace Go.Abs
open Go
variable [Globs]
section
variable {A : Nat → Prop} {hz hb : GH} {O : OM} {env : Env} {tm : Nat → Value} {w : World} {P : Program} {H : Hints} {me : FuncId} {o : Oper} {cs : List Bool} {us : List Upd} {u : Unit}

theorem fin_light (I : Inv A hz hb O env tm w) {dst : Option Tmp} {v : V} {c : Value} (h : putD dst v env = some (cs, us, u)) (hd : ∀ d, dst = some d → d < env.length)
  (hv : ∀ p, RepS hz hb O env tm w p v c) {r : Result Next} (hr : r = .ok (.value c) w) : Done A hz hb (applyU us env) tm w dst r :=
 (done_put I (FzExt.refl _ _ _) (Side.refl _) hr h hd (Nat.le_refl _) (hv _)).2
theorem lit_any {x : Value} (p : List Nat) : RepS hz hb O env tm w p (.f (.lit x)) x := .inl (.lit x)
theorem rd_any (I : Inv A hz hb O env tm w) {x : Operand} {cs : List Bool} {us : List Upd} {v : V} (h : rd x env = some (cs, us, v)) (hv : freeV v = true) (q : List Nat) : RepS hz hb O env tm w q v (evO tm x) := by
 obtain ⟨_, _, p, _, h, _⟩ := rd_ok I h
 exact h hv q

theorem op_pick (I : Inv A hz hb O env tm w) (hd : ∀ d, o.dst = some d → d < env.length) {c a b : Operand} (ho : o.op = .pick c a b) (h : opM P H me o env = some (cs, us, u)) :
  Done A hz hb (applyU us env) tm w o.dst ((execOp (evO tm) o).run P w) := by
 unfold opM at h
 rw [ho] at h
 obtain ⟨t, h1, h⟩ := raw_bind h
 obtain ⟨bv, h2, h⟩ := opt_bind h
 obtain ⟨v, h3, h⟩ := rd_bind h
 have hc := rawB (I := I) h1 h2
 split at h
 ·rename_i hf
  refine fin_light I h hd (c := evO tm (bif bv then a else b)) (fun p => rd_any I h3 hf p) ?_
  simp only [execOp, ho, Sem.run_bind, hc, asBool, Sem.run_pure, Result.andThen_ok]
  cases bv <;> rfl
 ·exact (bad_inv h).elim
theorem isRef_free {v : V} (h : (isRefV v || isCref v) = true) (hno : ∀ row, v ≠ .obj row) : freeV v = true := by
 cases v <;> first | rfl | (simp [isRefV, isCref] at h; done) | exact (hno _ rfl).elim
theorem op_nilCheck (I : Inv A hz hb O env tm w) (hd : ∀ d, o.dst = some d → d < env.length) {x : Operand} (ho : o.op = .nilCheck x) (h : opM P H me o env = some (cs, us, u)) :
  Done A hz hb (applyU us env) tm w o.dst ((execOp (evO tm) o).run P w) := by
 unfold opM at h
 rw [ho] at h
 obtain ⟨v, h1, h⟩ := rd_bind h
 split at h
 ·rename_i hr
  obtain ⟨_, _, p, h2, h3, h4, _⟩ := rd_ok I h1
  have hf := isRef_free hr h4
  refine fin_light I h hd (c := evO tm x) (h3 hf) ?_
  have : (∃ a, evO tm x = .pointer (some a)) ∨ ∃ f cs, evO tm x = .func (.func f) #[] cs := by
   simp only [Bool.or_eq_true] at hr
   rcases hr with hr | hr
   ·exact .inl (ref_ptr h2 hr h4)
   ·exact .inr (fun_func I h2 (by cases v <;> simp [isCref] at hr; rfl))
  rcases this with ⟨a, e⟩ | ⟨f, cs, e⟩ <;> simp only [execOp, ho, e] <;> rfl
 ·exact (bad_inv h).elim
theorem nilI_in {t : TypeId} {ms} (hu : P.underlying t = some (.interface ms)) (d : Nat) : (Op.equalIn (d + 1) t .nilIface .nilIface).run P w = .ok true w := by
 simp [Op.equalIn, run_underlying hu]
theorem nilI_c {t : TypeId} {y : Operand} {a : V} {c1 : Value} {p : List Nat} (h : nilI P t y a = true) (ha : RepS hz hb O env tm w p a c1) : y = .const .nilIface ∧ c1 = .nilIface ∧ ∃ ms, P.underlying t = some (.interface ms) := by
 unfold nilI at h
 split at h
 ·simp only [Bool.and_eq_true] at h
  obtain ⟨h1, h2⟩ := h
  refine ⟨rfl, ?_, ?_⟩
  ·unfold isNilI at h1
   split at h1
   ·exact lit_c ha
   ·cases h1
  ·unfold isIfaceD und at h2
   split at h2
   ·rename_i ms hu
    exact ⟨ms, hu⟩
   ·cases h2
 ·cases h
theorem binO_ok (I : Inv A hz hb O env tm w) {t : TypeId} {op : BinOp} {a b v : V} {cs : List Bool} {c1 : Value} {p q : List Nat} (x y : Operand)
  (h : binO P t op y a b = some (cs, v)) (hcs : ∀ b ∈ cs, b = true) (ha : RepS hz hb O env tm w p a c1) (hb' : RepS hz hb O env tm w q b (evO tm y)) (hna : ∀ row, a ≠ .obj row) :
  ∃ r, (do eqGuard op t x y c1 (evO tm y); binOp op t c1 (evO tm y) : Sem Value).run P w = .ok r w ∧ v = .f (.lit r) := by
 unfold binO at h
 cases hn : nilI P t y a with
 | true =>
  rw [hn] at h
  simp only [cond_true] at h
  obtain ⟨rfl, rfl, ms, hu⟩ := nilI_c hn ha
  obtain ⟨b', hb2, rfl, hop⟩ := eqRes_run h
  cases hb2
  have h1 : (Op.equal t .nilIface .nilIface).run P w = .ok true w := by
   exact nilI_in hu 9999
  rcases hop with ⟨rfl, rfl⟩ | ⟨rfl, rfl⟩
  ·refine ⟨.bool true, ?_, rfl⟩
   show (do eqGuard .eql t x (.const .nilIface) .nilIface .nilIface; binOp .eql t .nilIface .nilIface : Sem Value).run P w = _
   have h2 : (eqGuard .eql t x (.const .nilIface) .nilIface .nilIface).run P w = .ok () w := by
    unfold eqGuard; simp
   have h3 : binOp .eql t .nilIface .nilIface = (do pure (.bool (← Op.equal t .nilIface .nilIface))) := rfl
   simp only [Sem.run_bind, h2, Result.andThen_ok, h3, h1, Sem.run_pure]
  ·refine ⟨.bool (!true), ?_, rfl⟩
   show (do eqGuard .neq t x (.const .nilIface) .nilIface .nilIface; binOp .neq t .nilIface .nilIface : Sem Value).run P w = _
   have h2 : (eqGuard .neq t x (.const .nilIface) .nilIface .nilIface).run P w = .ok () w := by
    unfold eqGuard; simp
   have h3 : binOp .neq t .nilIface .nilIface = (do pure (.bool (!(← Op.equal t .nilIface .nilIface)))) := rfl
   simp only [Sem.run_bind, h2, Result.andThen_ok, h3, h1, Sem.run_pure]
 | false =>
  rw [hn] at h
  exact binV_ok I x y h hcs ha hb' hna
theorem op_binOp (I : Inv A hz hb O env tm w) (hd : ∀ d, o.dst = some d → d < env.length) {op : BinOp} {t : TypeId} {x y : Operand} {z : TypeId} (ho : o.op = .binOp op t x y z) (h : opM P H me o env = some (cs, us, u))
  (hcs : ∀ b ∈ cs, b = true) : Done A hz hb (applyU us env) tm w o.dst ((execOp (evO tm) o).run P w) := by
 unfold opM at h
 rw [ho] at h
 obtain ⟨a, h1, h⟩ := rd_bind h
 obtain ⟨b, h2, h⟩ := rd_bind h
 obtain ⟨⟨cs1, v⟩, h3, h⟩ := opt_bind h
 simp only at h
 obtain ⟨cs2, rfl, hF⟩ := checks_bind h
 obtain ⟨_, _, p, h4, _, h5, _⟩ := rd_ok I h1
 obtain ⟨_, _, q, h6, _⟩ := rd_ok I h2
 obtain ⟨r, hr, rfl⟩ := binO_ok I x y h3 (fun b hb => hcs b (List.mem_append_left _ hb)) h4 h6 h5
 refine fin_light I hF hd (fun p => lit_any p) ?_
 simp only [execOp, ho]
 rw [Sem.run_bind, hr]
 rfl
theorem op_unOp (I : Inv A hz hb O env tm w) (hd : ∀ d, o.dst = some d → d < env.length) {op : UnOp} {t : TypeId} {x : Operand} (ho : o.op = .unOp op t x) (h : opM P H me o env = some (cs, us, u)) :
  Done A hz hb (applyU us env) tm w o.dst ((execOp (evO tm) o).run P w) := by
 unfold opM at h
 rw [ho] at h
 obtain ⟨a, h1, h⟩ := rd_bind h
 obtain ⟨v, h3, h⟩ := opt_bind h
 obtain ⟨_, _, p, h4, _⟩ := rd_ok I h1
 have : ∃ r, (Op.unary op (evO tm x)).run P w = .ok r w ∧ v = .f (.lit r) := by
  unfold unV at h3
  split at h3
  all_goals first | cases h3 | skip
  all_goals
   have e := lit_c h4
   exact ⟨_, by rw [e]; rfl, rfl⟩
 obtain ⟨r, hr, rfl⟩ := this
 refine fin_light I h hd (fun p => lit_any p) ?_
 simp only [execOp, ho]
 rw [Sem.run_bind, hr]
 rfl
theorem op_load (I : Inv A hz hb O env tm w) (hd : ∀ d, o.dst = some d → d < env.length) {t : TypeId} {x : Operand} (ho : o.op = .load t x) (h : opM P H me o env = some (cs, us, u)) :
  Done A hz hb (applyU us env) tm w o.dst ((execOp (evO tm) o).run P w) := by
 unfold opM at h
 rw [ho] at h
 obtain ⟨a, h1, hA⟩ := rd_bind h
 clear h
 obtain ⟨c1, u1, v, c2, u2, h2, hF, rfl, rfl⟩ := bind_inv hA
 clear hA
 obtain ⟨_, _, p, h4, _, h5, _⟩ := rd_ok I h1
 rcases loadX_inv h2 with h2 | ⟨l, i, j, mk, ks, ts, rows, rfl, hg, hm, hk, hsz, hsl, rfl, hen, rfl⟩
 rotate_left
 ·have hE : RepE hz hb env tm w (.eref l i j) (evO tm x) := by
   rcases h4 with h4 | h4
   ·exact h4.elim
   ·exact h4
  obtain ⟨ts1, rows1, blk, off, n', cap, hL, hi, hc, hnm⟩ := hE
  obtain ⟨c0, hl0⟩ := I.loc_some hg (by simp)
  obtain ⟨v1, hv1, hr1⟩ := hL
  obtain ⟨rfl, rfl⟩ := hv1.det hl0
  simp only [rowsOf, Option.some.injEq, Prod.mk.injEq] at hr1
  obtain ⟨rfl, rfl⟩ := hr1
  obtain ⟨blk', off', cap', arr, t', fr, hl1, hw, hlt, I1, ho1⟩ := nx_take I hg hi hm hk
  obtain ⟨_, hcc⟩ := hl0.det hl1
  simp only [Value.slice.injEq, Option.some.injEq, Addr.mk.injEq] at hcc
  obtain ⟨⟨rfl, rfl, _⟩, rfl, rfl⟩ := hcc
  have hd1 : ∃ e, P.underlying t = some (.slice e) := by
   unfold isSliceD und at hsl
   split at hsl
   ·exact ⟨_, by assumption⟩
   ·cases hsl
  obtain ⟨e, hund⟩ := hd1
  have hag : isAggT P t = false := by unfold isAggT und; rw [hund]
  have hrun := loadVar_ok (P := P) (off := off + i * ks.length + j) hw (fun m hm => by omega) hund hsz (fun _ => by omega)
  rw [hag] at hrun
  rw [← hen] at I1
  have hlen : (applyU u1 env).length = env.length := by rw [hen]; exact length_chLoc _ _ _
  have hD := (done_put (w := w) (hz := hz) (hb := hb) I1 (FzExt.refl _ _ _) (Side.refl _) (v := .own ts (fR rows i j)) (M := env.length) (r := (execOp (evO tm) o).run P w) ?_ hF (by rw [hlen]; exact hd) (by rw [hlen]; exact Nat.le_refl _) (.inl ho1)).2
  ·rw [applyU_append]; exact hD
  ·have hc' : evO tm x = .pointer (some ⟨blk, off + i * ks.length + j, none⟩) := hc
   simp only [execOp, ho, hc', Instr.loadAt, Instr.sureAddr, Sem.run_bind, Sem.run_pure, Result.andThen_ok, hrun]
   rfl
 have hE : RepE hz hb env tm w a (evO tm x) := by
  have : (∃ s j, a = .ref s j) ∨ (∃ l i j, a = .eref l i j) ∨ (∃ ts rows i j, a = .iref ts rows i j) := by
   obtain ⟨n, hn, h2'⟩ := opt_bind h2
   cases a <;> first
    | exact (bad_inv h2').elim
    | exact .inl ⟨_, _, rfl⟩
    | exact .inr (.inl ⟨_, _, _, rfl⟩)
    | exact .inr (.inr ⟨_, _, _, _, rfl⟩)
  rcases this with ⟨s, j, rfl⟩ | ⟨l, i, j, rfl⟩ | ⟨ts, rows, i, j, rfl⟩ <;>
  ·rcases h4 with h4 | h4
   ·exact h4.elim
   ·exact h4
 obtain ⟨rfl, rfl, blk, off, c', hc, hrun, hrep⟩ := loadV_ok I h2 hE
 refine fin_light I hF hd hrep ?_
 simp only [execOp, ho, hc, Instr.loadAt, Instr.sureAddr, Sem.run_bind, Sem.run_pure, Result.andThen_ok, hrun]
theorem rds_inv (xs : List Operand) {cs : List Bool} {us : List Upd} {vs : List V} (h : rds xs env = some (cs, us, vs)) : cs = [] ∧ us = [] ∧ vs.length = xs.length ∧
  ∀ (j : Nat) (v : V), vs[j]? = some v → ∃ x, xs[j]? = some x ∧ rd x env = some ([], [], v) := by
 induction xs generalizing cs us vs with
 | nil => obtain ⟨rfl, rfl, rfl⟩ := pure_inv h; exact ⟨rfl, rfl, rfl, fun j v e => by simp at e⟩
 | cons x xs ih =>
  obtain ⟨v, h1, hA⟩ := rd_bind h
  obtain ⟨vs', h2, hB⟩ := still_bind (fun h => ⟨(ih h).1, (ih h).2.1⟩) hA
  obtain ⟨_, _, hl, hj⟩ := ih h2
  obtain ⟨rfl, rfl, rfl⟩ := pure_inv hB
  refine ⟨rfl, rfl, by simp [hl], fun j y e => ?_⟩
  cases j with
  | zero => simp at e; subst e; exact ⟨x, rfl, h1⟩
  | succ j => exact hj j y (by simpa using e)
theorem raws_inv (xs : List Operand) {cs : List Bool} {us : List Upd} {vs : List V} (h : raws xs env = some (cs, us, vs)) : cs = [] ∧ us = [] ∧ vs.length = xs.length ∧
  ∀ (j : Nat) (v : V), vs[j]? = some v → ∃ x, xs[j]? = some x ∧ raw x env = some ([], [], v) := by
 induction xs generalizing cs us vs with
 | nil => obtain ⟨rfl, rfl, rfl⟩ := pure_inv h; exact ⟨rfl, rfl, rfl, fun j v e => by simp at e⟩
 | cons x xs ih =>
  obtain ⟨v, h1, hA⟩ := raw_bind h
  obtain ⟨vs', h2, hB⟩ := still_bind (fun h => ⟨(ih h).1, (ih h).2.1⟩) hA
  obtain ⟨_, _, hl, hj⟩ := ih h2
  obtain ⟨rfl, rfl, rfl⟩ := pure_inv hB
  refine ⟨rfl, rfl, by simp [hl], fun j y e => ?_⟩
  cases j with
  | zero => simp at e; subst e; exact ⟨x, rfl, h1⟩
  | succ j => exact hj j y (by simpa using e)
theorem op_makeFunc (I : Inv A hz hb O env tm w) (hd : ∀ d, o.dst = some d → d < env.length) {f : FuncId} {first caps : Array Operand} (ho : o.op = .makeFunc (.func f) first caps) (h : opM P H me o env = some (cs, us, u)) :
  Done A hz hb (applyU us env) tm w o.dst ((execOp (evO tm) o).run P w) := by
 unfold opM at h
 rw [ho] at h
 simp only at h
 split at h
 ·exact (bad_inv h).elim
 ·rename_i hfirst
  obtain ⟨vs, h1, hA⟩ := still_bind (fun h => ⟨(rds_inv _ h).1, (rds_inv _ h).2.1⟩) h
  clear h
  obtain ⟨_, _, hlen, hget⟩ := rds_inv _ h1
  split at hA
  ·rename_i hl
   refine fin_light I hA hd (c := .func (.func f) #[] (caps.map (evO tm))) (fun p => ?_) ?_
   ·refine ⟨_, rfl, by simp [hlen], fun j v e => ?_⟩
    obtain ⟨x, hx, hv⟩ := hget j v e
    have hv2 : light v = true := List.all_eq_true.1 hl v (List.mem_of_getElem? e)
    obtain ⟨_, _, p', h4, _⟩ := rd_ok I hv
    have hc : (caps.map (evO tm)).getD j undef = evO tm x := by
     have : caps[j]? = some x := by simpa using hx
     simp [Array.getD_eq_getD_getElem?, this]
    rw [hc]
    have h5 := light_rep (q := p ++ [j]) hv2 (by cases v <;> first | exact h4 | (simp [light] at hv2))
    rcases h5 with h5 | h5
    ·left; cases v <;> first | exact h5 | exact h5.elim | (simp [light] at hv2)
    ·exact .inr h5
   ·have h0 : first = #[] := by simpa using hfirst
    subst h0
    simp [execOp, ho, Instr.makeFunc]
  ·exact (bad_inv hA).elim
theorem op_makeInterface (I : Inv A hz hb O env tm w) (hd : ∀ d, o.dst = some d → d < env.length) {t : TypeId} {x : Operand} (ho : o.op = .makeInterface t x) (h : opM P H me o env = some (cs, us, u)) :
  Done A hz hb (applyU us env) tm w o.dst ((execOp (evO tm) o).run P w) := by
 unfold opM at h
 rw [ho] at h
 obtain ⟨v, h1, h⟩ := raw_bind h
 split at h
 ·rename_i y
  split at h
  ·rename_i hp
   refine fin_light I h hd (fun p => lit_any p) ?_
   have e : evO tm x = y := by
    obtain ⟨_, _, _, hr⟩ := raw_ok I h1
    rcases hr with ⟨t, rfl, _, _, hr⟩ | ⟨_, hr, _⟩
    ·exact lit_c hr
    ·exact lit_c (hr [])
   simp only [execOp, ho, e, Instr.makeInterface]
   unfold und at hp
   cases hu : P.underlying t with
   | none => rw [hu] at hp; simp [plainD] at hp
   | some d =>
    rw [hu] at hp
    simp only [Sem.run_bind, run_underlying hu, Result.andThen_ok]
    cases d <;> first | rfl | (simp [plainD] at hp)
  ·exact (bad_inv h).elim
 ·exact (bad_inv h).elim
end
end Go.Abs
end
section
set_option linter.unusedVariables false
set_option linter.unusedSimpArgs false
set_option linter.unusedSectionVars false
namespace Go.Abs
open Go
variable [Globs]
section
variable {A : Nat → Prop} {hz hb : GH} {O : OM} {env : Env} {tm : Nat → Value} {w : World} {P : Program} {H : Hints} {me : FuncId} {o : Oper} {cs : List Bool} {us : List Upd} {u : Unit}

theorem rep_E {v : V} {c : Value} {p : List Nat} (h : RepS hz hb O env tm w p v c) (hv : (∃ l k n, v = .lent l k n) ∨ (∃ l k a b, v = .lsub l k a b) ∨ (∃ s j, v = .ref s j) ∨ (∃ l i j, v = .eref l i j) ∨ (∃ ts rows i j, v = .iref ts rows i j)) :
  RepE hz hb env tm w v c := by
 rcases hv with ⟨l, k, n, rfl⟩ | ⟨l, k, a, b, rfl⟩ | ⟨s, j, rfl⟩ | ⟨l, i, j, rfl⟩ | ⟨ts, rows, i, j, rfl⟩ <;>
 ·rcases h with h | h
  ·exact h.elim
  ·exact h
/-- - -/
theorem shiftRef_ok {v v' : V} {c : Value} {p : List Nat} {d : Nat} (h : shiftRef v d = some v') (hv : RepS hz hb O env tm w p v c) :
  ∃ blk off, c = .pointer (some ⟨blk, off, none⟩) ∧ ∀ q, RepS hz hb O env tm w q v' (.pointer (some ⟨blk, off + d, none⟩)) := by
 unfold shiftRef at h
 split at h
 ·cases h
  obtain ⟨row, blk, h1, h2, h3⟩ := rep_E hv (.inr (.inr (.inl ⟨_, _, rfl⟩)))
  exact ⟨blk, _, h3, fun q => .inr ⟨row, blk, h1, h2, rfl⟩⟩
 ·cases h
  obtain ⟨ts, rows, blk, off, n, cap, h1, h2, h3, hnm⟩ := rep_E hv (.inr (.inr (.inr (.inl ⟨_, _, _, rfl⟩))))
  exact ⟨blk, _, h3, fun q => .inr ⟨ts, rows, blk, off, n, cap, h1, h2, by simp only [Nat.add_assoc], hnm⟩⟩
 ·cases h
  obtain ⟨blk, off, n, cap, h1, h2, h3⟩ := rep_E hv (.inr (.inr (.inr (.inr ⟨_, _, _, _, rfl⟩))))
  exact ⟨blk, _, h3, fun q => .inr ⟨blk, off, n, cap, h1, h2, by simp only [Nat.add_assoc]⟩⟩
 ·cases h
 ·cases h
theorem fieldOff_ok {t : TypeId} {i off : Nat} {ft : TypeId} (h : fieldOff P t i = some (off, ft)) : ∃ fs f, P.underlying t = some (.struct fs) ∧ fs[i]? = some f ∧ f.offset = off ∧ f.type = ft := by
 unfold fieldOff und at h
 split at h
 ·rename_i fs hu
  simp only [Option.map_eq_some_iff, Prod.mk.injEq] at h
  obtain ⟨f, h1, h2, h3⟩ := h
  exact ⟨fs, f, hu, h1, h2, h3⟩
 ·cases h
theorem op_fieldAddr (I : Inv A hz hb O env tm w) (hd : ∀ d, o.dst = some d → d < env.length) {t : TypeId} {x : Operand} {i : Nat} (ho : o.op = .fieldAddr t x i) (h : opM P H me o env = some (cs, us, u)) :
  Done A hz hb (applyU us env) tm w o.dst ((execOp (evO tm) o).run P w) := by
 unfold opM at h
 rw [ho] at h
 obtain ⟨⟨off, ft⟩, h1, hA⟩ := opt_bind h
 clear h
 obtain ⟨fs, f, hu, hf, rfl, rfl⟩ := fieldOff_ok h1
 simp only at hA
 split at hA
 ·exact (bad_inv hA).elim
 ·rename_i hsz
  obtain ⟨v, h2, hB⟩ := rd_bind hA
  obtain ⟨v', h3, hC⟩ := opt_bind hB
  clear hA hB
  obtain ⟨_, _, p, h4, _⟩ := rd_ok I h2
  obtain ⟨blk, off, hc, hv'⟩ := shiftRef_ok h3 h4
  refine fin_light I hC hd hv' ?_
  obtain ⟨n, hn⟩ : ∃ n, sz P f.type = some n := by
   cases hs : sz P f.type with
   | none => rw [hs] at hsz; simp at hsz
   | some n => exact ⟨n, rfl⟩
  have hn0 : n ≠ 0 := by rw [hn] at hsz; simpa using hsz
  simp only [execOp, ho, hc, Instr.fieldAt, Sem.run_bind, run_underlying hu, Result.andThen_ok, hf, Instr.sureAddr, Sem.run_pure, fieldPlace, run_sz hn, hn0, if_false, addr_shift]
theorem kind_of {x : Operand} {iv : V} {n : Int} (I : Inv A hz hb O env tm w) (h : raw x env = some ([], [], iv)) (hn : asI iv = some n) : ∃ k, evO tm x = .int k n := rawI (I := I) h hn
theorem sameK_bind {β : Type} {a b : Nat} {f : Unit → M β} {r : β} (h : (sameK a b >>= f) env = some (cs, us, r)) : a = b ∧ f () env = some (cs, us, r) := by
 unfold sameK at h
 split at h
 ·rename_i e
  exact ⟨e, by
   obtain ⟨c1, u1, a1, c2, u2, h1, h2, rfl, rfl⟩ := bind_inv h
   obtain ⟨rfl, rfl, _⟩ := pure_inv h1
   exact h2⟩
 ·obtain ⟨c1, u1, a1, c2, u2, h1, h2, rfl, rfl⟩ := bind_inv h
  exact (bad_inv h1).elim
/-- - -/
theorem elem_addr (I : Inv A hz hb O env tm w) {t e : TypeId} {k n : Nat} {m : Int} {cx ci : Value} {kd : IntKind} {base : Option Addr} {len cap : Nat} {blk off : Nat} (hu : P.underlying t = some (.slice e)) (hk : sz P e = some k)
  (hx : cx = .slice base len cap) (hi : ci = .int kd m) (hb0 : base = some ⟨blk, off, none⟩) (h0 : 0 ≤ m) (h1 : m < len) (hn : m.toNat = n) :
  (Instr.indexAt t cx ci).run P w = .ok (.pointer (some ⟨blk, off + n * k, none⟩)) w := by
 subst hx hi hb0 hn
 have hs : (sizeOf e).run P w = .ok k w := run_sz hk w
 simp only [Instr.indexAt, asIntOf, Sem.run_bind, Sem.run_pure, Result.andThen_ok, run_underlying hu, h0, h1, and_self, if_true, hs, addr_shift]
theorem indexAddrV_ok (I : Inv A hz hb O env tm w) {t : TypeId} {x : Operand} {a iv v : V} {ci : Value} (h : indexAddrV P t a iv env = some (cs, us, v)) (hcs : ∀ b ∈ cs, b = true) {p q : List Nat} {c : Value}
  (ha : RepS hz hb O env tm w p a c) (hi : RepS hz hb O env tm w q iv ci) : us = [] ∧ ∃ c', (Instr.indexAt t c ci).run P w = .ok c' w ∧ ∀ r, RepS hz hb O env tm w r v c' := by
 obtain ⟨n, hn, hA⟩ := opt_bind h
 clear h
 obtain ⟨kd, rfl, _⟩ := int_c hi hn
 have ofDec : ∀ {p : Prop} [Decidable p], decide p ∈ cs → p := fun hm => of_decide_eq_true (hcs _ hm)
 cases hu : und P t with
 | none => rw [hu] at hA; exact (bad_inv hA).elim
 | some d =>
  rw [hu] at hA
  cases d with
  | slice e =>
   simp only at hA
   obtain ⟨k, hk, hB⟩ := opt_bind hA
   clear hA
   cases a with
   | lent l k' m =>
    obtain ⟨rfl, hC⟩ := sameK_bind hB
    obtain ⟨cs', rfl, hD⟩ := chk_bind hC
    obtain ⟨rfl, rfl, rfl⟩ := pure_inv hD
    have hr : 0 ≤ n ∧ n < m := ofDec (by simp)
    obtain ⟨ts, rows, h1, h2, h3, hnm⟩ := rep_E ha (.inl ⟨_, _, _, rfl⟩)
    obtain ⟨a, cap, rfl, hty, hin⟩ := h1.rows I hnm
    obtain ⟨hcap, blk, off, rfl, hrows⟩ := hin (by rintro rfl; simp at h2; omega)
    refine ⟨rfl, _, elem_addr I hu hk rfl rfl rfl hr.1 (by rw [h2]; exact hr.2) rfl, fun r => .inr ⟨ts, rows, blk, off, _, cap, h1, by omega, by rw [kN_no (no_mp hnm).2, h3]; simp, (no_mp hnm).1⟩⟩
   | xl l k' m =>
    obtain ⟨rfl, hC⟩ := sameK_bind hB
    obtain ⟨cs', rfl, hD⟩ := chk_bind hC
    obtain ⟨rfl, rfl, rfl⟩ := pure_inv hD
    have hr : 0 ≤ n ∧ n < m := ofDec (by simp)
    rcases ha with ha | ha
    case inl => exact ha.elim
    obtain ⟨ts, rows, h1, h2, h3, hnx⟩ := ha
    obtain ⟨a, cap, rfl, hty, hin⟩ := h1.rowsK I (nx_mp hnx).2
    obtain ⟨hcap, blk, off, rfl, hrows⟩ := hin (by rintro rfl; simp at h2; omega)
    refine ⟨rfl, _, elem_addr I hu hk rfl rfl rfl hr.1 (by rw [h2]; exact hr.2) rfl, fun r => .inr ⟨ts, rows, blk, off, _, cap, h1, by omega, by rw [h3]; simp, (nx_mp hnx).2⟩⟩
   | lsub l k' o len =>
    obtain ⟨rfl, hC⟩ := sameK_bind hB
    obtain ⟨cs', rfl, hD⟩ := chk_bind hC
    obtain ⟨rfl, rfl, rfl⟩ := pure_inv hD
    have hr : 0 ≤ n ∧ n < len := ofDec (by simp)
    obtain ⟨ts, rows, c', h1, h2, h3, h4, hnm⟩ := rep_E ha (.inr (.inl ⟨_, _, _, _, rfl⟩))
    obtain ⟨a, cap, rfl, hty, hin⟩ := h1.rows I hnm
    obtain ⟨hcap, blk, off, rfl, hrows⟩ := hin (by rintro rfl; simp at h2; omega)
    obtain ⟨a', n', cap', b, he, h5, rfl, h6⟩ := h3
    simp only [Value.slice.injEq] at he
    obtain ⟨rfl, rfl, rfl⟩ := he
    rcases h6 with h6 | h6
    ·omega
    ·refine ⟨rfl, _, elem_addr I (blk := blk) (off := off + o * ts.length) hu hk rfl rfl (by rw [h6]; simp [shiftA, addr_shift]) hr.1 hr.2 rfl, fun r => .inr ⟨ts, rows, blk, off, _, cap, h1, by omega, ?_, (no_mp hnm).1⟩⟩
     rw [kN_no (no_mp hnm).2, h4, Nat.add_mul]; simp; omega
   | f x =>
    cases x with
    | lit y => exact (bad_inv hB).elim
    | lst ts rows =>
     obtain ⟨rfl, hC⟩ := sameK_bind hB
     obtain ⟨cs', rfl, hD⟩ := chk_bind hC
     obtain ⟨rfl, rfl, rfl⟩ := pure_inv hD
     have hr : 0 ≤ n ∧ n < rows.length := ofDec (by simp)
     rcases ha with ha | ha
     case inr => exact ha.elim
     have hB' : RepB hz hb ts rows c := RepF.b I.sub ha
     obtain ⟨a, cap, rfl, hty, hin⟩ := hB'.seen I
     obtain ⟨hcap, blk, off, rfl, hrows⟩ := hin (by rintro rfl; simp at hr; omega)
     refine ⟨rfl, _, elem_addr I hu hk rfl rfl rfl hr.1 hr.2 rfl, fun r => .inr ⟨blk, off, _, cap, hB', by omega, by simp⟩⟩
   | bor ts rows =>
    obtain ⟨rfl, hC⟩ := sameK_bind hB
    obtain ⟨cs', rfl, hD⟩ := chk_bind hC
    obtain ⟨rfl, rfl, rfl⟩ := pure_inv hD
    have hr : 0 ≤ n ∧ n < rows.length := ofDec (by simp)
    rcases ha with ha | ha
    case inr => exact ha.elim
    have hB' : RepB hz hb ts rows c := ha
    obtain ⟨a, cap, rfl, hty, hin⟩ := hB'.seen I
    obtain ⟨hcap, blk, off, rfl, hrows⟩ := hin (by rintro rfl; simp at hr; omega)
    refine ⟨rfl, _, elem_addr I hu hk rfl rfl rfl hr.1 hr.2 rfl, fun r => .inr ⟨blk, off, _, cap, hB', by omega, by simp⟩⟩
   | _ => exact (bad_inv hB).elim
  | array len e =>
   simp only at hA
   obtain ⟨k, hk, hB⟩ := opt_bind hA
   obtain ⟨cs', rfl, hC⟩ := chk_bind hB
   clear hA hB
   have hr : 0 ≤ n ∧ n < len := ofDec (by simp)
   have key : ∀ {v' : V}, shiftRef a (n.toNat * k) = some v' → (pure v' : M V) env = some (cs', us, v) → us = [] ∧ ∃ c', (Instr.indexAt t c (.int kd n)).run P w = .ok c' w ∧ ∀ r, RepS hz hb O env tm w r v c' := by
    intro v' h1 h2
    obtain ⟨rfl, rfl, rfl⟩ := pure_inv h2
    obtain ⟨blk, off, rfl, h3⟩ := shiftRef_ok h1 ha
    refine ⟨rfl, _, ?_, h3⟩
    have hs : (sizeOf e).run P w = .ok k w := run_sz hk w
    have hu' : P.underlying t = some (.array len e) := hu
    simp only [Instr.indexAt, asIntOf, Sem.run_bind, Sem.run_pure, Result.andThen_ok, run_underlying hu', Instr.sureAddr, hr, and_self, if_true, hs, addr_shift]
   cases a with
   | iref ts rows a0 j0 =>
    simp only at hC
    rcases bif_inv hC with ⟨hc, hC⟩ | ⟨_, hC⟩
    ·obtain ⟨rfl, rfl, rfl⟩ := pure_inv hC
     simp only [Bool.and_eq_true, Nat.beq_eq] at hc
     obtain ⟨rfl, rfl, rfl, rfl⟩ := hc
     obtain ⟨blk, off, n', cap, hB', _, rfl⟩ := rep_E ha (.inr (.inr (.inr (.inr ⟨_, _, _, _, rfl⟩))))
     refine ⟨rfl, .pointer (some ⟨blk, off + n.toNat * ts.length, none⟩), ?_, fun r => .inr ⟨blk, off, n', cap, hB', by omega, by simp⟩⟩
     have hs : (sizeOf e).run P w = .ok ts.length w := run_sz hk w
     have hu' : P.underlying t = some (.array rows.length e) := hu
     simp only [Instr.indexAt, asIntOf, Sem.run_bind, Sem.run_pure, Result.andThen_ok, run_underlying hu', Instr.sureAddr, hr, and_self, if_true, hs, addr_shift]
     simp
    ·exact key rfl hC
   | _ => first
    | exact key rfl hC
    | exact (bad_inv hC).elim
  | _ => exact (bad_inv hA).elim
theorem raw_any (I : Inv A hz hb O env tm w) {x : Operand} {cs : List Bool} {us : List Upd} {v : V} (h : raw x env = some (cs, us, v)) : ∃ p, RepS hz hb O env tm w p v (evO tm x) := by
 obtain ⟨_, _, _, hr⟩ := raw_ok I h
 rcases hr with ⟨t, rfl, _, _, hr⟩ | ⟨_, hr, _⟩
 ·exact ⟨_, hr⟩
 ·exact ⟨[], hr []⟩
theorem op_indexAddr (I : Inv A hz hb O env tm w) (hd : ∀ d, o.dst = some d → d < env.length) {t : TypeId} {x i : Operand} (ho : o.op = .indexAddr t x i) (h : opM P H me o env = some (cs, us, u))
  (hcs : ∀ b ∈ cs, b = true) : Done A hz hb (applyU us env) tm w o.dst ((execOp (evO tm) o).run P w) := by
 unfold opM at h
 rw [ho] at h
 obtain ⟨a, h1, hA⟩ := rd_bind h
 obtain ⟨iv, h2, hB⟩ := raw_bind hA
 obtain ⟨c1, u1, v, c2, u2, h3, hC, rfl, rfl⟩ := bind_inv hB
 clear h hA hB
 obtain ⟨_, _, p, h4, _⟩ := rd_ok I h1
 obtain ⟨q, h5⟩ := raw_any I h2
 obtain ⟨rfl, c', hrun, hv⟩ := indexAddrV_ok (x := x) I h3 (fun b hb => hcs b (List.mem_append_left _ hb)) h4 h5
 refine fin_light I hC hd hv ?_
 simp only [execOp, ho]
 rw [Sem.run_bind, hrun]
 rfl
end
end Go.Abs
end
section
set_option linter.unusedVariables false
set_option linter.unusedSimpArgs false
set_option linter.unusedSectionVars false
namespace Go.Abs
open Go
variable [Globs]
section
variable {A : Nat → Prop} {hz hb : GH} {O : OM} {env : Env} {tm : Nat → Value} {w : World} {P : Program} {H : Hints} {me : FuncId} {o : Oper} {cs : List Bool} {us : List Upd} {u : Unit}

/-! ### parts of lists -/
/-- - -/
def BoundIs (tm : Nat → Value) (x : Option Operand) (d n : Nat) : Prop := match x with
 | none => n = d
 | some x => ∃ k, evO tm x = .int k n
theorem bound_ok (I : Inv A hz hb O env tm w) {x : Option Operand} {d top n : Nat} (h : bound x d top env = some (cs, us, n)) (hcs : ∀ b ∈ cs, b = true) (hdt : d ≤ top) : us = [] ∧ n ≤ top ∧ BoundIs tm x d n := by
 unfold bound at h
 cases x with
 | none => obtain ⟨rfl, rfl, rfl⟩ := pure_inv h; exact ⟨rfl, hdt, rfl⟩
 | some x =>
  obtain ⟨v, h1, hA⟩ := raw_bind h
  obtain ⟨m, h2, hB⟩ := opt_bind hA
  obtain ⟨cs', rfl, hC⟩ := chk_bind hB
  obtain ⟨rfl, rfl, rfl⟩ := pure_inv hC
  have hr : 0 ≤ m ∧ m ≤ top := of_decide_eq_true (hcs _ (by simp))
  obtain ⟨k, hk⟩ := rawI (I := I) h1 h2
  refine ⟨rfl, by omega, k, ?_⟩
  rw [hk, Int.toNat_of_nonneg hr.1]
theorem bound_bind {β : Type} (I : Inv A hz hb O env tm w) {x : Option Operand} {d top : Nat} {f : Nat → M β} {r : β} (h : (bound x d top >>= f) env = some (cs, us, r)) (hcs : ∀ b ∈ cs, b = true) (hdt : d ≤ top) :
  ∃ n cs', n ≤ top ∧ BoundIs tm x d n ∧ f n env = some (cs', us, r) ∧ ∀ b ∈ cs', b = true := by
 obtain ⟨c1, u1, n, c2, u2, h1, h2, rfl, rfl⟩ := bind_inv h
 obtain ⟨rfl, hn, hB⟩ := bound_ok I h1 (fun b hb => hcs b (List.mem_append_left _ hb)) hdt
 exact ⟨n, c2, hn, hB, h2, fun b hb => hcs b (List.mem_append_right _ hb)⟩
theorem noMax_bind {β : Type} {mx : Option Operand} {f : Unit → M β} {r : β} (h : (noMax mx >>= f) env = some (cs, us, r)) : mx = none ∧ f () env = some (cs, us, r) := by
 obtain ⟨c1, u1, n, c2, u2, h1, h2, rfl, rfl⟩ := bind_inv h
 cases mx with
 | none => obtain ⟨rfl, rfl, _⟩ := pure_inv h1; exact ⟨rfl, h2⟩
 | some _ => exact (bad_inv (s := "slice: max") (α := Unit) (env := env) h1).elim
theorem run_bounds {lo hi : Option Operand} {len cap l h : Nat} (hh : BoundIs tm hi len h) (hl : BoundIs tm lo 0 l) (h1 : l ≤ h) (h2 : h ≤ cap) (isSlice : Bool) :
  (Instr.sliceBounds isSlice len cap (lo.map (evO tm)) (hi.map (evO tm)) none).run P w = .ok (l, h, cap) w := by
 have hH : (match hi.map (evO tm), (none : Option Value) with
   | some v, some _ => Instr.sliceBound v cap .slice3B
   | some v, none => Instr.sliceBound v cap (if isSlice then .sliceAcap else .sliceAlen)
   | none, none => pure len
   | none, some _ => stuck "Slice: max without high").run P w = .ok h w := by
  cases hi with
  | none => obtain rfl := hh; rfl
  | some x =>
   obtain ⟨k, hk⟩ := hh
   simp only [Option.map_some, hk]
   rw [run_sliceBound w k h cap _ (by omega) (by omega)]
   simp
 have hL : (match lo.map (evO tm) with
   | some v => Instr.sliceBound v h .sliceB
   | none => pure 0).run P w = .ok l w := by
  cases lo with
  | none => obtain rfl := hl; rfl
  | some x =>
   obtain ⟨k, hk⟩ := hl
   simp only [Option.map_some, hk]
   rw [run_sliceBound w k l h _ (by omega) (by omega)]
   simp
 unfold Instr.sliceBounds
 cases lo <;> cases hi <;> simp_all [Sem.run_bind]
theorem run_sub {t e : TypeId} {k len cap l h : Nat} {lo hi : Option Operand} {base : Option Addr} (hu : P.underlying t = some (.slice e)) (hk : sz P e = some k) (hh : BoundIs tm hi len h) (hl : BoundIs tm lo 0 l)
  (h1 : l ≤ h) (h2 : h ≤ cap) : (Instr.sliceAt t (.slice base len cap) (lo.map (evO tm)) (hi.map (evO tm)) none).run P w = .ok (.slice (if cap = l then base else base.map (·.add (l * k))) (h - l) (cap - l)) w := by
 simp only [Instr.sliceAt, Instr.slice, Sem.run_bind, run_underlying hu, Result.andThen_ok, run_bounds hh hl h1 h2, run_sz hk, Sem.run_pure]
theorem sub_of {k n cap l h : Nat} {base : Option Addr} (h1 : l ≤ h) (h2 : h ≤ n) (h3 : n ≤ cap) : SubOf k l (h - l) (.slice base n cap) (.slice (if cap = l then base else base.map (·.add (l * k))) (h - l) (cap - l)) := by
 refine ⟨base, n, cap, _, rfl, by omega, rfl, ?_⟩
 by_cases hc : cap = l
 ·left; omega
 ·right; simp only [hc, if_false]; rfl
theorem SubOf.trans {k o len l h n cap : Nat} {base : Option Addr} {c' : Value} (hs : SubOf k o len c' (.slice base n cap)) (h1 : l ≤ h) (h2 : h ≤ n) (h3 : n ≤ cap) :
  SubOf k (o + l) (h - l) c' (.slice (if cap = l then base else base.map (·.add (l * k))) (h - l) (cap - l)) := by
 obtain ⟨a, m, cp, b, rfl, h4, h5, h6⟩ := hs
 simp only [Value.slice.injEq] at h5
 obtain ⟨rfl, rfl, rfl⟩ := h5
 refine ⟨a, m, cp, _, rfl, by omega, by rw [Nat.sub_sub], ?_⟩
 by_cases hz' : o + l = cp
 ·left; omega
 ·right
  rcases h6 with h6 | h6
  ·omega
  by_cases hc : cp - o = l
  ·have hl0 : l = 0 := by omega
   subst hl0
   simp only [hc, if_true, Nat.add_zero]
   exact h6
  simp only [hc, if_false]
  rcases Or.inr (a := False) h6 with h6 | h6
  ·exact h6.elim
  ·subst h6
   unfold shiftA
   rw [Option.map_map]
   congr 1
   funext x
   simp only [Function.comp, Addr.add_add, Nat.add_mul]
theorem str_any {s : ByteArray} (p : List Nat) : RepS hz hb O env tm w p (vStr s) (.string s) := .inl (.lit _)
theorem seen_cap {ts : List LT} {rows : Rows} {c : Value} (h : Seen hz w ts rows c) : ∃ a cap, c = .slice a rows.length cap ∧ rows.length ≤ cap := by
 obtain ⟨a, cap, rfl, _, h2⟩ := h
 refine ⟨a, cap, rfl, ?_⟩
 by_cases h0 : rows = []
 ·subst h0; simp
 ·exact (h2 h0).1
theorem RepB.part {ts : List LT} {rows : Rows} {c c' : Value} {off len : Nat} (hr : RepB hz hb ts rows c') (hl : off + len ≤ rows.length) (hs : SubOf ts.length off len c' c) :
  RepB hz hb ts ((rows.drop off).take len) c := by
 obtain ⟨a, n, cap, b, rfl, h1, rfl, h2⟩ := hs
 obtain ⟨hty, a', cap', hc', hd⟩ := hr
 simp only [Value.slice.injEq] at hc'
 obtain ⟨rfl, rfl, rfl⟩ := hc'
 have hlen := part_len hl
 refine ⟨fun row hr => hty row (part_mem hr), b, cap - off, by rw [hlen], ?_⟩
 by_cases hlen0 : len = 0
 ·left; subst hlen0; simp
 ·right
  rcases h2 with ⟨_, h2⟩ | h2
  ·exact (hlen0 h2).elim
  ·rcases hd with hd | ⟨blk, o, arr, t, fr, rfl, hb', hcap, hs, hc⟩
   ·subst hd; simp at hl; omega
   ·subst h2
    refine ⟨blk, o + off * ts.length, arr, t, fr, by simp [shiftA, addr_shift], hb', by rw [hlen]; omega, ?_, fun i j row x h3 h4 => ?_⟩
    ·rw [hlen]
     have : (off + len) * ts.length ≤ rows.length * ts.length := Nat.mul_le_mul_right _ hl
     rw [Nat.add_mul] at this
     omega
    ·obtain ⟨h5, _⟩ := part_get h3
     have := hc (off + i) j row x h5 h4
     rw [Nat.add_mul] at this
     rw [show o + off * ts.length + i * ts.length + j = o + (off * ts.length + i * ts.length) + j by omega]
     exact this
theorem kIf_ok {t : TypeId} {k : Option Nat} (h : kIfSlice P t = some k) : (∃ e m, P.underlying t = some (.slice e) ∧ sz P e = some m ∧ k = some m) ∨ (P.underlying t = some .string ∧ k = none) := by
 unfold kIfSlice und at h
 split at h
 ·rename_i e hu
  simp only [Option.map_eq_some_iff] at h
  obtain ⟨m, h1, rfl⟩ := h
  exact .inl ⟨e, m, hu, h1, rfl⟩
 ·rename_i hu
  cases h
  exact .inr ⟨hu, rfl⟩
 ·cases h
theorem run_none3 {lo hi mx : Option Operand} (h : isNone3 lo hi mx = true) {t e : TypeId} {n cap m : Nat} {a : Option Addr} (hu : P.underlying t = some (.slice e)) (hs : sz P e = some m) :
  (Instr.sliceAt t (.slice a n cap) (lo.map (evO tm)) (hi.map (evO tm)) (mx.map (evO tm))).run P w = .ok (.slice a 0 0) w := by
 unfold isNone3 at h
 split at h
 ·rename_i k1 k2
  have e1 : (Instr.sliceBound (.int k2 0) cap .slice3Acap).run P w = .ok 0 w := run_sliceBound w k2 0 cap _ (by omega) (by omega)
  have e2 : (Instr.sliceBound (.int k1 0) 0 .slice3B).run P w = .ok 0 w := run_sliceBound w k1 0 0 _ (by omega) (by omega)
  simp only [Instr.sliceAt, Instr.slice, Instr.sliceBounds, Sem.run_bind, run_underlying hu, Result.andThen_ok, Option.map_none, Option.map_some, evO, if_true, e1, e2, Sem.run_pure, run_sz hs]
 ·cases h
theorem sliceV_ok (I : Inv A hz hb O env tm w) {t : TypeId} {k : Option Nat} {a v : V} {lo hi mx : Option Operand} (hk : kIfSlice P t = some k) (h : sliceV k a lo hi mx env = some (cs, us, v)) (hcs : ∀ b ∈ cs, b = true)
  {p : List Nat} {c : Value} (ha : RepS hz hb O env tm w p a c) :
  us = [] ∧ ∃ c', (Instr.sliceAt t c (lo.map (evO tm)) (hi.map (evO tm)) (mx.map (evO tm))).run P w = .ok c' w ∧ ∀ r, RepS hz hb O env tm w r v c' := by
 unfold sliceV at h
 rcases bif_inv h with ⟨h3, h⟩ | ⟨_, h⟩
 ·have key : ∀ {m : Nat} {b : Option Addr} {n cap : Nat} {ts : List LT}, isMp ts = false → k = some m → c = .slice b n cap → ∃ c', (Instr.sliceAt t c (lo.map (evO tm)) (hi.map (evO tm)) (mx.map (evO tm))).run P w = .ok c' w ∧ ∀ r, RepS hz hb O env tm w r (.own ts []) c' := by
   rintro m b n cap ts hnm rfl rfl
   rcases kIf_ok hk with ⟨e, m', hu, hsz, hx⟩ | ⟨_, hx⟩
   case inr => cases hx
   exact ⟨_, run_none3 h3 hu hsz, fun r => .inl (.inl ⟨hnm, by simp, b, 0, rfl, Nat.le_refl _, .inl rfl⟩)⟩
  unfold sliceN at h
  split at h
  ·split at h
   ·exact (bad_inv h).elim
   rename_i hnm
   obtain ⟨rfl, rfl, rfl⟩ := pure_inv h
   rcases ha with ha | ha
   case inr => exact ha.elim
   obtain ⟨base, cap, rfl, _⟩ := seen_cap (RepB.seen I ha)
   exact ⟨rfl, key (by simpa using hnm) rfl rfl⟩
  ·split at h
   ·exact (bad_inv h).elim
   rename_i hnm
   obtain ⟨rfl, rfl, rfl⟩ := pure_inv h
   rcases ha with ha | ha
   case inr => exact ha.elim
   obtain ⟨base, cap, rfl, _⟩ := seen_cap (RepF.seen I ha)
   exact ⟨rfl, key (by simpa using hnm) rfl rfl⟩
  ·exact (bad_inv h).elim
 split at h
 ·rename_i s
  obtain ⟨rfl, hA⟩ := noMax_bind h
  obtain ⟨m, cs1, hm, hbm, hB, hcs1⟩ := bound_bind I hA hcs (Nat.le_refl _)
  obtain ⟨l, cs2, hl, hbl, hC, hcs2⟩ := bound_bind I hB hcs1 (Nat.zero_le _)
  obtain ⟨rfl, rfl, rfl⟩ := pure_inv hC
  obtain rfl := lit_c ha
  rcases kIf_ok hk with ⟨e, m', _, _, hx⟩ | ⟨hu, _⟩
  ·cases hx
  ·refine ⟨rfl, _, ?_, fun r => str_any r⟩
   simp only [Instr.sliceAt, Instr.slice, Sem.run_bind, run_underlying hu, Result.andThen_ok, Option.map_none, Option.isSome_none, Bool.false_eq_true, if_false, run_bounds hbm hbl hl hm, Sem.run_pure]
 ·rename_i k l k' n
  obtain ⟨rfl, hA⟩ := noMax_bind h
  obtain ⟨rfl, hA'⟩ := sameK_bind hA
  obtain ⟨m, cs1, hm, hbm, hB, hcs1⟩ := bound_bind I hA' hcs (Nat.le_refl _)
  obtain ⟨a, cs2, hl, hbl, hC, hcs2⟩ := bound_bind I hB hcs1 (Nat.zero_le _)
  obtain ⟨rfl, rfl, rfl⟩ := pure_inv hC
  rcases kIf_ok hk with ⟨e, m', hu, hsz, hx⟩ | ⟨_, hx⟩
  case inr => cases hx
  cases hx
  obtain ⟨ts, rows, h1, h2, h3, hnm⟩ := rep_E ha (.inl ⟨_, _, _, rfl⟩)
  obtain ⟨base, cap, rfl, hcap⟩ := seen_cap (h1.rows I hnm)
  subst h2
  refine ⟨rfl, _, run_sub hu hsz hbm hbl hl (by omega), fun r => .inr ⟨ts, rows, _, h1, by omega, ?_, h3, hnm⟩⟩
  rw [h3]
  exact sub_of hl hm hcap
 ·rename_i k l k' off len
  obtain ⟨rfl, hA⟩ := noMax_bind h
  obtain ⟨rfl, hA'⟩ := sameK_bind hA
  obtain ⟨m, cs1, hm, hbm, hB, hcs1⟩ := bound_bind I hA' hcs (Nat.le_refl _)
  obtain ⟨a, cs2, hl, hbl, hC, hcs2⟩ := bound_bind I hB hcs1 (Nat.zero_le _)
  obtain ⟨rfl, rfl, rfl⟩ := pure_inv hC
  rcases kIf_ok hk with ⟨e, m', hu, hsz, hx⟩ | ⟨_, hx⟩
  case inr => cases hx
  cases hx
  obtain ⟨ts, rows, c', h1, h2, h3, h4, hnm⟩ := rep_E ha (.inr (.inl ⟨_, _, _, _, rfl⟩))
  have hsn : Seen hz w ts _ c := Seen.part (h1.rows I hnm) h2 h3
  obtain ⟨base, cap, rfl, hcap⟩ := seen_cap hsn
  have hlen := part_len h2
  rw [hlen] at hcap h3 ⊢
  refine ⟨rfl, _, run_sub hu hsz hbm hbl hl (by omega), fun r => .inr ⟨ts, rows, c', h1, by omega, ?_, h4, hnm⟩⟩
  subst h4
  exact h3.trans hl hm hcap
 ·rename_i k ts rows
  obtain ⟨rfl, hA⟩ := noMax_bind h
  obtain ⟨rfl, hA'⟩ := sameK_bind hA
  obtain ⟨m, cs1, hm, hbm, hB, hcs1⟩ := bound_bind I hA' hcs (Nat.le_refl _)
  obtain ⟨a, cs2, hl, hbl, hC, hcs2⟩ := bound_bind I hB hcs1 (Nat.zero_le _)
  obtain ⟨rfl, rfl, rfl⟩ := pure_inv hC
  rcases kIf_ok hk with ⟨e, m', hu, hsz, hx⟩ | ⟨_, hx⟩
  case inr => cases hx
  cases hx
  rcases ha with ha | ha
  case inr => exact ha.elim
  obtain ⟨base, cap, rfl, hcap⟩ := seen_cap (RepF.seen I ha)
  exact ⟨rfl, _, run_sub hu hsz hbm hbl hl (by omega), fun r => .inl (RepF.part ha (by omega) (sub_of hl hm hcap))⟩
 ·rename_i k ts rows
  obtain ⟨rfl, hA⟩ := noMax_bind h
  obtain ⟨rfl, hA'⟩ := sameK_bind hA
  obtain ⟨m, cs1, hm, hbm, hB, hcs1⟩ := bound_bind I hA' hcs (Nat.le_refl _)
  obtain ⟨a, cs2, hl, hbl, hC, hcs2⟩ := bound_bind I hB hcs1 (Nat.zero_le _)
  obtain ⟨rfl, rfl, rfl⟩ := pure_inv hC
  rcases kIf_ok hk with ⟨e, m', hu, hsz, hx⟩ | ⟨_, hx⟩
  case inr => cases hx
  cases hx
  rcases ha with ha | ha
  case inr => exact ha.elim
  obtain ⟨base, cap, rfl, hcap⟩ := seen_cap (RepB.seen I ha)
  exact ⟨rfl, _, run_sub hu hsz hbm hbl hl (by omega), fun r => .inl (RepB.part ha (by omega) (sub_of hl hm hcap))⟩
 ·exact (bad_inv h).elim
theorem op_slice (I : Inv A hz hb O env tm w) (hd : ∀ d, o.dst = some d → d < env.length) {t : TypeId} {x : Operand} {lo hi mx : Option Operand} (ho : o.op = .slice t x lo hi mx) (h : opM P H me o env = some (cs, us, u))
  (hcs : ∀ b ∈ cs, b = true) : Done A hz hb (applyU us env) tm w o.dst ((execOp (evO tm) o).run P w) := by
 unfold opM at h
 rw [ho] at h
 obtain ⟨k, h1, hA⟩ := opt_bind h
 obtain ⟨a, h2, hB⟩ := rd_bind hA
 obtain ⟨c1, u1, v, c2, u2, h3, hC, rfl, rfl⟩ := bind_inv hB
 clear h hA hB
 obtain ⟨_, _, p, h4, _⟩ := rd_ok I h2
 obtain ⟨rfl, c', hrun, hv⟩ := sliceV_ok I h1 h3 (fun b hb => hcs b (List.mem_append_left _ hb)) h4
 refine fin_light I hC hd hv ?_
 simp only [execOp, ho]
 rw [Sem.run_bind, hrun]
 rfl
end
end Go.Abs
end
section
set_option linter.unusedVariables false
set_option linter.unusedSimpArgs false
set_option linter.unusedSectionVars false
namespace Go.Abs
open Go
variable [Globs]
section
variable {A : Nat → Prop} {hz hb : GH} {O : OM} {env : Env} {tm : Nat → Value} {w : World} {P : Program} {H : Hints} {me : FuncId} {o : Oper} {cs : List Bool} {us : List Upd} {u : Unit}

/-! ### freezing what is in hand -/
theorem Pass.refl (env : Env) (tm : Nat → Value) (w : World) (l : Loc) : Pass env tm w env tm w l :=
 ⟨fun ts rows _ h => ⟨ts, rows, h, Like.refl _, fun _ => rfl⟩, fun _ row h => ⟨row, h, rfl, rfl⟩, fun _ f caps h => ⟨f, caps, h, rfl⟩⟩
theorem freeze_hand (I : Inv A hz hb O env tm w) {t : Nat} (ht : getS env t = .undef) {r : List Nat} {ts : List LT} {rows : Rows} {c : Value} (h : Own hz O w (t :: r) ts rows c) (hnm : isMp ts = false) :
  ∃ hz' hb' O', FzExt A hz hb hz' hb' ∧ Inv A hz' hb' O' env tm w ∧ RepF hz' (.lst ts rows) c ∧ ∀ s, (∀ q, t :: r ≠ s ++ q) → Keeps hz hb O w hz' hb' O' w s := by
 obtain ⟨hty, a, cap, rfl, hcap, hd⟩ := h.lst hnm
 rcases hd with h0 | ⟨blk, off, arr, ty, fr, rfl, hO, hw, hfr, hsz, hc⟩
 ·have hr0 : rows = [] := List.eq_nil_of_length_eq_zero (by omega)
  subst hr0
  exact ⟨hz, hb, O, FzExt.refl _ _ _, I, .nil _ _ _, fun s _ => Keeps.refl _ _ _ _ _⟩
 ·obtain ⟨hA, hbn, hlt⟩ := I.owned _ _ hO
  have hzn : hz blk = none := by
   cases hx : hz blk with
   | none => rfl
   | some o => rw [I.sub _ _ hx] at hbn; cases hbn
  let hz' : GH := fun b => if b = blk then some (.cells arr ty fr) else hz b
  let hb' : GH := fun b => if b = blk then some (.cells arr ty fr) else hb b
  let O' : OM := fun b => if b = blk then none else O b
  have lez : hz.le hz' := fun b o e => by
   by_cases hb : b = blk
   ·subst hb; rw [hzn] at e; cases e
   ·simp only [hz', hb, if_false]; exact e
  have leb : hb.le hb' := fun b o e => by
   by_cases hb : b = blk
   ·subst hb; rw [hbn] at e; cases e
   ·simp only [hb', hb, if_false]; exact e
  have kp : ∀ s, (∀ q, t :: r ≠ s ++ q) → Keeps hz hb O w hz' hb' O' w s := fun p hp => ⟨lez, leb, fun b q e => by
   have : b ≠ blk := by rintro rfl; rw [hO] at e; exact hp q (Option.some.inj e)
   exact ⟨by simp only [O', this, if_false]; exact e, rfl⟩⟩
  refine ⟨hz', hb', O', ⟨lez, leb, fun b o e => ?_, fun b o e => (by
   by_cases hb : b = blk
   ·subst hb; exact .inr hA
   ·simp only [hz', hb, if_false] at e; exact .inl e)⟩, ⟨?_, ?_, ?_, I.fresh, I.glob.mono lez, ?_⟩, ?_, kp⟩
  ·by_cases hb : b = blk
   ·subst hb; right; simp only [hb', if_true] at e; exact ⟨hA, by simp only [hz', if_true]; exact e⟩
   ·simp only [hb', hb, if_false] at e; exact .inl e
  ·intro b o e
   by_cases hb : b = blk
   ·simp only [hz', hb, if_true] at e; simp only [hb', hb, if_true]; exact e
   ·simp only [hz', hb, if_false] at e; simp only [hb', hb, if_false]; exact I.sub _ _ e
  ·intro b o e
   by_cases hb : b = blk
   ·simp only [hb', hb, if_true] at e; rw [hb, hw]; exact e
   ·simp only [hb', hb, if_false] at e; exact I.agree _ _ e
  ·intro b p e
   by_cases hb : b = blk
   ·simp only [O', hb, if_true] at e; cases e
   ·simp only [O', hb, if_false] at e
    simp only [hb', hb, if_false]
    exact I.owned _ _ e
  ·intro s
   by_cases hs : s = t
   ·subst hs; rw [ht]; exact .inl trivial
   ·exact (I.rep s).keep (kp _ fun q e => hs (by simp at e; exact e.1.symm)) fun l _ => Pass.refl _ _ _ _
  ·refine .lst (arr := arr) (t := ty) (fr := fr) (by simp [hz']) hcap ?_ hty fun i j row x h1 h2 => (hc i j row x h1 h2).mono lez
   exact Nat.le_trans (Nat.add_le_add_left (Nat.mul_le_mul_right _ hcap) _) hsz
/-- - -/
theorem freeze_leaves {t : Nat} : ∀ {xs : List V} {k : Nat} {hz hb : GH} {O : OM} (_ : Inv A hz hb O env tm w) (_ : getS env t = .undef) {g : Nat → Value}
  (_ : ∀ j v, xs[j]? = some v → RepA hz hb O env tm w [t, k + j] v (g (k + j))),
  ∃ hz' hb' O', FzExt A hz hb hz' hb' ∧ Inv A hz' hb' O' env tm w ∧ (∀ s, (∀ i, k ≤ i → ∀ q, [t, i] ≠ s ++ q) → Keeps hz hb O w hz' hb' O' w s) ∧
   ∀ j v, (xs.map fzLeaf)[j]? = some v → light v = true ∧ ∀ p, RepA hz' hb' O' env tm w p v (g (k + j))
 | [], k, hz, hb, O, I, ht, g, hx => ⟨hz, hb, O, FzExt.refl _ _ _, I, fun s _ => Keeps.refl _ _ _ _ _, fun j v e => by simp at e⟩
 | x :: xs, k, hz, hb, O, I, ht, g, hx => by
  have h0 := hx 0 x rfl
  have hlight : ∃ hz' hb' O', FzExt A hz hb hz' hb' ∧ Inv A hz' hb' O' env tm w ∧ (∀ s, (∀ q, [t, k] ≠ s ++ q) → Keeps hz hb O w hz' hb' O' w s) ∧ light (fzLeaf x) = true ∧
    ∀ p, RepA hz' hb' O' env tm w p (fzLeaf x) (g k) := by
   rcases h0 with h0 | h0
   ·cases x
    case own ts rows =>
     simp only [fzLeaf]
     cases hnm : isMp ts with
     | true => exact ⟨hz, hb, O, FzExt.refl _ _ _, I, fun s _ => Keeps.refl _ _ _ _ _, rfl, fun p => .inl trivial⟩
     | false =>
      obtain ⟨hz', hb', O', e, I', hr, hk⟩ := freeze_hand I ht (r := [k]) h0 hnm
      exact ⟨hz', hb', O', e, I', hk, rfl, fun p => .inl hr⟩
    case f y => exact ⟨hz, hb, O, FzExt.refl _ _ _, I, fun s _ => Keeps.refl _ _ _ _ _, rfl, fun p => .inl h0⟩
    case bor ts rows => exact ⟨hz, hb, O, FzExt.refl _ _ _, I, fun s _ => Keeps.refl _ _ _ _ _, rfl, fun p => .inl h0⟩
    case undef => exact ⟨hz, hb, O, FzExt.refl _ _ _, I, fun s _ => Keeps.refl _ _ _ _ _, rfl, fun p => .inl trivial⟩
    all_goals exact h0.elim
   ·cases x
    case lent l k n => exact ⟨hz, hb, O, FzExt.refl _ _ _, I, fun s _ => Keeps.refl _ _ _ _ _, rfl, fun p => .inr h0⟩
    case lsub l k a b => exact ⟨hz, hb, O, FzExt.refl _ _ _, I, fun s _ => Keeps.refl _ _ _ _ _, rfl, fun p => .inr h0⟩
    case ref s j => exact ⟨hz, hb, O, FzExt.refl _ _ _, I, fun s _ => Keeps.refl _ _ _ _ _, rfl, fun p => .inr h0⟩
    case eref l i j => exact ⟨hz, hb, O, FzExt.refl _ _ _, I, fun s _ => Keeps.refl _ _ _ _ _, rfl, fun p => .inr h0⟩
    case iref ts rows i j => exact ⟨hz, hb, O, FzExt.refl _ _ _, I, fun s _ => Keeps.refl _ _ _ _ _, rfl, fun p => .inr h0⟩
    case cref s => exact ⟨hz, hb, O, FzExt.refl _ _ _, I, fun s _ => Keeps.refl _ _ _ _ _, rfl, fun p => .inr h0⟩
    case mref l => exact ⟨hz, hb, O, FzExt.refl _ _ _, I, fun s _ => Keeps.refl _ _ _ _ _, rfl, fun p => .inr h0⟩
    case xl l k n => exact ⟨hz, hb, O, FzExt.refl _ _ _, I, fun s _ => Keeps.refl _ _ _ _ _, rfl, fun p => .inr h0⟩
    all_goals exact h0.elim
  obtain ⟨hz1, hb1, O1, e1, I1, k1, hl, hp⟩ := hlight
  obtain ⟨hz2, hb2, O2, e2, I2, k2, hrest⟩ := freeze_leaves (t := t) (xs := xs) (k := k + 1) (g := g) I1 ht (fun j v e => by
   have := hx (j + 1) v (by simpa using e)
   rw [show k + 1 + j = k + (j + 1) by omega]
   exact this.imp (·.keep (k1 _ (by intro q e; simp at e))) (·.pass e1.1 e1.2.1 fun l _ => Pass.refl _ _ _ _))
  refine ⟨hz2, hb2, O2, e1.trans e2, I2, fun s hs2 => (k1 s (hs2 k (Nat.le_refl _))).trans (k2 s (fun i hi => hs2 i (by omega))), fun j v e => ?_⟩
  cases j with
  | zero =>
   simp at e
   subst e
   refine ⟨hl, fun p => ?_⟩
   rcases hp p with h | h
   ·left
    revert h hl
    cases fzLeaf x <;> intro hl h <;> first
     | exact h.elim
     | (simp [light] at hl; done)
     | exact RepF.mono e2.1 h
     | exact RepB.mono e2.1 e2.2.1 h
     | trivial
   ·exact .inr (h.pass e2.1 e2.2.1 fun l _ => Pass.refl _ _ _ _)
  | succ j =>
   have := hrest j v (by simpa using e)
   rw [show k + 1 + j = k + (j + 1) by omega] at this
   exact this
end
end Go.Abs
end
section
set_option linter.unusedVariables false
set_option linter.unusedSimpArgs false
set_option linter.unusedSectionVars false
namespace Go.Abs
open Go
variable [Globs]
section
variable {A : Nat → Prop} {hz hb : GH} {O : OM} {env : Env} {tm : Nat → Value} {w : World} {P : Program} {H : Hints} {me : FuncId} {o : Oper} {cs : List Bool} {us : List Upd} {u : Unit}

/-! ### parts of structs -/
theorem extract_get {cs : Array Value} {off n j : Nat} (h : j < n) (hb : off + n ≤ cs.size) : (cs.extract off (off + n)).getD j undef = cs.getD (off + j) undef := by
 rw [Array.getD_eq_getD_getElem?, Array.getElem?_extract, if_pos (by omega), ← Array.getD_eq_getD_getElem?]
/-- - -/
theorem partV_ok {t : TypeId} {xs : List V} {off : Nat} {v : V} (h : partV P t xs off = some v) {cs : Array Value} (hs : cs.size = xs.length) {p : List Nat}
  (hx : ∀ j v, xs[j]? = some v → RepA hz hb O env tm w (p ++ [j]) v (cs.getD j undef)) (hf : freeV v = true) : ∃ c, (part t cs off).run P w = .ok c w ∧ ∀ q, RepS hz hb O env tm w q v c := by
 unfold partV at h
 split at h
 ·rename_i n hn
  obtain ⟨d, n', hu, hn', hlen, h3⟩ := pack_ok h
  rw [hn] at hn'
  cases hn'
  have hle : n = 0 ∨ off + n ≤ cs.size := by
   simp only [List.length_take, List.length_drop] at hlen
   omega
  have hget : ∀ j y, ((xs.drop off).take n)[j]? = some y → xs[off + j]? = some y ∧ j < n := by
   intro j y e
   rw [List.getElem?_take] at e
   split at e
   ·rw [List.getElem?_drop] at e; exact ⟨e, by assumption⟩
   ·cases e
  rcases h3 with ⟨ha, rfl⟩ | ⟨ha, h0, hv⟩
  ·refine ⟨.agg (cs.extract off (off + n)), ?_, fun q => ?_⟩
   ·simp only [part, Sem.run_bind, run_isAggT hu, ha, Result.andThen_ok, if_true, run_sz hn, Sem.run_pure]
   ·have hno : ((xs.drop off).take n).any hasOwn = false := by simpa [freeV] using hf
    refine ⟨_, rfl, ?_, fun j y e => ?_⟩
    ·simp only [Array.size_extract]
     rw [hlen]
     rcases hle with h | h <;> omega
    ·obtain ⟨e2, hj⟩ := hget j y e
     have := hx _ _ e2
     rw [extract_get hj (by rcases hle with h | h <;> omega)]
     refine this.imp (fun h => RepL.light h (not_own_light h ?_)) id
     have := List.any_eq_false.1 hno y (List.mem_of_getElem? e)
     simpa using this
  ·obtain ⟨e2, hj⟩ := hget 0 v hv
   have := hx _ _ e2
   have hlt : off < cs.size := by rcases hle with h | h <;> omega
   refine ⟨_, run_part hu ha hlt, fun q => ?_⟩
   simp only [Nat.add_zero] at this
   have hl : light v = true := by
    rcases this with h | h
    ·cases v <;> first | exact hf | exact h.elim
    ·cases v <;> first | exact hf | exact h.elim
   exact free_S hf (by
    rcases this with h | h
    ·cases v <;> first | exact .inl h | (simp [light] at hl)
    ·cases v <;> first | exact .inr h | (simp [light] at hl)) (p := p ++ [off])
 ·cases h
theorem field_fin (I : Inv A hz hb O env tm w) (hd : ∀ d, o.dst = some d → d < env.length) {t : TypeId} {x : Operand} {i : Nat} (ho : o.op = .field t x i) {off : Nat} {ft : TypeId} (h1 : fieldOff P t i = some (off, ft))
  {xs : List V} {v : V} (hp : partV P ft xs off = some v) (hf : freeV v = true) {p : List Nat} (hx : RepAggE hz hb O env tm w p xs (evO tm x)) :
  ∃ c, (execOp (evO tm) o).run P w = .ok (.value c) w ∧ ∀ q, RepS hz hb O env tm w q v c := by
 obtain ⟨fs, f, hu, hfs, rfl, rfl⟩ := fieldOff_ok h1
 obtain ⟨vs, hc, hs, hl⟩ := hx
 obtain ⟨c, hrun, hv⟩ := partV_ok hp hs hl hf
 refine ⟨c, ?_, hv⟩
 simp only [execOp, ho, hc, Instr.field, Sem.run_bind, run_underlying hu, Result.andThen_ok, hfs, asAgg, Sem.run_pure, hrun]
theorem op_field (I : Inv A hz hb O env tm w) (hd : ∀ d, o.dst = some d → d < env.length) {t : TypeId} {x : Operand} {i : Nat} (ho : o.op = .field t x i) (h : opM P H me o env = some (cs, us, u)) :
  Done A hz hb (applyU us env) tm w o.dst ((execOp (evO tm) o).run P w) := by
 unfold opM at h
 rw [ho] at h
 obtain ⟨⟨off, ft⟩, h1, hA⟩ := opt_bind h
 obtain ⟨y, h2, hB⟩ := raw_bind hA
 clear h hA
 obtain ⟨_, _, hyu, hy⟩ := raw_ok I h2
 have simple : ∀ {xs : List V} {p : List Nat} {v : V} {cs : List Bool} {us : List Upd} {u : Unit}, RepAggE hz hb O env tm w p xs (evO tm x) → partV P ft xs off = some v →
   (bif freeV v then putD o.dst v else bad "field" : M Unit) env = some (cs, us, u) → Done A hz hb (applyU us env) tm w o.dst ((execOp (evO tm) o).run P w) := by
  intro xs p v cs us u hx hp hC
  rcases bif_inv hC with ⟨hf, hC⟩ | ⟨_, hC⟩
  ·obtain ⟨c, hrun, hv⟩ := field_fin I hd ho h1 hp hf hx
   exact fin_light I hC hd hv hrun
  ·exact (bad_inv hC).elim
 rcases hy with ⟨t', rfl, rfl, htl, hr⟩ | ⟨hx, hr, hk⟩
 ·cases hg : getS env t' with
  | agg xs =>
   rw [hg] at hB hr
   simp only at hB
   obtain ⟨c3, u3, a3, c4, u4, h5, h4, rfl, rfl⟩ := bind_inv hB
   rcases bif_inv h5 with ⟨hb', h5⟩ | ⟨hb', h5⟩
   ·have h5' := h5
    obtain ⟨rfl, S, hu⟩ := goneSlot_ok I h5 htl
    obtain ⟨_, rfl⟩ := upd_inv h5'
    obtain ⟨v, hp, hC⟩ := opt_bind h4
    have hlen : (applyU [.kill (.slot t'), .set t' .undef] env).length = env.length := by simp [applyU, apply1]
    have hE : RepAggE hz hb O (applyU [.kill (.slot t'), .set t' .undef] env) tm w [t'] xs (evO tm (.tmp t')) := by
     obtain ⟨vs, hvs, hsz, hlv⟩ := hr
     refine ⟨vs, hvs, hsz, fun j v e => (hlv j v e).imp id fun h => h.pass (GH.le_refl _) (GH.le_refl _) fun l hl => Pass.left fun e2 => ?_⟩
     rcases h.target hl with ⟨_, _, h3⟩ | ⟨_, h3⟩ | ⟨_, h3⟩ | ⟨_, h3⟩ | ⟨_, _, h3⟩ <;> rw [e2, hg] at h3 <;> cases h3
    obtain ⟨vs, hvs, hsz, hlv⟩ := hE
    obtain ⟨hz', hb', O', e, I', _, hlf⟩ := freeze_leaves (t := t') (k := 0) (g := fun j => vs.getD j undef) S.inv hu (fun j v e => by simpa using hlv j v e)
    rcases bif_inv hC with ⟨hf, hC⟩ | ⟨_, hC⟩
    ·obtain ⟨c, hrun, hv⟩ := field_fin (xs := xs.map fzLeaf) (p := []) I' (by rw [hlen]; exact hd) ho h1 hp hf ⟨vs, hvs, by simpa using hsz, fun j v e => by
      have := (hlf j v e).2 ([] ++ [j])
      simpa using this⟩
     have hD := (done_put (w := w) I' e (Side.refl _) hrun hC (by rw [hlen]; exact hd) (Nat.le_refl _) (hv _)).2
     rw [applyU_append]
     exact hD
    ·exact (bad_inv hC).elim
   ·obtain ⟨rfl, rfl, _⟩ := pure_inv h5
    obtain ⟨v, hp, hC⟩ := opt_bind h4
    have hmap : xs.map fzLeaf = xs := by
     conv => rhs; rw [← List.map_id xs]
     refine List.map_congr_left fun y hy => ?_
     have := List.any_eq_false.1 hb' y hy
     cases y <;> first | rfl | (simp [hasOwn] at this)
    rw [hmap] at hp
    exact simple hr hp hC
  | _ => rw [hg] at hB; exact (bad_inv hB).elim
 ·rcases hk with ⟨c, rfl, hc, rfl⟩ | ⟨vs, rfl, rfl⟩ | ⟨f, rfl, rfl⟩ | ⟨g, ts, rows, rfl, rfl⟩
  ·exact (bad_inv hB).elim
  ·obtain ⟨v, hp, hC⟩ := opt_bind hB
   exact simple (hr []) hp hC
  ·exact (bad_inv hB).elim
  ·exact (bad_inv hB).elim
theorem op_index (I : Inv A hz hb O env tm w) (hd : ∀ d, o.dst = some d → d < env.length) {t : TypeId} {x i : Operand} (ho : o.op = .index t x i) (h : opM P H me o env = some (cs, us, u))
  (hcs : ∀ b ∈ cs, b = true) : Done A hz hb (applyU us env) tm w o.dst ((execOp (evO tm) o).run P w) := by
 unfold opM at h
 rw [ho] at h
 obtain ⟨a, h1, hA⟩ := rd_bind h
 obtain ⟨iv, h2, hB⟩ := raw_bind hA
 obtain ⟨c1, u1, v, c2, u2, h3, hC, rfl, rfl⟩ := bind_inv hB
 clear h hA hB
 obtain ⟨_, _, p, h4, _⟩ := rd_ok I h1
 obtain ⟨n, hn, hD⟩ := opt_bind h3
 obtain ⟨kd, hki⟩ := rawI (I := I) h2 hn
 have ofDec : ∀ {p : Prop} [Decidable p], decide p ∈ c1 ++ c2 → p := fun hm => of_decide_eq_true (hcs _ hm)
 have str : ∀ s : ByteArray, und P t = some .string → a = .f (.lit (.string s)) → (do
   chk (decide (0 ≤ n ∧ n < s.size))
   pure (vInt .u8 ((s.data.getD n.toNat 0).toNat)) : M V) env = some (c1, u1, v) → Done A hz hb (applyU (u1 ++ u2) env) tm w o.dst ((execOp (evO tm) o).run P w) := by
  intro s hu hta hD
  obtain ⟨cs', rfl, hE⟩ := chk_bind hD
  obtain ⟨rfl, rfl, rfl⟩ := pure_inv hE
  have hr : 0 ≤ n ∧ n < s.size := ofDec (by simp)
  subst hta
  have e := lit_c h4
  rcases bif_inv hC with ⟨hf, hC⟩ | ⟨_, hC⟩
  ·refine fin_light I hC hd (fun p => lit_any p) ?_
   have hu' : P.underlying t = some .string := hu
   have hget : s[n.toNat]? = some (s.data.getD n.toNat 0) := by
    have hlt : n.toNat < s.data.size := by have : s.data.size = s.size := rfl; omega
    rw [getElem?_pos s n.toNat (by show n.toNat < s.size; omega)]
    have : s.data.getD n.toNat 0 = s.data[n.toNat] := by rw [Array.getD_eq_getD_getElem?, Array.getElem?_eq_getElem hlt]; rfl
    rw [this]
    rfl
   simp only [execOp, ho, e, hki, Instr.index, asIntOf, Sem.run_bind, Sem.run_pure, Result.andThen_ok, run_underlying hu', hr.1, if_true, hget]
  ·exact (bad_inv hC).elim
 have arr : ∀ (len : Nat) (el : TypeId) (xs : List V), und P t = some (.array len el) → a = .agg xs → (do
   let k ← opt (sz P el)
   chk (decide (0 ≤ n ∧ n < len))
   opt (partV P el xs (n.toNat * k)) : M V) env = some (c1, u1, v) → Done A hz hb (applyU (u1 ++ u2) env) tm w o.dst ((execOp (evO tm) o).run P w) := by
  intro len el xs hu hta hD
  obtain ⟨k, hk, hE⟩ := opt_bind hD
  obtain ⟨cs', rfl, hF⟩ := chk_bind hE
  obtain ⟨rfl, rfl, hp⟩ := opt_inv hF
  have hr : 0 ≤ n ∧ n < len := ofDec (by simp)
  subst hta
  rcases bif_inv hC with ⟨hf, hC⟩ | ⟨_, hC⟩
  ·obtain ⟨vs, hc, hs, hl⟩ := h4
   obtain ⟨c, hrun, hv⟩ := partV_ok hp hs hl hf
   refine fin_light I hC hd hv ?_
   have hu' : P.underlying t = some (.array len el) := hu
   simp only [execOp, ho, hc, hki, Instr.index, asIntOf, Sem.run_bind, Sem.run_pure, Result.andThen_ok, run_underlying hu', hr, and_self, if_true, run_sz hk, hrun]
  ·exact (bad_inv hC).elim
 cases hu : und P t with
 | none => rw [hu] at hD; exact (bad_inv hD).elim
 | some d =>
  rw [hu] at hD
  cases d with
  | string =>
   cases a with
   | f y =>
    cases y with
    | lit y => cases y <;> first | exact str _ hu rfl hD | exact (bad_inv hD).elim
    | lst _ _ => exact (bad_inv hD).elim
   | _ => exact (bad_inv hD).elim
  | array len el => cases a <;> first | exact arr _ _ _ hu rfl hD | exact (bad_inv hD).elim
  | _ => exact (bad_inv hD).elim
end
end Go.Abs
end
section
set_option linter.unusedVariables false
set_option linter.unusedSimpArgs false
set_option linter.unusedSectionVars false
namespace Go.Abs
open Go
variable [Globs]
section
variable {A : Nat → Prop} {hz hb : GH} {O : OM} {env : Env} {tm : Nat → Value} {w : World} {P : Program} {H : Hints} {me : FuncId} {o : Oper} {cs : List Bool} {us : List Upd} {u : Unit}

theorem run_builtin {c : Call} {b : Builtin} (ho : o.op = .call c) (hc : c.callee = .builtin b) {v : Value} {w' : World}
  (h : (builtin b c.argTypes o.type (c.args.map fun | .const _ => true | _ => false) (c.args.map (evO tm))).run P w = .ok (.value v) w') : (execOp (evO tm) o).run P w = .ok (.value v) w' := by
 simp only [execOp, ho, resolve, hc, invoke, Sem.run_bind, Sem.run_pure, Result.andThen_ok]
 exact h
/-- - -/
theorem mapAtM_ok (I : Inv A hz hb O env tm w) {mts : List LT} {m : V} {l : Loc} {rows : Rows} (h : mapAtM mts m env = some (cs, us, (l, rows))) (hm : isMap mts = true) {c : Value} {p : List Nat} (hv : RepS hz hb O env tm w p m c) :
  cs = [] ∧ us = [] ∧ getLoc env l = .own mts rows ∧ LocIs env tm w l (.own mts rows) c ∧ OwnM hz O w (locPath l) mts rows c := by
 unfold mapAtM at h
 split at h
 ·rename_i l'
  obtain ⟨c1, u1, x, c2, u2, h1, h2, rfl, rfl⟩ := bind_inv h
  obtain ⟨rfl, rfl, hx, _⟩ := locM_inv h1
  split at h2
  ·rename_i ts' rows'
   split at h2
   ·rename_i he
    obtain rfl := eqTs_eq he
    obtain ⟨rfl, rfl, e⟩ := pure_inv h2
    simp only [Prod.mk.injEq] at e
    obtain ⟨rfl, rfl⟩ := e
    obtain ⟨c', hl, ho⟩ := I.own_at hx
    rcases hv with hv | ⟨ts, rows, hv, _⟩
    ·exact hv.elim
    ·obtain ⟨v, h3, h4⟩ := hv
     obtain ⟨rfl, rfl⟩ := hl.det h3
     exact ⟨rfl, rfl, hx, hl, ho.map hm⟩
   ·exact (bad_inv (α := Loc × Rows) (env := env) h2).elim
  ·exact (bad_inv (α := Loc × Rows) (env := env) h2).elim
 ·exact (bad_inv h).elim
theorem mapTs_ok {t : TypeId} {mts ts : List LT} (h : mapTs P t = some (mts, ts)) : ∃ k e kt, P.underlying t = some (.map k e) ∧ mts = .mp (isAggT P e) :: kt :: ts ∧ ts = lty P 20 e ∧ sz P k = some 1 ∧ sz P e = some ts.length ∧ (zeroRow P e).isSome ∧
  mapTs.keyD (und P k) = true ∧ lty P 20 k = [kt] ∧ (isAggT P e = true ∨ ts.length = 1) ∧ zeroAgg P e = isAggT P e := by
 unfold mapTs at h
 split at h
 ·rename_i k e hu
  split at h
  ·rename_i kt hk
   split at h
   ·rename_i hc
    simp only [Option.some.injEq, Prod.mk.injEq] at h
    obtain ⟨rfl, rfl⟩ := h
    simp only [Bool.and_eq_true, beq_iff_eq, Bool.or_eq_true] at hc
    exact ⟨k, e, kt, hu, rfl, rfl, hc.1.1.1.1.1, hc.1.1.1.1.2, hc.1.1.1.2, hc.1.1.2, hk, hc.1.2, hc.2⟩
   ·cases h
  ·cases h
 ·cases h
theorem op_lenMap (I : Inv A hz hb O env tm w) (hd : ∀ d, o.dst = some d → d < env.length) {c : Call} {t : TypeId} {x : Operand} (ho : o.op = .call c) (hc : c.callee = .builtin .len) (hx : c.args.toList = [x])
  (h1 : c.argTypes[0]? = some t) (h : lenMap P t o.dst x env = some (cs, us, u)) : Done A hz hb (applyU us env) tm w o.dst ((execOp (evO tm) o).run P w) := by
 obtain ⟨⟨mts, ts⟩, h2, hA⟩ := opt_bind h
 obtain ⟨a, h3, hB⟩ := rd_bind hA
 obtain ⟨c1, u1, ⟨l, rows⟩, c2, u2, h4, hC, rfl, rfl⟩ := bind_inv hB
 obtain ⟨_, _, p, h5, _⟩ := rd_ok I h3
 obtain ⟨k, e, kt, hu, rfl, _⟩ := mapTs_ok h2
 obtain ⟨rfl, rfl, _, _, ag, ks, blk, es, _, hcv, _, hw, hsz, _⟩ := mapAtM_ok I h4 rfl h5
 refine fin_light I hC hd (fun p => lit_any p) (run_builtin ho hc ?_)
 have ha : c.args = #[x] := by rw [← Array.toList_inj]; simpa using hx
 have h3 : (#[x].map (evO tm))[0]? = some (evO tm x) := by simp
 simp only [builtin, ha, Builtin.len_, h1, h3, Sem.run_bind, run_underlying hu, Result.andThen_ok, hcv, Sem.run_pure]
 simp [MapKept.run_getObj_map hw, Result.andThen, goInt, hsz]
theorem lenV_ok (I : Inv A hz hb O env tm w) {t ty : TypeId} {k : Option Nat} {a : V} {n : Int} (hk : kIfSlice P t = some k) (h : lenV k a env = some (cs, us, n)) {p : List Nat} {c : Value} (ha : RepS hz hb O env tm w p a c) :
  cs = [] ∧ us = [] ∧ (Builtin.len_ #[t] ty #[c]).run P w = .ok (.int .i64 n) w := by
 have sl : ∀ {a : Option Addr} {n cap : Nat}, (∃ m, k = some m) → c = .slice a n cap → (Builtin.len_ #[t] ty #[c]).run P w = .ok (.int .i64 n) w := by
  rintro a n cap ⟨m, rfl⟩ rfl
  rcases kIf_ok hk with ⟨e, m', hu, _, _⟩ | ⟨_, hx⟩
  ·simp [Builtin.len_, Sem.run_bind, run_underlying hu, goInt]
  ·cases hx
 have vw : ∀ {m : Nat} {cs : List Bool} {us : List Upd} {n : Int}, k = some m → (do let (_, rows) ← viewM a; pure (rows.length : Int) : M Int) env = some (cs, us, n) →
   cs = [] ∧ us = [] ∧ (Builtin.len_ #[t] ty #[c]).run P w = .ok (.int .i64 n) w := by
  intro m cs us n hm h
  obtain ⟨c1, u1, ⟨ts, rows⟩, c2, u2, h1, h2, rfl, rfl⟩ := bind_inv h
  obtain ⟨rfl, rfl, hs⟩ := viewM_ok I h1 ha
  obtain ⟨rfl, rfl, rfl⟩ := pure_inv h2
  obtain ⟨b, cap, e, _⟩ := hs
  exact ⟨rfl, rfl, sl ⟨m, hm⟩ e⟩
 unfold lenV at h
 split at h
 ·obtain ⟨rfl, rfl, rfl⟩ := pure_inv h
  obtain rfl := lit_c ha
  rcases kIf_ok hk with ⟨e, m', _, _, hx⟩ | ⟨hu, _⟩
  ·cases hx
  ·exact ⟨rfl, rfl, by simp [Builtin.len_, Sem.run_bind, run_underlying hu, goInt]⟩
 ·obtain ⟨rfl, rfl, rfl⟩ := pure_inv h
  obtain ⟨ts, rows, h1, rfl, h3, hnm⟩ := rep_E ha (.inl ⟨_, _, _, rfl⟩)
  obtain ⟨b, cap, e, _⟩ := h1.rows I hnm
  exact ⟨rfl, rfl, sl ⟨_, rfl⟩ e⟩
 ·obtain ⟨rfl, rfl, rfl⟩ := pure_inv h
  rcases ha with ha | ha
  case inl => exact ha.elim
  obtain ⟨ts, rows, h1, rfl, h3, hnx⟩ := ha
  obtain ⟨b, cap, e, _⟩ := h1.rowsK I (nx_mp hnx).2
  exact ⟨rfl, rfl, sl ⟨_, rfl⟩ e⟩
 ·obtain ⟨rfl, rfl, rfl⟩ := pure_inv h
  obtain ⟨ts, rows, c', h1, h2, h3, h4⟩ := rep_E ha (.inr (.inl ⟨_, _, _, _, rfl⟩))
  obtain ⟨a, n, cap, b, _, _, e, _⟩ := h3
  exact ⟨rfl, rfl, sl ⟨_, rfl⟩ e⟩
 ·exact vw rfl h
 ·exact (bad_inv h).elim
theorem op_len (I : Inv A hz hb O env tm w) (hd : ∀ d, o.dst = some d → d < env.length) {c : Call} {x : Operand} (ho : o.op = .call c) (hc : c.callee = .builtin .len) (hx : c.args.toList = [x])
  (h : builtinV P c o.dst .len [x] env = some (cs, us, u)) : Done A hz hb (applyU us env) tm w o.dst ((execOp (evO tm) o).run P w) := by
 obtain ⟨t, h1, hA⟩ := opt_bind h
 rcases bif_inv hA with ⟨_, hA⟩ | ⟨_, hA⟩
 ·exact op_lenMap I hd ho hc hx h1 hA
 obtain ⟨k, h2, hB⟩ := opt_bind hA
 obtain ⟨a, h3, hC⟩ := rd_bind hB
 obtain ⟨c1, u1, n, c2, u2, h4, hD, rfl, rfl⟩ := bind_inv hC
 clear h hA hB hC
 obtain ⟨_, _, p, h5, _⟩ := rd_ok I h3
 obtain ⟨rfl, rfl, hrun⟩ := lenV_ok (ty := o.type) I h2 h4 h5
 refine fin_light I hD hd (fun p => lit_any p) (run_builtin ho hc ?_)
 have ha : c.args = #[x] := by rw [← Array.toList_inj]; simpa using hx
 have ht : c.argTypes[0]? = some t := h1
 have h0 : #[t][0]? = some t := rfl
 simp only [builtin, ha, Sem.run_bind]
 have : (Builtin.len_ c.argTypes o.type (#[x].map (evO tm))).run P w = .ok (.int .i64 n) w := by
  rw [← hrun]
  have h3 : (#[x].map (evO tm))[0]? = some (evO tm x) := by simp
  have h4 : #[evO tm x][0]? = some (evO tm x) := rfl
  simp only [Builtin.len_, ht, h0, h3, h4]
 rw [this]
 rfl
theorem minI_ok {k : IntKind} : ∀ {m : Int} {vs : List V} {v : V} {cs : List Value}, minI k m vs = some v → vs.length = cs.length → (∀ (j : Nat) (x : V) (c : Value), vs[j]? = some x → cs[j]? = some c → ∀ y, x = V.f (.lit y) → c = y) →
  ∃ r, (cs.foldlM Builtin.min2 (.int k m)).run P w = .ok r w ∧ v = .f (.lit r)
 | m, [], v, cs, h, hl, _ => by
  cases cs with
  | nil => simp only [minI, Option.some.injEq] at h; exact ⟨_, rfl, h.symm⟩
  | cons c cs => simp at hl
 | m, x :: vs, v, cs, h, hl, hx => by
  cases cs with
  | nil => simp at hl
  | cons c cs =>
   have hlit : ∃ k' y, x = .f (.lit (.int k' y)) ∧ minI k (if y < m then y else m) vs = some v := by
    unfold minI at h
    split at h
    all_goals first | cases h | skip
    ·simp_all
    ·rename_i hh
     simp only [List.cons.injEq] at hh
     obtain ⟨rfl, rfl⟩ := hh
     exact ⟨_, _, rfl, h⟩
   obtain ⟨k', y, rfl, hM⟩ := hlit
   clear h
   have hc := hx 0 _ c rfl rfl _ rfl
   subst hc
   obtain ⟨r, hr, e⟩ := minI_ok (cs := cs) hM (by simpa using hl) (fun j x c h1 h2 => hx (j + 1) x c (by simpa using h1) (by simpa using h2))
   refine ⟨r, ?_, e⟩
   simp only [List.foldlM_cons, Builtin.min2, Sem.run_bind, Sem.run_pure, Result.andThen_ok]
   exact hr
theorem maxI_ok {k : IntKind} : ∀ {m : Int} {vs : List V} {v : V} {cs : List Value}, maxI k m vs = some v → vs.length = cs.length → (∀ (j : Nat) (x : V) (c : Value), vs[j]? = some x → cs[j]? = some c → ∀ y, x = V.f (.lit y) → c = y) →
  ∃ r, (cs.foldlM Builtin.max2 (.int k m)).run P w = .ok r w ∧ v = .f (.lit r)
 | m, [], v, cs, h, hl, _ => by
  cases cs with
  | nil => simp only [maxI, Option.some.injEq] at h; exact ⟨_, rfl, h.symm⟩
  | cons c cs => simp at hl
 | m, x :: vs, v, cs, h, hl, hx => by
  cases cs with
  | nil => simp at hl
  | cons c cs =>
   have hlit : ∃ k' y, x = .f (.lit (.int k' y)) ∧ maxI k (if y > m then y else m) vs = some v := by
    unfold maxI at h
    split at h
    all_goals first | cases h | skip
    ·simp_all
    ·rename_i hh
     simp only [List.cons.injEq] at hh
     obtain ⟨rfl, rfl⟩ := hh
     exact ⟨_, _, rfl, h⟩
   obtain ⟨k', y, rfl, hM⟩ := hlit
   clear h
   have hc := hx 0 _ c rfl rfl _ rfl
   subst hc
   obtain ⟨r, hr, e⟩ := maxI_ok (cs := cs) hM (by simpa using hl) (fun j x c h1 h2 => hx (j + 1) x c (by simpa using h1) (by simpa using h2))
   refine ⟨r, ?_, e⟩
   simp only [List.foldlM_cons, Builtin.max2, Sem.run_bind, Sem.run_pure, Result.andThen_ok]
   exact hr
theorem raws_lits (I : Inv A hz hb O env tm w) {xs : List Operand} {vs : List V} (h : raws xs env = some ([], [], vs)) :
  vs.length = xs.length ∧ ∀ (j : Nat) (x : V) (c : Value), vs[j]? = some x → (xs.map (evO tm))[j]? = some c → ∀ y, x = V.f (.lit y) → c = y := by
 obtain ⟨_, _, hl, hg⟩ := raws_inv _ h
 refine ⟨hl, fun j x c h1 h2 y e => ?_⟩
 obtain ⟨z, hz, hr⟩ := hg j x h1
 simp only [List.getElem?_map, hz, Option.map_some, Option.some.injEq] at h2
 obtain ⟨p, hp⟩ := raw_any I hr
 subst e
 rw [← h2]
 exact lit_c hp
theorem op_min (I : Inv A hz hb O env tm w) (hd : ∀ d, o.dst = some d → d < env.length) {c : Call} {xs : List Operand} (ho : o.op = .call c) (hc : c.callee = .builtin .min) (hx : c.args.toList = xs)
  (h : builtinV P c o.dst .min xs env = some (cs, us, u)) : Done A hz hb (applyU us env) tm w o.dst ((execOp (evO tm) o).run P w) := by
 obtain ⟨vs, h1, hA⟩ := still_bind (fun h => ⟨(raws_inv _ h).1, (raws_inv _ h).2.1⟩) h
 obtain ⟨v, h2, hB⟩ := opt_bind hA
 clear h hA
 obtain ⟨hlen, hl⟩ := raws_lits I h1
 unfold minV at h2
 split at h2
 ·rename_i k m rest
  cases xs with
  | nil => simp at hlen
  | cons x xs =>
   have hc0 := hl 0 _ (evO tm x) rfl (by simp) _ rfl
   obtain ⟨r, hr, rfl⟩ := minI_ok (P := P) (w := w) (cs := xs.map (evO tm)) h2 (by simp at hlen; simp [hlen]) (fun j x c h1 h2 => hl (j + 1) x c (by simpa using h1) (by simpa using h2))
   refine fin_light I hB hd (fun p => lit_any p) (run_builtin ho hc ?_)
   have e : (c.args.map (evO tm)).toList = .int k m :: xs.map (evO tm) := by rw [Array.toList_map, hx, List.map_cons, hc0]
   simp only [builtin, Builtin.min_, e, Sem.run_bind, hr, Result.andThen_ok, Sem.run_pure]
 ·cases h2
theorem op_max (I : Inv A hz hb O env tm w) (hd : ∀ d, o.dst = some d → d < env.length) {c : Call} {xs : List Operand} (ho : o.op = .call c) (hc : c.callee = .builtin .max) (hx : c.args.toList = xs)
  (h : builtinV P c o.dst .max xs env = some (cs, us, u)) : Done A hz hb (applyU us env) tm w o.dst ((execOp (evO tm) o).run P w) := by
 obtain ⟨vs, h1, hA⟩ := still_bind (fun h => ⟨(raws_inv _ h).1, (raws_inv _ h).2.1⟩) h
 obtain ⟨v, h2, hB⟩ := opt_bind hA
 clear h hA
 obtain ⟨hlen, hl⟩ := raws_lits I h1
 unfold maxV at h2
 split at h2
 ·rename_i k m rest
  cases xs with
  | nil => simp at hlen
  | cons x xs =>
   have hc0 := hl 0 _ (evO tm x) rfl (by simp) _ rfl
   obtain ⟨r, hr, rfl⟩ := maxI_ok (P := P) (w := w) (cs := xs.map (evO tm)) h2 (by simp at hlen; simp [hlen]) (fun j x c h1 h2 => hl (j + 1) x c (by simpa using h1) (by simpa using h2))
   refine fin_light I hB hd (fun p => lit_any p) (run_builtin ho hc ?_)
   have e : (c.args.map (evO tm)).toList = .int k m :: xs.map (evO tm) := by rw [Array.toList_map, hx, List.map_cons, hc0]
   simp only [builtin, Builtin.max_, e, Sem.run_bind, hr, Result.andThen_ok, Sem.run_pure]
 ·cases h2
end
end Go.Abs
end
section
set_option linter.unusedVariables false
set_option linter.unusedSimpArgs false
set_option linter.unusedSectionVars false
namespace Go.Abs
open Go
variable [Globs]
section
variable {A : Nat → Prop} {hz hb : GH} {O : OM} {env : Env} {tm : Nat → Value} {w : World} {P : Program} {H : Hints} {me : FuncId} {o : Oper} {cs : List Bool} {us : List Upd} {u : Unit}

/-! ### out of a tuple -/
/-- - -/
def renP (p q : List Nat) (O : OM) : OM := fun b => match O b with
 | some r => if p <+: r then some (q ++ r.drop p.length) else some r
 | none => none
theorem renP_hit {p q r : List Nat} {b : Nat} (h : O b = some (p ++ r)) : renP p q O b = some (q ++ r) := by simp [renP, h]
theorem renP_miss {p q r : List Nat} {b : Nat} (h : O b = some r) (hr : ¬ p <+: r) : renP p q O b = some r := by simp [renP, h, hr]
theorem renP_some {p q r : List Nat} {b : Nat} (h : renP p q O b = some r) : ∃ p', O b = some p' := by
 unfold renP at h
 cases hb : O b with
 | none => rw [hb] at h; cases h
 | some p' => exact ⟨p', rfl⟩
theorem Keeps.renP {p q s : List Nat} (h : ∀ r, ¬ p <+: s ++ r) : Keeps hz hb O w hz hb (Abs.renP p q O) w s :=
 ⟨GH.le_refl _, GH.le_refl _, fun _ r e => ⟨renP_miss e (h r), rfl⟩⟩
theorem Own.renP {p q r : List Nat} {ts : List LT} {rows : Rows} {c : Value} (h : Own hz O w (p ++ r) ts rows c) : Own hz (Abs.renP p q O) w (q ++ r) ts rows c := by
 refine h.re fun b s e => ?_
 rw [List.append_assoc]
 exact renP_hit (by simpa using e)
theorem RepL.renP {p q r : List Nat} {v : V} {c : Value} (h : RepL hz hb O w (p ++ r) v c) : RepL hz hb (Abs.renP p q O) w (q ++ r) v c := by
 cases v <;> simp only [RepL] at h ⊢
 ·exact h
 ·exact h
 ·exact h.renP
theorem RepC.renP {p q : List Nat} {v : V} {c : Value} (h : RepC hz hb O w p v c) : RepC hz hb (Abs.renP p q O) w q v c := by
 have hn : ∀ {v : V} {c : Value}, RepL hz hb O w p v c → RepL hz hb (Abs.renP p q O) w q v c := fun h => by
  have := RepL.renP (p := p) (q := q) (r := []) (by simpa using h)
  simpa using this
 cases v <;> simp only [RepC] at h ⊢
 case agg xs =>
  obtain ⟨cs, rfl, hs, hc⟩ := h
  exact ⟨cs, rfl, hs, fun j v a => (hc j v a).renP⟩
 case obj row =>
  obtain ⟨blk, cells, ty, fr, rfl, hO, hw, hf, hs, hc⟩ := h
  have := renP_hit (p := p) (q := q) (r := []) (by simpa using hO)
  exact ⟨blk, cells, ty, fr, rfl, by simpa using this, hw, hf, hs, fun j v a => (hc j v a).renP⟩
 case clos =>
  obtain ⟨cs, rfl, hs, hc⟩ := h
  refine ⟨cs, rfl, hs, fun j v e => (hc j v e).imp id fun ⟨row, h1, h2⟩ => ⟨row, h1, ?_⟩⟩
  obtain ⟨blk, cells, ty, fr, h3, hO, hw, hf, hs, hc⟩ := h2
  have := renP_hit (p := p) (q := q) (r := []) (by simpa using hO)
  exact ⟨blk, cells, ty, fr, h3, by simpa using this, hw, hf, hs, fun j v a => (hc j v a).renP⟩
 case iref => exact h
 all_goals exact hn h
theorem pass_leaf {t i : Nat} {xs : List V} (hg : getS env t = .tup xs) {v : V} (hv : xs[i]? = some v) (hno : rowsOf v = none) (m : Loc) : Pass env tm w (chLoc env ⟨t, some i⟩ .undef) tm w m := by
 by_cases hs : m.slot = t
 ·refine ⟨fun ts rows c h => ?_, fun hl row hr => (by rw [hs, hg] at hr; cases hr), fun hl f caps hr => (by rw [hs, hg] at hr; cases hr)⟩
  obtain ⟨y, h1, h2⟩ := h
  by_cases hi : m.leaf = some i
  ·exfalso
   unfold LocIs at h1
   rw [hi] at h1
   simp only [hs, hg, partOf, List.getD_eq_getElem?_getD, hv, Option.getD_some] at h1
   rw [← h1.1] at h2
   rw [h2] at hno
   cases hno
  ·cases hm : m.leaf with
   | none =>
    exfalso
    unfold LocIs at h1
    rw [hm] at h1
    simp only [hs, hg] at h1
    rw [← h1.1] at h2
    simp [rowsOf, fail] at h2
   | some j => exact ⟨ts, rows, ⟨y, h1.other fun _ => ⟨by simp, by simp [hm], fun e => hi e.symm⟩, h2⟩, Like.refl _, fun _ => rfl⟩
 ·exact Pass.ofLoc (fun v c h => ⟨v, h.other fun e => (hs e.symm).elim, fun ts rows hr => ⟨rows, hr, fun _ => rfl⟩⟩) (fun _ row hr => ⟨row, by rw [getS_chLoc_ne (fun e => hs e.symm)]; exact hr, rfl⟩)
   (fun _ f caps hr => ⟨f, caps, by rw [getS_chLoc_ne (fun e => hs e.symm)]; exact hr⟩)
theorem leaf_out (I : Inv A hz hb O env tm w) {t i : Nat} {xs : List V} (hg : getS env t = .tup xs) {v : V} (hv : xs[i]? = some v) (hvu : v ≠ .undef) (hno : rowsOf v = none) (M : Nat) {cs : Array Value} (hc : tm t = .tuple cs) :
  Inv A hz hb (renP [t, i] [M] O) (chLoc env ⟨t, some i⟩ .undef) tm w ∧ RepC hz hb (renP [t, i] [M] O) w [M] v (cs.getD i undef) := by
 have hr := I.rep t
 rw [hg] at hr
 obtain ⟨cs', h1, h2, h3⟩ := hr
 rw [hc] at h1
 simp only [Value.tuple.injEq] at h1
 subst h1
 refine ⟨⟨I.sub, I.agree, fun b p e => let ⟨_, e'⟩ := renP_some e; I.owned _ _ e', I.fresh, I.glob, ?_⟩, (h3 i v hv).renP⟩
 have hloc : LocIs env tm w ⟨t, some i⟩ v (cs.getD i undef) := by
  unfold LocIs
  simp only [hg]
  exact ⟨by simp [partOf, List.getD_eq_getElem?_getD, hv], cs, hc, rfl⟩
 refine rep_chLoc I.rep (fun u hu => Keeps.renP fun r e => hu ?_) (fun j k hj hk => Keeps.renP fun r e => hk ?_) (fun j b _ e => renP_miss e ?_) (fun u m _ => pass_leaf hg hv hno m) hvu hloc trivial (fun h => by cases h)
 ·obtain ⟨s, e⟩ := e
  simp at e
  exact e.1.symm
 ·obtain ⟨s, e⟩ := e
  simp at e hj
  exact e.1.symm.trans hj
 ·rintro ⟨s, e⟩
  simp at e
theorem op_extract (I : Inv A hz hb O env tm w) (hd : ∀ d, o.dst = some d → d < env.length) {t i : Nat} (ho : o.op = .extract (.tmp t) i) (h : opM P H me o env = some (cs, us, u)) :
  Done A hz hb (applyU us env) tm w o.dst ((execOp (evO tm) o).run P w) := by
 unfold opM at h
 rw [ho] at h
 obtain ⟨h1, hA⟩ := slotM_bind h
 clear h
 cases hg : getS env t with
 | tup xs =>
  rw [hg] at hA
  simp only at hA
  have hr := I.rep t
  rw [hg] at hr
  obtain ⟨vs, hc, hs, hl⟩ := hr
  have hrun : ∀ v, xs[i]? = some v → (execOp (evO tm) o).run P w = .ok (.value (vs.getD i undef)) w := by
   intro v hv
   have hi : i < vs.size := by rw [hs]; exact (List.getElem?_eq_some_iff.1 hv).1
   have : vs[i]? = some (vs.getD i undef) := by simp [Array.getD_eq_getD_getElem?, hi]
   simp only [execOp, ho, evO, hc, Instr.extract, this, Sem.run_bind, Sem.run_pure, Result.andThen_ok]
  have out : ∀ (v : V) {cs : List Bool} {us : List Upd} {u : Unit}, xs[i]? = some v → v ≠ .undef → rowsOf v = none → (∀ {O' : OM} {p : List Nat} {c : Value} {env' : Env}, RepC hz hb O' w p v c → RepS hz hb O' env' tm w p v c) →
    (do upd [.leaf t i .undef]; putD o.dst v : M Unit) env = some (cs, us, u) → Done A hz hb (applyU us env) tm w o.dst ((execOp (evO tm) o).run P w) := by
   intro v cs us u hv hvu hno hS h
   obtain ⟨c1, u1, a, c2, u2, h2, h3, rfl, rfl⟩ := bind_inv h
   obtain ⟨rfl, rfl⟩ := upd_inv h2
   have hE : applyU [.leaf t i .undef] env = chLoc env ⟨t, some i⟩ .undef := rfl
   rw [hE] at h3
   have hlen : (chLoc env ⟨t, some i⟩ .undef).length = env.length := length_chLoc _ _ _
   obtain ⟨I', hv'⟩ := leaf_out I hg hv hvu hno env.length hc
   have hD := (done_put (w := w) I' (FzExt.refl _ _ _) (Side.refl _) (hrun v hv) h3 (by rw [hlen]; exact hd) (by rw [hlen]; exact Nat.le_refl _) (hS hv')).2
   rw [applyU_append]
   exact hD
  cases hv : xs[i]? with
  | none => rw [hv] at hA; exact (bad_inv hA).elim
  | some v =>
   rw [hv] at hA
   have hlv := hl i v hv
   cases v with
   | own ts rows =>
    have hloc : LocIs env tm w ⟨t, some i⟩ (.own ts rows) (vs.getD i undef) := by
     unfold LocIs
     simp only [hg]
     exact ⟨by simp [partOf, List.getD_eq_getElem?_getD, hv], vs, hc, rfl⟩
    simp only at hA
    cases hm : isMp ts with
    | true => rw [hm] at hA; exact fin_light I hA hd (fun p => (mx_rep (l := ⟨t, some i⟩) (ts := ts) (rows := rows) (⟨.own ts rows, hloc, rfl⟩ : LstAt env tm w ⟨t, some i⟩ ts rows (vs.getD i undef)) hm p).1) (hrun _ hv)
    | false => rw [hm] at hA; exact fin_light I hA hd (fun p => .inr ⟨ts, rows, ⟨.own ts rows, hloc, rfl⟩, rfl, rfl, hm⟩) (hrun _ hv)
   | f x => exact fin_light I hA hd (fun p => .inl hlv) (hrun _ hv)
   | agg ys =>
    simp only at hA
    obtain ⟨c1, u1, a, c2, u2, h2, h3, rfl, rfl⟩ := bind_inv hA
    rcases bif_inv h2 with ⟨hb', h2⟩ | ⟨hb', h2⟩
    ·refine out (.agg ys) hv (by simp) rfl (fun h => ?_) (by show M.bind _ _ _ = _; unfold M.bind; rw [h2]; simp only; rw [h3])
     obtain ⟨cs, rfl, hs, hc⟩ := h
     exact ⟨cs, rfl, hs, fun j v a => .inl (hc j v a)⟩
    ·obtain ⟨rfl, rfl, _⟩ := pure_inv h2
     refine fin_light I h3 hd (fun p => aggE_any (p := [t] ++ [i]) ?_ hb' p) (hrun _ hv)
     obtain ⟨cs, h4, h5, h6⟩ := hlv
     exact ⟨cs, h4, h5, fun j v a => .inl (h6 j v a)⟩
   | obj row => exact out (.obj row) hv (by simp) rfl (fun h => h) hA
   | _ => exact (bad_inv hA).elim
 | _ => rw [hg] at hA; exact (bad_inv hA).elim
end
end Go.Abs
end
section
set_option linter.unusedVariables false
set_option linter.unusedSimpArgs false
set_option linter.unusedSectionVars false
namespace Go.Abs
open Go
variable [Globs]
section
variable {A : Nat → Prop} {hz hb : GH} {O : OM} {env : Env} {tm : Nat → Value} {w : World} {P : Program} {H : Hints} {me : FuncId} {o : Oper} {cs : List Bool} {us : List Upd} {u : Unit}

/-! ### new things -/
theorem typed1_ok {t : LT} {v : V} {c : Value} {p : List Nat} (h : RepL hz hb O w p v c) : RepL hz hb O w p (typed1 t v) c := by
 unfold typed1
 split
 ·rename_i ts
  cases hm : isMp ts with
  | true => exact h
  | false =>
   have e : c = .slice none 0 0 := by
    change RepF hz _ c at h
    cases h
    rfl
   subst e
   exact .inl ⟨hm, by simp, none, 0, rfl, Nat.le_refl _, .inl rfl⟩
 ·exact h
theorem typedLeaves_get : ∀ {ts : List LT} {xs : List V} {j : Nat} {y : V}, (typedLeaves ts xs)[j]? = some y → ∃ x, xs[j]? = some x ∧ (y = x ∨ ∃ t, y = typed1 t x)
 | [], xs, j, y, h => ⟨y, by simpa [typedLeaves] using h, .inl rfl⟩
 | _ :: _, [], j, y, h => by simp [typedLeaves] at h
 | t :: ts, x :: xs, j, y, h => by
  cases j with
  | zero => simp [typedLeaves] at h; exact ⟨x, rfl, .inr ⟨t, h.symm⟩⟩
  | succ j =>
   obtain ⟨x', h2, h3⟩ := typedLeaves_get (ts := ts) (xs := xs) (by simpa [typedLeaves] using h)
   exact ⟨x', by simpa using h2, h3⟩
theorem typedLeaves_len : ∀ (ts : List LT) (xs : List V), (typedLeaves ts xs).length = xs.length
 | [], _ => by simp [typedLeaves]
 | _ :: _, [] => by simp [typedLeaves]
 | t :: ts, x :: xs => by simp [typedLeaves, typedLeaves_len ts xs]
theorem leaves_typed {ts : List LT} {xs : List V} {p : List Nat} {g : Nat → Value} (h : ∀ j v, xs[j]? = some v → RepL hz hb O w (p ++ [j]) v (g j)) : ∀ j v, (typedLeaves ts xs)[j]? = some v → RepL hz hb O w (p ++ [j]) v (g j) := by
 intro j v e
 obtain ⟨x, h2, rfl | ⟨t, rfl⟩⟩ := typedLeaves_get e
 ·exact h j _ h2
 ·exact typed1_ok (h j x h2)
theorem zeroLeaves_ok {t : TypeId} {xs : List V} (h : zeroLeaves P t = some xs) : ∃ i z, P.info? t = some i ∧ i.zero = some z ∧ z.cells.size = xs.length ∧ z.cells.size = (lty P 20 t).length ∧
  ∀ j v p, xs[j]? = some v → RepL hz hb O w p v (z.cells.getD j undef) := by
 simp only [zeroLeaves, Option.bind_eq_bind] at h
 cases hi : P.info? t with
 | none => rw [hi] at h; cases h
 | some i =>
  rw [hi] at h
  simp only [Option.bind_some] at h
  cases hz0 : i.zero with
  | none => rw [hz0] at h; cases h
  | some z =>
   rw [hz0] at h
   simp only [Option.bind_some] at h
   split at h
   ·rename_i hs
    cases h
    simp only [beq_iff_eq] at hs
    refine ⟨i, z, rfl, hz0, by rw [typedLeaves_len]; simp, hs, fun j v p e => ?_⟩
    obtain ⟨x, h2, hy⟩ := typedLeaves_get e
    suffices hx : RepL hz hb O w p x (z.cells.getD j undef) by
     rcases hy with rfl | ⟨t, rfl⟩
     ·exact hx
     ·exact typed1_ok hx
    simp only [List.getElem?_map, Option.map_eq_some_iff, Array.getElem?_toList] at h2
    obtain ⟨y, hy2, rfl⟩ := h2
    have : z.cells.getD j undef = y := by simp [Array.getD_eq_getD_getElem?, hy2]
    rw [this]
    exact .lit y
   ·cases h
theorem run_zero {t : TypeId} {i : TypeInfo} {z : Value} (hi : P.info? t = some i) (hz0 : i.zero = some z) (w : World) : (zeroValue t).run P w = .ok z w := by
 simp [zeroValue, typeInfo, hi, hz0]
theorem alloc_get (w : World) (o : Obj) : (w.alloc o).heap[w.heap.size]? = some o := by
 show (w.heap.push o)[w.heap.size]? = _
 simp
theorem newO_get (O : OM) (n : Nat) (p : List Nat) : newO O n p n = some p := by simp [newO]
theorem Free.zero (arr : Array Value) : Free arr (0, 0) := .inl rfl
/-- - -/
theorem new_obj (I : Inv A hz hb O env tm w) {cells : Array Value} {ty : TypeId} {row : List V} {M : Nat} (hs : cells.size = row.length)
  (hl : ∀ j v, row[j]? = some v → RepL hz hb O w ([M] ++ [j]) v (cells.getD j undef)) :
  Inv A hz hb (newO O w.heap.size [M]) env tm (w.alloc (.cells cells ty)) ∧ RepObj hz hb (newO O w.heap.size [M]) (w.alloc (.cells cells ty)) [M] row (.pointer (some ⟨w.heap.size, 0, none⟩)) :=
 ⟨I.alloc _ _, w.heap.size, cells, ty, (0, 0), rfl, newO_get _ _ _, alloc_get _ _, Free.zero _, hs, fun j v e => (hl j v e).keep (Keeps.alloc I _ _ _)⟩
theorem op_alloc (I : Inv A hz hb O env tm w) (hd : ∀ d, o.dst = some d → d < env.length) {t : TypeId} (ho : o.op = .alloc t) (h : opM P H me o env = some (cs, us, u)) :
  Done A hz hb (applyU us env) tm w o.dst ((execOp (evO tm) o).run P w) := by
 unfold opM at h
 rw [ho] at h
 obtain ⟨xs, h1, hA⟩ := opt_bind h
 obtain ⟨i, z, hi, hz0, hs, _, hl⟩ := zeroLeaves_ok (hz := hz) (hb := hb) (O := O) (w := w) h1
 obtain ⟨I', hv⟩ := new_obj (ty := t) (M := env.length) I hs fun j v e => hl j v _ e
 refine (done_put (w := w) I' (FzExt.refl _ _ _) (Side.alloc _ _) ?_ hA hd (Nat.le_refl _) hv).2
 simp only [execOp, ho, Instr.alloc, Sem.run_bind, run_zero hi hz0, Result.andThen_ok, newVar, newRow, newObj, Sem.run_pure]
 rfl
theorem cells_leaf {v : V} {c : Value} {p : List Nat} (h : RepL hz hb O w p v c) (hv : okLeaf v = true) : c.cells = #[c] := by
 cases v <;> simp [okLeaf] at hv
 case f x =>
  change RepF hz x c at h
  cases h with
  | lit => cases c <;> first | rfl | (simp [cellF] at hv)
  | nil => rfl
  | lst => rfl
 case own =>
  rcases h with ⟨_, h⟩ | ⟨_, h⟩ | ⟨_, h⟩
  ·obtain ⟨_, a, cap, rfl, _⟩ := h; rfl
  ·obtain ⟨ag, ks, blk, es, _, rfl, _⟩ := h; rfl
  ·obtain ⟨_, _, _, _, _, _, _, ⟨_, a, cap, rfl, _⟩, _⟩ := h; rfl
 case bor => obtain ⟨_, a, cap, rfl, _⟩ := h; rfl
theorem typed1_okLeaf {t : LT} {v : V} (h : okLeaf (typed1 t v) = true) : okLeaf v = true := by
 unfold typed1 at h
 split at h
 ·rfl
 ·exact h
theorem okLeaf_not_agg {xs : List V} (h : okLeaf (.agg xs) = true) : False := by simp [okLeaf] at h
theorem op_box (I : Inv A hz hb O env tm w) (hd : ∀ d, o.dst = some d → d < env.length) {t : TypeId} {x : Operand} (ho : o.op = .box t x) (h : opM P H me o env = some (cs, us, u)) :
  Done A hz hb (applyU us env) tm w o.dst ((execOp (evO tm) o).run P w) := by
 unfold opM at h
 rw [ho] at h
 obtain ⟨c1, u1, v, c2, u2, h1, h2, rfl, rfl⟩ := bind_inv h
 simp only at h2
 split at h2
 ·rename_i hc
  simp only [Bool.and_eq_true, decide_eq_true_eq] at hc
  -- leaves under the head that is to be the object's
  have key : ∃ hz' hb' O', StepN A hz hb O env tm w hz' hb' O' (applyU u1 env) ∧ (evO tm x).cells.size = (leavesOf v).length ∧
    ∀ j y, (leavesOf v)[j]? = some y → RepL hz' hb' O' w ([env.length] ++ [j]) y ((evO tm x).cells.getD j undef) := by
   by_cases hv : ∃ xs, v = .agg xs
   ·obtain ⟨xs, rfl⟩ := hv
    obtain ⟨_, hz', hb', O', S, hr⟩ := takeOp_ok I h1 [env.length]
    obtain ⟨vs, hcv, hs, hl⟩ := hr
    refine ⟨hz', hb', O', S, ?_, ?_⟩
    ·rw [hcv]; exact hs
    ·rw [hcv]; exact hl
   ·obtain ⟨_, hz', hb', O', S, hr⟩ := takeOp_ok I h1 [env.length, 0]
    have hlv : leavesOf v = [v] := by cases v <;> first | rfl | exact (hv ⟨_, rfl⟩).elim
    rw [hlv] at hc ⊢
    have hok : okLeaf v = true := by
     have h3 := hc.1
     have h4 := hc.2
     cases hlt : lty P 20 t with
     | nil => rw [hlt] at h3; simpa [typedLeaves] using h3
     | cons a b => rw [hlt] at h3; simp [typedLeaves] at h3; exact typed1_okLeaf h3
    have hrL : RepL hz' hb' O' w [env.length, 0] v (evO tm x) := by
     cases v <;> first | exact hr | (simp [okLeaf] at hok)
    refine ⟨hz', hb', O', S, by rw [cells_leaf hrL hok]; rfl, fun j y e => ?_⟩
    rw [cells_leaf hrL hok]
    cases j with
    | zero => simp at e; subst e; exact hrL
    | succ j => simp at e
  obtain ⟨hz', hb', O', S, hs, hl⟩ := key
  have hlen := S.gh.len
  obtain ⟨I', hv⟩ := new_obj (ty := t) (M := env.length) S.inv (row := typedLeaves (lty P 20 t) (leavesOf v)) (by rw [hc.2]; exact hs) (leaves_typed hl)
  have hD := (done_put (w := w) I' S.ext (Side.alloc _ _) (r := (execOp (evO tm) o).run P w) ?_ h2 (by rw [hlen]; exact hd) (by rw [hlen]; exact Nat.le_refl _) hv).2
  ·rw [applyU_append]; exact hD
  ·simp only [execOp, ho, Instr.box, Sem.run_bind, newVar, newRow, newObj, Sem.run_pure]
   rfl
 ·exact (bad_inv h2).elim
end
end Go.Abs
end
section
set_option linter.unusedVariables false
set_option linter.unusedSimpArgs false
set_option linter.unusedSectionVars false
namespace Go.Abs
open Go
variable [Globs]
section
variable {A : Nat → Prop} {hz hb : GH} {O : OM} {env : Env} {tm : Nat → Value} {w : World} {P : Program} {H : Hints} {me : FuncId} {o : Oper} {cs : List Bool} {us : List Upd} {u : Unit}

theorem zeroFs_len : ∀ (ts : List LT) (vs : List Value), (zeroFs ts vs).length = min ts.length vs.length
 | [], _ => by simp [zeroFs]
 | _ :: _, [] => by simp [zeroFs]
 | t :: ts, x :: xs => by simp [zeroFs, zeroFs_len ts xs]
theorem zeroF1_ok (h : GH) (t : LT) (v : Value) : RepF h (zeroF1 t v) v := by
 unfold zeroF1
 split
 ·exact .nil _ _ _
 ·exact .lit _
theorem zeroFs_get {h : GH} : ∀ {ts : List LT} {vs : List Value} {j : Nat} {x : F}, (zeroFs ts vs)[j]? = some x → ∃ v, vs[j]? = some v ∧ RepF h x v
 | [], _, j, x, e => by simp [zeroFs] at e
 | _ :: _, [], j, x, e => by simp [zeroFs] at e
 | t :: ts, v :: vs, j, x, e => by
  cases j with
  | zero => simp [zeroFs] at e; subst e; exact ⟨v, rfl, zeroF1_ok h t v⟩
  | succ j => exact zeroFs_get (ts := ts) (vs := vs) (by simpa [zeroFs] using e)
theorem zeroRow_ok {e : TypeId} {row : List F} (h : zeroRow P e = some row) : ∃ i z, P.info? e = some i ∧ i.zero = some z ∧ z.cells.size = (lty P 20 e).length ∧ TyRow (lty P 20 e) row ∧
  ∀ (hz : GH) j x, row[j]? = some x → RepF hz x (z.cells.getD j undef) := by
 simp only [zeroRow, Option.bind_eq_bind] at h
 cases hi : P.info? e with
 | none => rw [hi] at h; cases h
 | some i =>
  rw [hi] at h
  simp only [Option.bind_some] at h
  cases hz0 : i.zero with
  | none => rw [hz0] at h; cases h
  | some z =>
   rw [hz0] at h
   simp only [Option.bind_some] at h
   split at h
   ·rename_i hs
    cases h
    simp only [Bool.and_eq_true, beq_iff_eq] at hs
    refine ⟨i, z, rfl, hz0, hs.2, tyFs_ty hs.1, fun hz j x e => ?_⟩
    obtain ⟨v, h1, h2⟩ := zeroFs_get (h := hz) e
    have : z.cells.getD j undef = v := by
     have : z.cells[j]? = some v := by simpa using h1
     simp [Array.getD_eq_getD_getElem?, this]
    rw [this]
    exact h2
   ·cases h
theorem elemTs_ok {t : TypeId} {ts : List LT} (h : elemTs P t = some ts) : ∃ e i, P.underlying t = some (.slice e) ∧ P.info? e = some i ∧ i.size = ts.length ∧ i.bytes ≤ 2 ^ 14 ∧ ts = lty P 20 e ∧ ∃ z, zeroRow P e = some z := by
 unfold elemTs und at h
 split at h
 ·rename_i e hu
  split at h
  ·rename_i hc
   simp only [Bool.and_eq_true, beq_iff_eq, decide_eq_true_eq] at hc
   obtain ⟨i, hi, hs⟩ := sz_info hc.1.1.1
   cases h
   refine ⟨e, i, hu, hi, hs, ?_, rfl, Option.isSome_iff_exists.1 hc.1.2⟩
   have := hc.1.1.2
   rw [hi] at this
   simpa using this
  ·cases h
 ·cases h
theorem elemTs_nm {t : TypeId} {ts : List LT} (h : elemTs P t = some ts) : isMp ts = false := by
 unfold elemTs und at h
 split at h
 ·split at h
  ·rename_i hc
   simp only [Bool.and_eq_true, Bool.not_eq_true'] at hc
   cases h
   exact hc.2
  ·cases h
 ·cases h
/-- - -/
def RowsAt (hz : GH) (ts : List LT) (rows : Rows) (arr : Array Value) (off : Nat) : Prop :=
 ∀ (i j : Nat) (row : List F) (x : F), rows[i]? = some row → row[j]? = some x → RepF hz x (arr.getD (off + i * ts.length + j) undef)
/-- - -/
theorem new_row (I : Inv A hz hb O env tm w) {cells : Array Value} {ty : TypeId} {ts : List LT} {rows : Rows} {M cap : Nat} (hc : rows.length ≤ cap) (hs : cap * ts.length ≤ cells.size) (hty : ∀ row ∈ rows, TyRow ts row)
  (hl : RowsAt hz ts rows cells 0) (hnm : isMp ts = false) :
  Inv A hz hb (newO O w.heap.size [M]) env tm (w.alloc (.cells cells ty)) ∧ Own hz (newO O w.heap.size [M]) (w.alloc (.cells cells ty)) [M] ts rows (.slice (some ⟨w.heap.size, 0, none⟩) rows.length cap) :=
 ⟨I.alloc _ _, .inl ⟨hnm, hty, _, cap, rfl, hc, .inr ⟨w.heap.size, 0, cells, ty, (0, 0), rfl, newO_get _ _ _, alloc_get _ _, Free.zero _, by simpa using hs, hl⟩⟩⟩
theorem made_get {z : Array Value} {n k i j : Nat} (hk : z.size = k) (hi : i < n) (hj : j < k) : (madeCells z (n * k)).getD (i * k + j) undef = z.getD j undef := by
 have h1 : i * k + j < n * k := by
  have : (i + 1) * k ≤ n * k := Nat.mul_le_mul_right _ hi
  rw [Nat.add_mul] at this
  omega
 have h2 : (i * k + j) % k = j := by rw [Nat.add_comm, Nat.add_mul_mod_self_right]; exact Nat.mod_eq_of_lt hj
 subst hk
 simp [madeCells, Array.getD_eq_getD_getElem?, h1, h2, hj]
theorem op_makeSlice (I : Inv A hz hb O env tm w) (hd : ∀ d, o.dst = some d → d < env.length) {t : TypeId} {l c : Operand} (ho : o.op = .makeSlice t l c) (h : opM P H me o env = some (cs, us, u))
  (hcs : ∀ b ∈ cs, b = true) : Done A hz hb (applyU us env) tm w o.dst ((execOp (evO tm) o).run P w) := by
 unfold opM at h
 rw [ho] at h
 simp only at h
 cases hu : und P t with
 | none => rw [hu] at h; exact (bad_inv h).elim
 | some d =>
  rw [hu] at h
  cases d with
  | slice e =>
   simp only at h
   obtain ⟨ts, h1, hA⟩ := opt_bind h
   obtain ⟨z, h2, hB⟩ := opt_bind hA
   obtain ⟨lv, h3, hC⟩ := raw_bind hB
   obtain ⟨n, h4, hD⟩ := opt_bind hC
   obtain ⟨cv, h5, hE⟩ := raw_bind hD
   obtain ⟨m, h6, hF⟩ := opt_bind hE
   obtain ⟨cs', rfl, hG⟩ := chk_bind hF
   clear h hA hB hC hD hE hF
   have hr : 0 ≤ n ∧ n ≤ m ∧ m ≤ (rowMax : Nat) := of_decide_eq_true (hcs _ List.mem_cons_self)
   have hrm : m ≤ (2 : Int) ^ 30 := by have := hr.2.2; simpa [rowMax] using this
   obtain ⟨kl, hl⟩ := rawI (I := I) h3 h4
   obtain ⟨kc, hc⟩ := rawI (I := I) h5 h6
   obtain ⟨e', i, hu', hi, hsz, hby, rfl, _⟩ := elemTs_ok h1
   have hu2 : P.underlying t = some (.slice e) := hu
   rw [hu2] at hu'
   cases hu'
   obtain ⟨i', zv, hi', hz0, hzs, hty, hzr⟩ := zeroRow_ok h2
   rw [hi] at hi'
   cases hi'
   have hb1 : (i.bytes : Int) * m ≤ 281474976710656 := by
    have h1 : (i.bytes : Int) ≤ (2 : Int) ^ 14 := by exact_mod_cast hby
    have h2 := hrm
    have h3 : (i.bytes : Int) * m ≤ (2 : Int) ^ 14 * (2 : Int) ^ 30 := Int.mul_le_mul h1 h2 (by omega) (by decide)
    have h4 : (2 : Int) ^ 14 * (2 : Int) ^ 30 ≤ 281474976710656 := by decide
    omega
   have hb2 : m ≤ 9223372036854775807 := by
    have h2 := hrm
    have : (2 : Int) ^ 30 ≤ 9223372036854775807 := by decide
    omega
   have hrun := run_make (P := P) w t e i zv hu2 hi hz0 kl kc n m hr.1 hr.2.1 hb1 hb2
   rw [hsz] at hrun
   obtain ⟨I', hv⟩ := new_row (ty := e) (M := env.length) (cap := m.toNat) (cells := madeCells zv.cells (m.toNat * (lty P 20 e).length)) I (ts := lty P 20 e) (rows := List.replicate n.toNat z) (by simp; omega)
    (by simp [size_madeCells]) (fun row hrow => by rw [List.eq_of_mem_replicate hrow]; exact hty) (fun i j row x e1 e2 => by
     obtain ⟨hi, he⟩ := List.getElem?_eq_some_iff.1 e1
     simp at hi he
     subst he
     have hj := (List.getElem?_eq_some_iff.1 e2).1
     rw [hty.len] at hj
     rw [Nat.zero_add, made_get hzs (by omega) hj]
     exact hzr _ _ _ e2) (elemTs_nm h1)
   refine (done_put (w := w) I' (FzExt.refl _ _ _) (Side.alloc _ _) (v := .own (lty P 20 e) (List.replicate n.toNat z)) ?_ hG hd (Nat.le_refl _) (.inl hv)).2
   simp only [execOp, ho, hl, hc]
   rw [Sem.run_bind, hrun]
   simp
  | _ => exact (bad_inv h).elim
end
end Go.Abs
end
section
set_option linter.unusedVariables false
set_option linter.unusedSimpArgs false
set_option linter.unusedSectionVars false
namespace Go.Abs
open Go
variable [Globs]
section
variable {A : Nat → Prop} {hz hb : GH} {O : OM} {env : Env} {tm : Nat → Value} {w : World} {P : Program} {H : Hints} {me : FuncId} {o : Oper} {cs : List Bool} {us : List Upd} {u : Unit}

/-! ### assignments -/
/-- - -/
theorem step_put {hz1 hb1 : GH} {O1 : OM} {u1 u2 : List Upd} (e : FzExt A hz hb hz1 hb1) (I : Inv A hz1 hb1 O1 (applyU u1 env) tm w) (hlen : (applyU u1 env).length = env.length) {d : Nat} {v : V} {c : Value} {r : Result Next} (hr : r = .ok (.value c) w)
  (h : put d v (applyU u1 env) = some (cs, u2, u)) (hd : d < env.length) (hv : RepS hz1 hb1 O1 (applyU u1 env) tm w [env.length] v c) : Done A hz hb (applyU (u1 ++ u2) env) tm w (some d) r := by
 have hD := (done_put (dst := some d) (w := w) I e (Side.refl _) hr h (by rw [hlen]; rintro _ ⟨⟩; exact hd) (by rw [hlen]; exact Nat.le_refl _) hv).2
 rw [applyU_append]
 exact hD
theorem setT_same (t : Nat) : setT tm t (tm t) = tm := by
 funext u
 unfold setT
 split
 ·rename_i h; rw [h]
 ·rfl
theorem RepL.S {env' : Env} {p : List Nat} {v : V} {c : Value} (h : RepL hz hb O w p v c) : RepS hz hb O env' tm w p v c := by
 cases v <;> first | exact .inl h | exact h.elim
theorem takeLoc_nc {mv : Bool} {l : Loc} {v : V} (h : takeLoc mv l env = some (cs, us, v)) : ∀ f caps, v ≠ .clos f caps := by
 obtain ⟨c1, u1, y, c2, u2, h1, hA, rfl, rfl⟩ := bind_inv h
 rintro f caps rfl
 split at hA
 ·obtain ⟨c3, u3, z, c4, u4, h2, hB, rfl, rfl⟩ := bind_inv hA
  split at hB
  ·obtain ⟨c5, u5, _, c6, u6, h3, hC, rfl, rfl⟩ := bind_inv hB
   cases (pure_inv hC).2.2
  ·split at hB
   ·exact (bad_inv hB).elim
   ·obtain ⟨c5, u5, _, c6, u6, h3, hC, rfl, rfl⟩ := bind_inv hB
    cases (pure_inv hC).2.2
 ·cases (pure_inv hA).2.2
 ·exact (bad_inv hA).elim
theorem takeSub_nc {mv : Bool} {l : Loc} {off len : Nat} {v : V} (h : takeSub mv l off len env = some (cs, us, v)) : ∀ f caps, v ≠ .clos f caps := by
 obtain ⟨c1, u1, y, c2, u2, h1, hA, rfl, rfl⟩ := bind_inv h
 rintro f caps rfl
 split at hA
 ·split at hA
  ·obtain ⟨c5, u5, _, c6, u6, h3, hC, rfl, rfl⟩ := bind_inv hA
   cases (pure_inv hC).2.2
  ·obtain ⟨c5, u5, _, c6, u6, h3, hC, rfl, rfl⟩ := bind_inv hA
   cases (pure_inv hC).2.2
 ·cases (pure_inv hA).2.2
 ·exact (bad_inv hA).elim
theorem takeLeaf_nc {mv : Bool} {y v : V} (h : takeLeaf mv y env = some (cs, us, v)) : ∀ f caps, v ≠ .clos f caps := by
 unfold takeLeaf at h
 split at h
 ·exact takeLoc_nc h
 ·exact takeLoc_nc h
 ·exact takeLoc_nc h
 ·exact takeSub_nc h
 ·rintro f caps rfl; cases (pure_inv h).2.2
 ·rintro f caps rfl; cases (pure_inv h).2.2
 ·rintro f caps rfl; cases (pure_inv h).2.2
 ·exact (bad_inv h).elim
 ·exact (bad_inv h).elim
theorem takeOp_nc {mv : Bool} {x : Operand} {v : V} (h : takeOp mv x env = some (cs, us, v)) : ∀ f caps, v ≠ .clos f caps := by
 obtain ⟨c1, u1, y, c2, u2, h1, hA, rfl, rfl⟩ := bind_inv h
 rintro f caps rfl
 split at hA
 ·obtain ⟨c5, u5, _, c6, u6, h3, hC, rfl, rfl⟩ := bind_inv hA
  cases (pure_inv hC).2.2
 ·obtain ⟨c5, u5, _, c6, u6, h3, hC, rfl, rfl⟩ := bind_inv hA
  cases (pure_inv hC).2.2
 ·have fin : ∀ {xs : List V} {env : Env} {cs : List Bool} {us : List Upd}, (do let ys ← takeLeaves mv xs; pure (V.agg ys) : M V) env = some (cs, us, V.clos f caps) → False := fun hC => by
   obtain ⟨c7, u7, _, c8, u8, h4, hD, rfl, rfl⟩ := bind_inv hC
   cases (pure_inv hD).2.2
  simp only at hA
  split at hA
  ·obtain ⟨c5, u5, _, c6, u6, h3, hC, rfl, rfl⟩ := bind_inv hA
   exact fin hC
  ·exact fin hA
 ·cases (pure_inv hA).2.2
 ·exact takeLeaf_nc hA f caps rfl
def isClos : V → Bool
 | .clos _ _ => true
 | _ => false
theorem RepC.S {env' : Env} {p : List Nat} {v : V} {c : Value} (h : RepC hz hb O w p v c) (hn : isClos v = false) : RepS hz hb O env' tm w p v c := by
 cases v
 case agg xs => obtain ⟨cs, rfl, hs, hl⟩ := h; exact ⟨cs, rfl, hs, fun j v e => .inl (hl j v e)⟩
 case obj row => exact h
 case clos f caps => cases hn
 case iref a b c d => exact .inr h
 all_goals exact RepL.S h
theorem nc_of {v : V} (h : ∀ f caps, v ≠ .clos f caps) : isClos v = false := by cases v <;> first | rfl | exact (h _ _ rfl).elim
theorem LstAt.weak {l : Loc} {ts : List LT} {rows : Rows} {c : Value} (h : LstAt env tm w l ts rows c) : WeakAt env tm w l ts rows c := .inr h
theorem assignLoc_ok (I : Inv A hz hb O env tm w) {mv : Bool} {dst : Nat} {l : Loc} (h : assignLoc mv dst l env = some (cs, us, u)) (hd : dst < env.length) {ts : List LT} {rows : Rows} {c : Value} (hl : LstAt env tm w l ts rows c)
  {r : Result Next} (hr : r = .ok (.value c) w) : Done A hz hb (applyU us env) tm w (some dst) r := by
 rcases bif_inv h with ⟨he, h⟩ | ⟨_, h⟩
 ·obtain ⟨rfl, rfl, _⟩ := pure_inv h
  have he' : l = ⟨dst, none⟩ := by simpa using he
  subst he'
  obtain ⟨v, h1, _⟩ := hl
  have hc : tm dst = c := h1.2
  refine ⟨c, w, hz, hb, O, FzExt.refl _ _ _, ?_, .inl hr, Side.refl _⟩
  show Inv A hz hb O env (setT tm dst c) w
  rw [← hc, setT_same]
  exact I
 ·obtain ⟨c1, u1, v, c2, u2, h1, h2, rfl, rfl⟩ := bind_inv h
  obtain ⟨_, hz', hb', O', S, hv⟩ := takeLoc_ok I h1 [env.length] hl.weak
  exact step_put S.ext S.inv S.gh.len hr h2 hd hv.S
theorem fzAgg_ok (I : Inv A hz hb O env tm w) {M : Nat} (hM : getS env M = .undef) {v : V} {c : Value} (hv : RepC hz hb O w [M] v c) :
  ∃ hz' hb' O', FzExt A hz hb hz' hb' ∧ Inv A hz' hb' O' env tm w ∧ RepC hz' hb' O' w [M] (fzAgg v) c := by
 by_cases ha : ∃ xs, v = .agg xs
 ·obtain ⟨xs, rfl⟩ := ha
  obtain ⟨vs, rfl, hs, hl⟩ := hv
  obtain ⟨hz', hb', O', e, I', _, hlf⟩ := freeze_leaves (t := M) (k := 0) (g := fun j => vs.getD j undef) I hM (fun j v e => .inl (by simpa using hl j v e))
  refine ⟨hz', hb', O', e, I', vs, rfl, by simpa using hs, fun j v e2 => ?_⟩
  obtain ⟨h1, h2⟩ := hlf j v e2
  rcases h2 ([M] ++ [j]) with h3 | h3
  ·simpa using h3
  ·-- leaves that lean did not come in
   exfalso
   simp only [List.getElem?_map, Option.map_eq_some_iff] at e2
   obtain ⟨x, hx, rfl⟩ := e2
   have := hl j x hx
   cases x <;> first
    | exact this.elim
    | exact h3.elim
    | (rename_i ts _
       simp only [fzLeaf] at h3
       cases hm : isMp ts <;> rw [hm] at h3 <;> exact h3.elim)
 ·refine ⟨hz, hb, O, FzExt.refl _ _ _, I, ?_⟩
  have : fzAgg v = v := by cases v <;> first | rfl | exact (ha ⟨_, rfl⟩).elim
  rw [this]
  exact hv
theorem typedT_ok {t : TypeId} {p : List Nat} {v : V} {c : Value} (h : RepC hz hb O w p v c) : RepC hz hb O w p (typedT P t v) c := by
 unfold typedT
 split
 ·obtain ⟨cs, rfl, hs, hl⟩ := h
  exact ⟨cs, rfl, by rw [typedLeaves_len]; exact hs, leaves_typed hl⟩
 ·unfold typed1
  split
  ·have h0 : RepL hz hb O w p (.f (.lit (.slice none 0 0))) c := h
   rename_i ts _ _
   have := typed1_ok (t := .lst ts) h0
   simp only [typed1] at this
   cases hm : isMp ts <;> rw [hm] at this <;> exact this
  ·exact h
theorem nc_typedT {t : TypeId} {v : V} (h : isClos v = false) : isClos (typedT P t v) = false := by
 cases v <;> first
  | rfl
  | (simp [isClos] at h; done)
  | (simp only [typedT, typed1]
     split <;> first | rfl | (split <;> rfl) | skip
     rename_i ts _ _
     cases isMp ts <;> rfl)
theorem nc_markNx {mk : List Nat} {v : V} (h : isClos v = false) : isClos (markNx mk v) = false := by
 unfold markNx
 split
 ·exact h
 ·split
  ·rename_i ts rows
   cases isMp ts with
   | true => rfl
   | false => cases rows <;> rfl
  ·exact h
theorem nc_fzAgg {v : V} (h : isClos v = false) : isClos (fzAgg v) = false := by cases v <;> first | rfl | (simp [isClos] at h; done)
theorem own_mark {mk : List Nat} {ts : List LT} {p : List Nat} {c : Value} (h : OwnL hz O w p ts [] c) (hn : isMp ts = false) : Own hz O w p (.nx none mk :: ts) [] c := by
 obtain ⟨_, a, cap, rfl, hcap, hd⟩ := h
 refine .inr (.inr ⟨rfl, none, mk, ts, [], rfl, hn, by simp, ⟨by simp, a, cap, rfl, hcap, ?_⟩, rfl, fun i j row srow x h1 => by simp at h1⟩)
 rcases hd with hd | ⟨blk, off, arr, t, fr, rfl, hO, hw, hf, hs, _⟩
 ·exact .inl hd
 ·exact .inr ⟨blk, off, arr, t, fr, rfl, hO, hw, hf, by rw [anyK_len]; exact hs, fun i j row x h1 => by simp at h1⟩
theorem markNx_ok {mk : List Nat} {p : List Nat} {v : V} {c : Value} (h : RepC hz hb O w p v c) : RepC hz hb O w p (markNx mk v) c := by
 unfold markNx
 split
 ·exact h
 ·split
  ·rename_i ts rows
   cases hm : isMp ts with
   | true => exact h
   | false =>
    cases rows with
    | nil =>
     have h' : Own hz O w p ts [] c := h
     exact own_mark (h'.lst hm) hm
    | cons r rs => exact h
  ·exact h
theorem op_assign (I : Inv A hz hb O env tm w) (hd : ∀ d, o.dst = some d → d < env.length) {x : Operand} (ho : o.op = .assign x) (h : opM P H me o env = some (cs, us, u)) :
  Done A hz hb (applyU us env) tm w o.dst ((execOp (evO tm) o).run P w) := by
 unfold opM at h
 rw [ho] at h
 simp only at h
 have hrun : (execOp (evO tm) o).run P w = .ok (.value (evO tm x)) w := by simp only [execOp, ho]; rfl
 cases hdst : o.dst with
 | none => rw [hdst] at h; exact (bad_inv h).elim
 | some d =>
  rw [hdst] at h hd
  simp only at h
  have hdl := hd d rfl
  obtain ⟨y, h1, hA⟩ := raw_bind h
  clear h
  obtain ⟨p, hy⟩ := raw_any I h1
  have light : ∀ {v : V}, freeV v = true → RepS hz hb O env tm w p v (evO tm x) → put d v env = some (cs, us, u) → Done A hz hb (applyU us env) tm w (some d) ((execOp (evO tm) o).run P w) := fun hf hv h =>
   fin_light (dst := some d) I h (by rintro _ ⟨⟩; exact hdl) (fun q => free_S hf hv) hrun
  have take : ∀ {cs : List Bool} {us : List Upd} {u : Unit}, (do let v ← takeOp (H.mv me d) x; put d (markNx (H.nx me d) (typedT P o.type (fzAgg v))) : M Unit) env = some (cs, us, u) →
    Done A hz hb (applyU us env) tm w (some d) ((execOp (evO tm) o).run P w) := by
   intro cs us u h
   obtain ⟨c1, u1, v, c2, u2, h2, h3, rfl, rfl⟩ := bind_inv h
   obtain ⟨_, hz', hb', O', S, hv⟩ := takeOp_ok I h2 [env.length]
   obtain ⟨hz2, hb2, O2, e2, I2, hv2⟩ := fzAgg_ok S.inv (getS_ge (by rw [S.gh.len]; exact Nat.le_refl _)) hv
   exact step_put (S.ext.trans e2) I2 S.gh.len hrun h3 hdl ((markNx_ok (typedT_ok hv2)).S (nc_markNx (nc_typedT (nc_fzAgg (nc_of (takeOp_nc h2))))))
  cases y with
  | lent l k n =>
   rcases bif_inv hA with ⟨_, hA⟩ | ⟨_, hA⟩
   ·exact light rfl hy hA
   rcases hy with hy | ⟨ts, rows, h2, _⟩
   ·exact hy.elim
   ·exact assignLoc_ok I hA hdl h2 hrun
  | lsub l k off len =>
   rcases bif_inv hA with ⟨_, hA⟩ | ⟨_, hA⟩
   ·exact light rfl hy hA
   rcases hy with hy | ⟨ts, rows, c', h2, h3, h4, _, hnm⟩
   ·exact hy.elim
   ·obtain ⟨c1, u1, v, c2, u2, h5, h6, rfl, rfl⟩ := bind_inv hA
    obtain ⟨_, hz', hb', O', S, hv⟩ := takeSub_ok I h5 [env.length] h2.weak h3 h4 hnm
    exact step_put S.ext S.inv S.gh.len hrun h6 hdl hv.S
  | ref s j => exact light rfl hy hA
  | eref l i j => exact light rfl hy hA
  | iref ts rows i j => exact light rfl hy hA
  | clos f caps =>
   rcases bif_inv hA with ⟨hp, hA⟩ | ⟨_, hA⟩
   ·exact light (v := .clos f caps) hp hy hA
   ·exact (bad_inv hA).elim
  | cref s => exact light rfl hy hA
  | mref l =>
   rcases hy with hy | ⟨ts, rows, h2, _⟩
   ·exact hy.elim
   ·exact assignLoc_ok I hA hdl h2 hrun
  | xl l k n =>
   rcases hy with hy | ⟨ts, rows, h2, _⟩
   ·exact hy.elim
   ·exact assignLoc_ok I hA hdl h2 hrun
  | _ => exact take hA
end
end Go.Abs
end
section
set_option linter.unusedVariables false
set_option linter.unusedSimpArgs false
set_option linter.unusedSectionVars false
namespace Go.Abs
open Go
variable [Globs]
section
variable {A : Nat → Prop} {hz hb : GH} {O : OM} {env : Env} {tm : Nat → Value} {w : World} {P : Program} {H : Hints} {me : FuncId} {o : Oper} {cs : List Bool} {us : List Upd} {u : Unit}

/-! ### names under a head of the step's own -/
def renG (t : Nat) (g : List Nat → List Nat) (O : OM) : OM := fun b => match O b with
 | some (u :: r) => if u = t then some (g r) else some (u :: r)
 | o => o
theorem renG_hit {t : Nat} {g : List Nat → List Nat} {r : List Nat} {b : Nat} (h : O b = some (t :: r)) : renG t g O b = some (g r) := by simp [renG, h]
theorem renG_miss {t : Nat} {g : List Nat → List Nat} {b u : Nat} {r : List Nat} (h : O b = some (u :: r)) (hu : u ≠ t) : renG t g O b = some (u :: r) := by simp [renG, h, hu]
theorem renG_some {t : Nat} {g : List Nat → List Nat} {p : List Nat} {b : Nat} (h : renG t g O b = some p) : ∃ p', O b = some p' := by
 unfold renG at h
 cases hb : O b with
 | none => rw [hb] at h; cases h
 | some p' => exact ⟨p', rfl⟩
theorem Keeps.renG {t u : Nat} {g : List Nat → List Nat} {r : List Nat} (h : u ≠ t) : Keeps hz hb O w hz hb (Abs.renG t g O) w (u :: r) :=
 ⟨GH.le_refl _, GH.le_refl _, fun b s e => ⟨by rw [List.cons_append] at e ⊢; exact renG_miss e h, rfl⟩⟩
theorem RepL.renG {t : Nat} {g : List Nat → List Nat} {r : List Nat} {v : V} {c : Value} (h : RepL hz hb O w (t :: r) v c) (hg : ∀ s, g (r ++ s) = g r ++ s := by intro s; rfl) : RepL hz hb (Abs.renG t g O) w (g r) v c := by
 cases v <;> simp only [RepL] at h ⊢
 ·exact h
 ·exact h
 ·exact h.re fun b s e => by
   rw [← hg]
   exact renG_hit (by simpa using e)
theorem Inv.renG (I : Inv A hz hb O env tm w) {t : Nat} (h : getS env t = .undef) (g : List Nat → List Nat) : Inv A hz hb (Abs.renG t g O) env tm w :=
 ⟨I.sub, I.agree, fun b p e => let ⟨_, e'⟩ := renG_some e; I.owned _ _ e', I.fresh, I.glob, fun u => by
  by_cases hu : u = t
  ·subst hu; rw [h]; exact .inl trivial
  ·exact (I.rep u).keep (Keeps.renG hu) fun l _ => Pass.refl _ _ _ _⟩

/-- - -/
theorem takeOp_leaves (I : Inv A hz hb O env tm w) {mv : Bool} {x : Operand} {v : V} (h : takeOp mv x env = some (cs, us, v)) (hok : (∃ xs, v = .agg xs) ∨ okLeaf v = true) (t : Nat) :
  cs = [] ∧ ∃ hz' hb' O', StepN A hz hb O env tm w hz' hb' O' (applyU us env) ∧ (evO tm x).cells.size = (leavesOf v).length ∧
   ∀ j y, (leavesOf v)[j]? = some y → RepL hz' hb' O' w [t, j] y ((evO tm x).cells.getD j undef) := by
 by_cases hv : ∃ xs, v = .agg xs
 ·obtain ⟨xs, rfl⟩ := hv
  obtain ⟨h0, hz', hb', O', S, hr⟩ := takeOp_ok I h [t]
  obtain ⟨vs, hcv, hs, hl⟩ := hr
  refine ⟨h0, hz', hb', O', S, ?_, ?_⟩
  ·rw [hcv]; exact hs
  ·rw [hcv]; exact hl
 ·obtain ⟨h0, hz', hb', O', S, hr⟩ := takeOp_ok I h [t, 0]
  have hlv : leavesOf v = [v] := by cases v <;> first | rfl | exact (hv ⟨_, rfl⟩).elim
  have hok : okLeaf v = true := hok.resolve_left hv
  have hrL : RepL hz' hb' O' w [t, 0] v (evO tm x) := by
   cases v <;> first | exact hr | (simp [okLeaf] at hok)
  rw [hlv, cells_leaf hrL hok]
  refine ⟨h0, hz', hb', O', S, rfl, fun j y e => ?_⟩
  cases j with
  | zero => simp at e; subst e; exact hrL
  | succ j => simp at e
theorem okOf {ts : List LT} {v : V} (h : (typedLeaves ts (leavesOf v)).all okLeaf = true) : (∃ xs, v = .agg xs) ∨ okLeaf v = true := by
 by_cases hv : ∃ xs, v = .agg xs
 ·exact .inl hv
 ·right
  have hlv : leavesOf v = [v] := by cases v <;> first | rfl | exact (hv ⟨_, rfl⟩).elim
  rw [hlv] at h
  cases ts with
  | nil => simpa [typedLeaves] using h
  | cons a b => simp [typedLeaves] at h; exact typed1_okLeaf h

/-! ### cells over cells -/
def over (arr : Array Value) (off : Nat) : List Value → Array Value
 | [] => arr
 | v :: vs => over (arr.setIfInBounds off v) (off + 1) vs
theorem over_size : ∀ (vs : List Value) (arr : Array Value) (off : Nat), (over arr off vs).size = arr.size
 | [], _, _ => rfl
 | v :: vs, arr, off => by rw [over, over_size vs]; simp
theorem over_get : ∀ (vs : List Value) (arr : Array Value) (off j : Nat), off + vs.length ≤ arr.size → (over arr off vs).getD j undef = if off ≤ j ∧ j < off + vs.length then vs.getD (j - off) undef else arr.getD j undef
 | [], arr, off, j, _ => by
  have : ¬ (off ≤ j ∧ j < off + ([] : List Value).length) := by simp
  rw [if_neg this]
  rfl
 | v :: vs, arr, off, j, h => by
  simp only [List.length_cons] at h
  rw [over, over_get vs _ _ _ (by simp; omega)]
  by_cases h1 : off + 1 ≤ j ∧ j < off + 1 + vs.length
  ·rw [if_pos h1, if_pos (by simp; omega)]
   rw [show j - off = (j - (off + 1)) + 1 by omega]
   rfl
  ·rw [if_neg h1]
   by_cases h2 : j = off
   ·subst h2
    rw [if_pos (by simp)]
    have hlt : j < arr.size := by omega
    simp [Array.getD_eq_getD_getElem?, hlt]
   ·rw [if_neg (by simp; omega)]
    simp only [Array.getD_eq_getD_getElem?]
    rw [Array.getElem?_setIfInBounds_ne (Ne.symm h2)]
theorem foldl_over : ∀ (vs : List Value) (k : Nat) (arr : Array Value) (off : Nat), (vs.zipIdx k).foldl (fun cs (x : Value × Nat) => cs.setIfInBounds (off + x.2) x.1) arr = over arr (off + k) vs
 | [], _, _, _ => rfl
 | v :: vs, k, arr, off => by
  simp only [List.zipIdx_cons, List.foldl_cons, over]
  rw [foldl_over vs (k + 1)]
  rfl
theorem fill_step (place : Nat → Option (Nat × Nat)) (cells : Array Value) (i : Nat) (v : Value) (rest : List (Nat × Value)) {off size : Nat} (hp : place i = some (off, size)) (h1 : v.cells.size = size) (h2 : off + size ≤ cells.size) :
  Instr.fill place cells ((i, v) :: rest) = Instr.fill place (over cells off v.cells.toList) rest := by
 have h3 : ¬ (v.cells.size ≠ size || off + v.cells.size > cells.size) = true := by simp [h1]; omega
 simp only [Instr.fill, hp]
 rw [if_neg (by simpa using h3)]
 congr 1
 rw [← Array.foldl_toList, Array.toList_zipIdx, foldl_over]
 rfl
theorem splice_len {α : Type} {xs ys : List α} {j : Nat} (h : j + ys.length ≤ xs.length) : (splice xs j ys).length = xs.length := by simp [splice]; omega
theorem splice_get {α : Type} {xs ys : List α} {j : Nat} (h : j + ys.length ≤ xs.length) (i : Nat) : (splice xs j ys)[i]? = if j ≤ i ∧ i < j + ys.length then ys[i - j]? else xs[i]? := by
 unfold splice
 by_cases h1 : i < j
 ·rw [if_neg (by omega), List.append_assoc, List.getElem?_append_left (by simp; omega), List.getElem?_take_of_lt h1]
 ·by_cases h2 : i < j + ys.length
  ·rw [if_pos (by omega), List.getElem?_append_left (by simp; omega), List.getElem?_append_right (by simp; omega)]
   simp
   congr 1
   omega
  ·rw [if_neg (by omega), List.getElem?_append_right (by simp; omega), List.getElem?_drop]
   congr 1
   simp
   omega
end
end Go.Abs
end
section
set_option linter.unusedVariables false
set_option linter.unusedSimpArgs false
set_option linter.unusedSectionVars false
namespace Go.Abs
open Go
variable [Globs]
section
variable {A : Nat → Prop} {hz hb : GH} {O : OM} {env : Env} {tm : Nat → Value} {w : World} {P : Program} {H : Hints} {me : FuncId} {o : Oper} {cs : List Bool} {us : List Upd} {u : Unit}

/-! ### structs and lists out of parts -/
theorem StepN.head {hz' hb' : GH} {O' : OM} {env' : Env} (S : StepN A hz hb O env tm w hz' hb' O' env') {N t : Nat} {r : List Nat} {v : V} {c : Value} (hN : env.length = N) (ht : N < t) (h : RepL hz hb O w (t :: r) v c) : RepL hz' hb' O' w (t :: r) v c :=
 h.keep (S.bare t r (getS_ge (by omega)) (by omega))
theorem buildParts_ok {places : Nat → Option (Nat × Nat × List LT)} {N : Nat} : ∀ {parts : List (Nat × Operand)} {row row' : List V} {hz hb : GH} {O : OM} {env : Env} {cs : List Bool} {us : List Upd} {cells : Array Value} (_ : Inv A hz hb O env tm w)
  (_ : env.length = N) (_ : buildParts places row parts env = some (cs, us, row')) (_ : cells.size = row.length) (_ : ∀ j v, row[j]? = some v → RepL hz hb O w [N + 1, j] v (cells.getD j undef)),
  cs = [] ∧ ∃ hz' hb' O' cells', FzExt A hz hb hz' hb' ∧ Inv A hz' hb' O' (applyU us env) tm w ∧ (applyU us env).length = N ∧
   Instr.fill (fun i => (places i).map fun x => (x.1, x.2.1)) cells (parts.map fun x => (x.1, evO tm x.2)) = some cells' ∧ cells'.size = row'.length ∧ ∀ j v, row'[j]? = some v → RepL hz' hb' O' w [N + 1, j] v (cells'.getD j undef)
 | [], row, row', hz, hb, O, env, cs, us, cells, I, hN, h, hs, hr => by
  obtain ⟨rfl, rfl, rfl⟩ := pure_inv h
  exact ⟨rfl, hz, hb, O, cells, FzExt.refl _ _ _, I, hN, rfl, hs, hr⟩
 | (i, x) :: parts, row, row', hz, hb, O, env, cs, us, cells, I, hN, h, hs, hr => by
  obtain ⟨c1, u1, v, c2, u2, h1, hA, rfl, rfl⟩ := bind_inv h
  obtain ⟨⟨off, n, ts⟩, h2, hB⟩ := opt_bind hA
  simp only at hB
  split at hB
  ·exact (bad_inv hB).elim
  ·rename_i hc
   simp only [not_or, gt_iff_lt, Nat.not_lt, ne_eq, Decidable.not_not, Bool.not_eq_true, Bool.not_eq_eq_eq_not, Bool.not_false] at hc
   obtain ⟨hc1, hc2, hc3, hc4'⟩ := hc
   have hc4 : (typedLeaves ts (leavesOf v)).all okLeaf = true := by simpa using hc4'
   obtain ⟨rfl, hz1, hb1, O1, S, hsz, hl⟩ := takeOp_leaves I h1 (okOf hc4) (N + 2)
   -- the new leaves under the row's head
   have I1 := S.inv.renG (t := N + 2) (getS_ge (by rw [S.gh.len]; omega)) (fun r => match r with | j :: r => (N + 1) :: (off + j) :: r | [] => [N + 1])
   have hnew : ∀ j y, (typedLeaves ts (leavesOf v))[j]? = some y → RepL hz1 hb1 (Abs.renG (N + 2) (fun r => match r with | j :: r => (N + 1) :: (off + j) :: r | [] => [N + 1]) O1) w [N + 1, off + j] y ((evO tm x).cells.getD j undef) := by
    intro j y e
    have h3 := leaves_typed (p := [N + 2]) (g := fun j => (evO tm x).cells.getD j undef) hl j y e
    exact RepL.renG h3
   have hold : ∀ j y, row[j]? = some y → RepL hz1 hb1 (Abs.renG (N + 2) (fun r => match r with | j :: r => (N + 1) :: (off + j) :: r | [] => [N + 1]) O1) w [N + 1, j] y (cells.getD j undef) := fun j y e =>
    (S.head hN (by omega) (hr j y e)).keep (Keeps.renG (by omega))
   have hlen : (typedLeaves ts (leavesOf v)).length = n := hc2
   have hcl : (evO tm x).cells.toList.length = n := by rw [Array.length_toList, hsz]; exact hc3
   have hrow : (splice row off (typedLeaves ts (leavesOf v))).length = row.length := splice_len (by omega)
   obtain ⟨rfl, hz2, hb2, O2, cells2, e2, I2, hN2, hf, hs2, hr2⟩ := buildParts_ok (N := N) (cells := over cells off (evO tm x).cells.toList) I1 (by rw [S.gh.len]; exact hN) hB (by rw [over_size, hrow]; exact hs) (fun j y e => by
    rw [splice_get (by omega)] at e
    rw [over_get _ _ _ _ (by omega)]
    rw [hlen] at e
    rw [hcl]
    split at e
    ·rename_i hj
     rw [if_pos hj]
     have := hnew _ _ e
     rw [show off + (j - off) = j by omega] at this
     rw [show (evO tm x).cells.toList.getD (j - off) undef = (evO tm x).cells.getD (j - off) undef by simp [List.getD_eq_getElem?_getD, Array.getD_eq_getD_getElem?]]
     exact this
    ·rename_i hj
     rw [if_neg hj]
     exact hold _ _ e)
   refine ⟨rfl, hz2, hb2, O2, cells2, S.ext.trans e2, by rw [applyU_append]; exact I2, by rw [applyU_append]; exact hN2, ?_, hs2, hr2⟩
   rw [List.map_cons, fill_step _ _ _ _ _ (off := off) (size := n) (by rw [h2]; rfl) (by rw [hsz]; exact hc3) (by omega)]
   exact hf
theorem op_build (I : Inv A hz hb O env tm w) (hd : ∀ d, o.dst = some d → d < env.length) {t : TypeId} {parts : Array (Nat × Operand)} (ho : o.op = .build t parts) (h : opM P H me o env = some (cs, us, u)) :
  Done A hz hb (applyU us env) tm w o.dst ((execOp (evO tm) o).run P w) := by
 unfold opM at h
 rw [ho] at h
 simp only at h
 split at h
 ·exact (bad_inv h).elim
 rename_i hok
 have hok : sizesOk P t = true := by simpa using hok
 obtain ⟨zs, h1, hA⟩ := opt_bind h
 obtain ⟨c1, u1, row, c2, u2, h2, hB, rfl, rfl⟩ := bind_inv hA
 clear h hA
 obtain ⟨it, z, hi, hz0, hs, _, hl⟩ := zeroLeaves_ok (hz := hz) (hb := hb) (O := O) (w := w) h1
 obtain ⟨rfl, hz', hb', O', cells', e, I', hN, hf, hs', hr'⟩ := buildParts_ok (N := env.length) I rfl h2 hs (fun j v e => hl j v _ e)
 have hrun : (execOp (evO tm) o).run P w = .ok (.value (.agg cells')) w := by
  have hb : P.built t (parts.map fun x => (x.1, evO tm x.2)).toList = some cells' := by
   rw [Array.toList_map, ← hf]
   unfold Program.built
   rw [hi]
   unfold sizesOk und at hok
   cases hu : P.underlying t with
   | none => rw [hu] at hok; cases hok
   | some d =>
    rw [hu] at hok
    cases d with
    | struct fs =>
     simp only [hz0]
     simp only [List.all_eq_true] at hok
     have hm : ∀ (l : List Field), (∀ f ∈ l, (sz P f.type).isSome = true) → ∃ places : List (Nat × Nat), l.mapM (fun (f : Field) => (P.info? f.type).map fun i => (f.offset, i.size)) = some places ∧
       ∀ i : Nat, places[i]? = (match l[i]? with | some (f : Field) => (sz P f.type).map fun k => (f.offset, k) | none => none) := by
      intro l
      induction l with
      | nil => intro _; exact ⟨[], rfl, fun i => by simp⟩
      | cons f l ih =>
       intro hl
       obtain ⟨ps, h1, h2⟩ := ih fun f hf => hl f (List.mem_cons_of_mem _ hf)
       have hf := hl f List.mem_cons_self
       unfold sz at hf
       cases hi : P.info? f.type with
       | none => rw [hi] at hf; cases hf
       | some j =>
        refine ⟨(f.offset, j.size) :: ps, by simp [List.mapM_cons, hi, h1], fun i => ?_⟩
        cases i with
        | zero => simp [sz, hi]
        | succ i => simpa using h2 i
     obtain ⟨places, hp1, hp2⟩ := hm fs.toList hok
     rw [hp1]
     simp only
     congr 1
     funext i
     unfold placesOf und
     rw [hu]
     have := hp2 i
     simp only [List.getElem?_toArray, this, Array.getElem?_toList]
     cases fs[i]? with
     | none => rfl
     | some f => simp only [Option.map_map]; rfl
    | array n el =>
     simp only [hz0]
     replace hok : (sz P el).isSome = true := hok
     unfold sz at hok
     cases hie : P.info? el with
     | none => rw [hie] at hok; cases hok
     | some ie =>
      simp only
      congr 1
      funext i
      unfold placesOf und sz
      rw [hu]
      simp [hie]
    | _ => cases hok
  have := run_build w t (parts.map fun x => (x.1, evO tm x.2)) cells' hb
  simp only [execOp, ho]
  rw [Sem.run_bind, this]
  rfl
 have hD := (done_put (w := w) I' e (Side.refl _) hrun hB (by rw [hN]; exact hd) (M := env.length + 1) (by omega) ⟨cells', rfl, hs', fun j v e => .inl (hr' j v e)⟩).2
 rw [applyU_append]
 exact hD
end
end Go.Abs
end
section
set_option linter.unusedVariables false
set_option linter.unusedSimpArgs false
set_option linter.unusedSectionVars false
namespace Go.Abs
open Go
variable [Globs]
section
variable {A : Nat → Prop} {hz hb : GH} {O : OM} {env : Env} {tm : Nat → Value} {w : World} {P : Program} {H : Hints} {me : FuncId} {o : Oper} {cs : List Bool} {us : List Upd} {u : Unit}

theorem tyF_cell {t : LT} {x : F} (h : tyF t x = true) : cellF x = true := by
 cases t <;> cases x <;> try rfl
 all_goals rename_i v; cases v <;> first | rfl | (simp [tyF, cellF] at h)
theorem toFsX_all {mk : List Nat} : ∀ {j0 : Nat} {ts : List LT} {xs : List V} {ys : List F}, toFsX mk j0 ts xs = some ys → TyRow ts ys ∧ xs.length = ts.length ∧ ys.length = ts.length ∧
  ∀ (j : Nat) (x : V), xs[j]? = some x → ∃ y t, ys[j]? = some y ∧ ts[j]? = some t ∧ toF x = some y ∧ tyF t y = true ∧ (hasN mk (j0 + j) = true → hasOwn x = true)
 | j0, [], [], ys, h => by simp only [toFsX, Option.some.injEq] at h; subst h; exact ⟨.nil, rfl, rfl, fun j x e => by simp at e⟩
 | j0, t :: ts, x :: xs, ys, h => by
  simp only [toFsX] at h
  split at h
  ·rename_i y zs h1 h2
   split at h
   ·rename_i h3
    cases h
    obtain ⟨h4, h5, h6, h7⟩ := toFsX_all h2
    simp only [Bool.and_eq_true, Bool.or_eq_true, Bool.not_eq_true'] at h3
    refine ⟨.cons (tyF_ty h3.1) h4, by simp [h5], by simp [h6], fun j z e => ?_⟩
    cases j with
    | zero =>
     simp at e
     subst e
     refine ⟨y, t, rfl, rfl, h1, h3.1, fun hm => ?_⟩
     rcases h3.2 with h8 | h8
     ·rw [Nat.add_zero] at hm; rw [h8] at hm; cases hm
     ·exact h8
    | succ j =>
     obtain ⟨y', t', h8, h9, h10, h11, h12⟩ := h7 j z (by simpa using e)
     exact ⟨y', t', by simpa using h8, by simpa using h9, h10, h11, fun hm => h12 (by rw [show j0 + 1 + j = j0 + (j + 1) by omega]; exact hm)⟩
   ·cases h
  ·cases h
 | _, [], _ :: _, _, h | _, _ :: _, [], _, h => by simp [toFsX, fail] at h
theorem toFsX_ok {mk : List Nat} {j0 : Nat} {ts : List LT} {xs : List V} {ys : List F} (h : toFsX mk j0 ts xs = some ys) : ∀ x ∈ xs, okLeaf x = true := by
 intro x hx
 obtain ⟨j, hj⟩ := List.getElem?_of_mem hx
 obtain ⟨y, t, _, _, h1, h2, _⟩ := (toFsX_all h).2.2.2 j x hj
 unfold toF at h1
 split at h1 <;> first | cases h1 | skip
 ·exact tyF_cell h2
 ·rfl
theorem TyRow.of {ts : List LT} {xs : List F} (hl : xs.length = ts.length) (h : ∀ (j : Nat) (t : LT) (x : F), ts[j]? = some t → xs[j]? = some x → TyF t x) : TyRow ts xs := by
 induction ts generalizing xs with
 | nil => cases xs with | nil => exact .nil | cons _ _ => simp at hl
 | cons t ts ih =>
  cases xs with
  | nil => simp at hl
  | cons x xs => exact .cons (h 0 t x rfl rfl) (ih (by simpa using hl) fun j t x h1 h2 => h (j + 1) t x (by simpa using h1) (by simpa using h2))
/-- - -/
theorem freeze_leavesX {mk : List Nat} {t : Nat} : ∀ {xs : List V} {k : Nat} {hz hb : GH} {O : OM} (_ : Inv A hz hb O env tm w) (_ : getS env t = .undef) {g : Nat → Value}
  (_ : ∀ j v, xs[j]? = some v → RepL hz hb O w [t, k + j] v (g (k + j))),
  ∃ hz' hb' O', FzExt A hz hb hz' hb' ∧ Inv A hz' hb' O' env tm w ∧ (∀ s, (∀ i, k ≤ i → ∀ q, [t, i] ≠ s ++ q) → Keeps hz hb O w hz' hb' O' w s) ∧
   ∀ j v, xs[j]? = some v → (hasN mk (k + j) = true → RepL hz' hb' O' w [t, k + j] v (g (k + j))) ∧ (hasN mk (k + j) = false → ∀ y, toF v = some y → RepF hz' y (g (k + j)))
 | [], k, hz, hb, O, I, ht, g, hx => ⟨hz, hb, O, FzExt.refl _ _ _, I, fun s _ => Keeps.refl _ _ _ _ _, fun j v e => by simp at e⟩
 | x :: xs, k, hz, hb, O, I, ht, g, hx => by
  have h0 : RepL hz hb O w [t, k] x (g k) := hx 0 x rfl
  have head : ∃ hz' hb' O', FzExt A hz hb hz' hb' ∧ Inv A hz' hb' O' env tm w ∧ (∀ s, (∀ q, [t, k] ≠ s ++ q) → Keeps hz hb O w hz' hb' O' w s) ∧
    (hasN mk k = true → RepL hz' hb' O' w [t, k] x (g k)) ∧ (hasN mk k = false → ∀ y, toF x = some y → RepF hz' y (g k)) := by
   cases hm : hasN mk k with
   | true => exact ⟨hz, hb, O, FzExt.refl _ _ _, I, fun s _ => Keeps.refl _ _ _ _ _, fun _ => h0, fun h => by cases h⟩
   | false =>
    cases x with
    | f y =>
     refine ⟨hz, hb, O, FzExt.refl _ _ _, I, fun s _ => Keeps.refl _ _ _ _ _, fun h => (by cases h), fun _ z hz' => ?_⟩
     simp only [toF, Option.some.injEq] at hz'
     subst hz'
     exact h0
    | own ts rows =>
     cases hnm : isMp ts with
     | true =>
      refine ⟨hz, hb, O, FzExt.refl _ _ _, I, fun s _ => Keeps.refl _ _ _ _ _, fun h => (by cases h), fun _ z hz' => ?_⟩
      simp [toF, hnm, fail] at hz'
     | false =>
      obtain ⟨hz', hb', O', e, I', hr, hk⟩ := freeze_hand I ht (r := [k]) h0 hnm
      refine ⟨hz', hb', O', e, I', hk, fun h => (by cases h), fun _ z hz' => ?_⟩
      simp only [toF, hnm, Bool.false_eq_true, if_false, Option.some.injEq] at hz'
      subst hz'
      exact hr
    | _ =>
     refine ⟨hz, hb, O, FzExt.refl _ _ _, I, fun s _ => Keeps.refl _ _ _ _ _, fun h => (by cases h), fun _ z hz' => ?_⟩
     simp [toF, fail] at hz'
  obtain ⟨hz1, hb1, O1, e1, I1, k1, hl1, hp1⟩ := head
  obtain ⟨hz2, hb2, O2, e2, I2, k2, hrest⟩ := freeze_leavesX (mk := mk) (t := t) (xs := xs) (k := k + 1) (g := g) I1 ht (fun j v e => by
   have := hx (j + 1) v (by simpa using e)
   rw [show k + 1 + j = k + (j + 1) by omega]
   exact this.keep (k1 _ (by intro q e; simp at e)))
  refine ⟨hz2, hb2, O2, e1.trans e2, I2, fun s hs => (k1 s fun q => hs k (Nat.le_refl _) q).trans (k2 s fun i hi q => hs i (by omega) q), fun j v e => ?_⟩
  cases j with
  | zero =>
   simp at e
   subst e
   exact ⟨fun hm => (hl1 hm).keep (k2 _ (by intro i hi q e; simp at e; omega)), fun hm y hy => (hp1 hm y hy).mono e2.1⟩
  | succ j =>
   have := hrest j v (by simpa using e)
   rw [show k + 1 + j = k + (j + 1) by omega] at this
   exact this
theorem anyK_get (mk : List Nat) : ∀ (j0 j : Nat) (ks : List LT), (anyK mk j0 ks)[j]? = (ks[j]?).map fun t => bif hasN mk (j0 + j) then .any else t
 | _, j, [] => by simp [anyK]
 | j0, 0, t :: ts => by simp [anyK]
 | j0, j + 1, t :: ts => by
  simp only [anyK, List.getElem?_cons_succ]
  rw [anyK_get mk (j0 + 1) j ts, show j0 + 1 + j = j0 + (j + 1) by omega]
end
end Go.Abs
end
section
set_option linter.unusedVariables false
set_option linter.unusedSimpArgs false
set_option linter.unusedSectionVars false
namespace Go.Abs
open Go
variable [Globs]
section
variable {A : Nat → Prop} {hz hb : GH} {O : OM} {env : Env} {tm : Nat → Value} {w : World} {P : Program} {H : Hints} {me : FuncId} {o : Oper} {cs : List Bool} {us : List Upd} {u : Unit}

theorem toFs_ok : ∀ {ts : List LT} {xs : List V} {ys : List F}, toFs ts xs = some ys → ∀ x ∈ xs, okLeaf x = true
 | [], [], ys, _ => by simp
 | t :: ts, x :: xs, ys, h => by
  simp only [toFs] at h
  split at h
  ·rename_i y zs h1 h2
   split at h
   ·rename_i h3
    intro z hz
    rcases List.mem_cons.1 hz with rfl | hz
    ·unfold toF at h1
     split at h1 <;> first | cases h1 | skip
     ·exact tyF_cell h3
     ·rfl
    ·exact toFs_ok h2 z hz
   ·cases h
  ·cases h
 | [], _ :: _, _, h | _ :: _, [], _, h => by simp [toFs, fail] at h
/-- - -/
theorem takeRow_ok (I : Inv A hz hb O env tm w) {mv : Bool} {x : Operand} {v : V} (h : takeOp mv x env = some (cs, us, v)) {ts ts' : List LT} {ys : List F} (hy : toFs ts (typedLeaves ts' (leavesOf v)) = some ys) :
  cs = [] ∧ ∃ hz' hb' O', FzExt A hz hb hz' hb' ∧ Inv A hz' hb' O' (applyU us env) tm w ∧ (applyU us env).length = env.length ∧ (evO tm x).cells.size = (leavesOf v).length ∧ TyRow ts ys ∧
   (∀ j y, ys[j]? = some y → RepF hz' y ((evO tm x).cells.getD j undef)) ∧ (∀ t r, getS env t = .undef → t ≠ env.length → t ≠ env.length + 2 → Keeps hz hb O w hz' hb' O' w (t :: r)) ∧ Gh env (applyU us env) tm w := by
 have hok := toFs_ok hy
 obtain ⟨rfl, hz1, hb1, O1, S, hsz, hl⟩ := takeOp_leaves I h (okOf (List.all_eq_true.2 hok)) (env.length + 2)
 have hN : getS (applyU us env) (env.length + 2) = .undef := getS_ge (by rw [S.gh.len]; omega)
 obtain ⟨hz2, hb2, O2, e2, I2, k2, hlf⟩ := freeze_leaves (t := env.length + 2) (xs := typedLeaves ts' (leavesOf v)) (k := 0) (g := fun j => (evO tm x).cells.getD j undef) S.inv hN (fun j y e => .inl (by
  rw [Nat.zero_add]
  exact leaves_typed (p := [env.length + 2]) (g := fun j => (evO tm x).cells.getD j undef) hl j y e))
 refine ⟨rfl, hz2, hb2, O2, S.ext.trans e2, I2, S.gh.len, hsz, (toFs_ty hy).1, fun j y e => ?_, fun t r ht h1 h2 => (S.bare t r ht h1).trans (k2 _ fun i _ q e => h2 (by simp at e; exact e.1.symm)), S.gh⟩
 obtain ⟨z, hz', ht⟩ := toFs_get hy e
 have h3 := hlf j (fzLeaf z) (by simp [hz'])
 rw [Nat.zero_add] at h3
 have hfz : fzLeaf z = .f y := by
  unfold toF at ht
  split at ht <;> first | cases ht | skip
  ·rfl
  ·rename_i ts0 r0
   split at ht
   ·cases ht
   ·rename_i hnm
    cases ht
    simp only [fzLeaf]
    cases hm : isMp ts0
    ·rfl
    ·exact (hnm hm).elim
 rw [hfz] at h3
 rcases h3.2 [] with h4 | h4
 ·exact h4
 ·exact h4.elim
theorem set_rows {hz : GH} {ts : List LT} {rows : Rows} {cells : Array Value} {i : Nat} {ys : List F} {vs : List Value} (hi : i < rows.length) (hs : rows.length * ts.length ≤ cells.size) (hty : ∀ row ∈ rows, TyRow ts row) (hty2 : TyRow ts ys)
  (hvs : vs.length = ts.length) (hr : RowsAt hz ts rows cells 0) (hy : ∀ j y, ys[j]? = some y → RepF hz y (vs.getD j undef)) :
  RowsAt hz ts (rows.set i ys) (over cells (i * ts.length) vs) 0 ∧ (∀ row ∈ rows.set i ys, TyRow ts row) := by
 have hle : (i + 1) * ts.length ≤ rows.length * ts.length := Nat.mul_le_mul_right _ hi
 rw [Nat.add_mul] at hle
 refine ⟨fun a j row x h1 h2 => ?_, fun row hrow => ?_⟩
 ·rw [Nat.zero_add, over_get _ _ _ _ (by omega)]
  rw [List.getElem?_set] at h1
  by_cases ha : i = a
  ·subst ha
   simp only [if_true, hi] at h1
   cases h1
   have hj := (List.getElem?_eq_some_iff.1 h2).1
   rw [hty2.len] at hj
   rw [if_pos (by omega), show i * ts.length + j - i * ts.length = j by omega]
   exact hy j x h2
  ·simp only [ha, if_false] at h1
   have hj := (List.getElem?_eq_some_iff.1 h2).1
   rw [(hty row (List.mem_of_getElem? h1)).len] at hj
   have hne : ¬ (i * ts.length ≤ a * ts.length + j ∧ a * ts.length + j < i * ts.length + vs.length) := by
    rintro ⟨h3, h4⟩
    rcases Nat.lt_or_gt_of_ne ha with h5 | h5
    ·have := Nat.mul_le_mul_right ts.length (show i + 1 ≤ a from h5)
     rw [Nat.add_mul] at this
     omega
    ·have := Nat.mul_le_mul_right ts.length (show a + 1 ≤ i from h5)
     rw [Nat.add_mul] at this
     omega
   rw [if_neg hne]
   have := hr a j row x h1 h2
   rwa [Nat.zero_add] at this
 ·rcases List.mem_or_eq_of_mem_set hrow with h | h
  ·exact hty _ h
  ·rw [h]; exact hty2
theorem RowsAt.mono {hz hz' : GH} (h : hz.le hz') {ts : List LT} {rows : Rows} {arr : Array Value} {off : Nat} (hr : RowsAt hz ts rows arr off) : RowsAt hz' ts rows arr off := fun i j row x h1 h2 => (hr i j row x h1 h2).mono h
theorem sliceParts_ok {ts : List LT} : ∀ {parts : List (Nat × Operand)} {rows rows' : Rows} {hz hb : GH} {O : OM} {env : Env} {cs : List Bool} {us : List Upd} {cells : Array Value} (_ : Inv A hz hb O env tm w)
  (_ : sliceParts ts rows parts env = some (cs, us, rows')) (_ : rows.length * ts.length ≤ cells.size) (_ : ∀ row ∈ rows, TyRow ts row) (_ : RowsAt hz ts rows cells 0),
  cs = [] ∧ ∃ hz' hb' O' cells', FzExt A hz hb hz' hb' ∧ Inv A hz' hb' O' (applyU us env) tm w ∧ (applyU us env).length = env.length ∧ rows'.length = rows.length ∧
   Instr.fill (fun i => some (i * ts.length, ts.length)) cells (parts.map fun x => (x.1, evO tm x.2)) = some cells' ∧ cells'.size = cells.size ∧ (∀ row ∈ rows', TyRow ts row) ∧ RowsAt hz' ts rows' cells' 0
 | [], rows, rows', hz, hb, O, env, cs, us, cells, I, h, hs, hty, hr => by
  obtain ⟨rfl, rfl, rfl⟩ := pure_inv h
  exact ⟨rfl, hz, hb, O, cells, FzExt.refl _ _ _, I, rfl, rfl, rfl, rfl, hty, hr⟩
 | (i, x) :: parts, rows, rows', hz, hb, O, env, cs, us, cells, I, h, hs, hty, hr => by
  obtain ⟨c1, u1, v, c2, u2, h1, hA, rfl, rfl⟩ := bind_inv h
  obtain ⟨ys, h2, hB⟩ := opt_bind hA
  split at hB
  ·exact (bad_inv hB).elim
  ·rename_i hc
   simp only [not_or, ne_eq, Decidable.not_not, Nat.not_le] at hc
   obtain ⟨rfl, hz1, hb1, O1, e1, I1, hN1, hsz, hty1, hy, _, _⟩ := takeRow_ok I h1 h2
   have hcl : (evO tm x).cells.toList.length = ts.length := by rw [Array.length_toList, hsz]; exact hc.1
   have hle : (i + 1) * ts.length ≤ rows.length * ts.length := Nat.mul_le_mul_right _ hc.2
   rw [Nat.add_mul] at hle
   obtain ⟨hr1, hty2⟩ := set_rows (vs := (evO tm x).cells.toList) hc.2 hs hty hty1 hcl (hr.mono e1.1) (fun j y e => by
    rw [show (evO tm x).cells.toList.getD j undef = (evO tm x).cells.getD j undef by simp [List.getD_eq_getElem?_getD, Array.getD_eq_getD_getElem?]]
    exact hy j y e)
   obtain ⟨rfl, hz2, hb2, O2, cells2, e2, I2, hN2, hl2, hf, hs2, hty3, hr2⟩ := sliceParts_ok (cells := over cells (i * ts.length) (evO tm x).cells.toList) I1 hB (by rw [over_size, List.length_set]; exact hs) hty2 hr1
   refine ⟨rfl, hz2, hb2, O2, cells2, e1.trans e2, by rw [applyU_append]; exact I2, by rw [applyU_append]; exact hN2.trans hN1, by rw [hl2, List.length_set], ?_, by rw [hs2, over_size], hty3, hr2⟩
   rw [List.map_cons, fill_step _ _ _ _ _ (off := i * ts.length) (size := ts.length) rfl (by rw [hsz]; exact hc.1) (by omega)]
   exact hf
/-- - -/
def skel (mk : List Nat) (ys : List F) (cells : Array Value) : List F := (List.range ys.length).map fun j => if hasN mk j = true then .lit (cells.getD j undef) else ys.getD j default
theorem skel_get {mk : List Nat} {ys : List F} {cells : Array Value} {j : Nat} {y : F} (h : ys[j]? = some y) : (skel mk ys cells)[j]? = some (if hasN mk j = true then .lit (cells.getD j undef) else y) := by
 have hj := (List.getElem?_eq_some_iff.1 h).1
 unfold skel
 rw [List.getElem?_map, List.getElem?_range hj]
 simp [List.getD_eq_getElem?_getD, h]
theorem skel_len (mk : List Nat) (ys : List F) (cells : Array Value) : (skel mk ys cells).length = ys.length := by simp [skel]
/-- - -/
theorem slicePart1_ok (I : Inv A hz hb O env tm w) {mk : List Nat} {ks : List LT} {parts : List (Nat × Operand)} {rows : Rows} (h : slicePart1 mk ks parts env = some (cs, us, rows)) (hnm : isMp ks = false) (z : Array Value) (hzc : z.size = ks.length) (e : TypeId) :
  cs = [] ∧ ∃ hz' hb' O' cells', FzExt A hz hb hz' hb' ∧ (applyU us env).length = env.length ∧ rows.length = 1 ∧
   Instr.fill (fun i => some (i * ks.length, ks.length)) z (parts.map fun x => (x.1, evO tm x.2)) = some cells' ∧
   Inv A hz' hb' O' (applyU us env) tm (w.alloc (.cells cells' e)) ∧ Own hz' O' (w.alloc (.cells cells' e)) [env.length] (.nx none mk :: ks) rows (.slice (some ⟨w.heap.size, 0, none⟩) 1 1) := by
 unfold slicePart1 at h
 split at h
 rotate_left
 ·exact (bad_inv h).elim
 rename_i x
 obtain ⟨c1, u1, v, c2, u2, h1, hA, rfl, rfl⟩ := bind_inv h
 obtain ⟨ys, h2, hB⟩ := opt_bind hA
 split at hB
 ·exact (bad_inv hB).elim
 rename_i hc
 simp only [ne_eq, Decidable.not_not] at hc
 obtain ⟨rfl, rfl, rfl⟩ := pure_inv hB
 obtain ⟨hty, hxl, hyl, hall⟩ := toFsX_all h2
 obtain ⟨rfl, hz1, hb1, O1, S, hsz, hl⟩ := takeOp_leaves I h1 (okOf (List.all_eq_true.2 (toFsX_ok h2))) (env.length + 2)
 have hN : getS (applyU u1 env) (env.length + 2) = .undef := getS_ge (by rw [S.gh.len]; omega)
 obtain ⟨hz2, hb2, O2, e2, I2, k2, hlf⟩ := freeze_leavesX (mk := mk) (t := env.length + 2) (xs := typedLeaves ks (leavesOf v)) (k := 0) (g := fun j => (evO tm x).cells.getD j undef) S.inv hN (fun j y e => by
  rw [Nat.zero_add]
  exact leaves_typed (p := [env.length + 2]) (g := fun j => (evO tm x).cells.getD j undef) hl j y e)
 have I3 := I2.renH hN [env.length]
 have hcs : (evO tm x).cells.size = ks.length := by rw [hsz]; exact hc
 have hcl : (evO tm x).cells.toList.length = ks.length := by rw [Array.length_toList]; exact hcs
 -- a leaf
 have leaf : ∀ (j : Nat) (y : F), ys[j]? = some y → ∃ xv t, (typedLeaves ks (leavesOf v))[j]? = some xv ∧ ks[j]? = some t ∧ toF xv = some y ∧ tyF t y = true ∧ (hasN mk j = true → hasOwn xv = true) := by
  intro j y hy
  have hj := (List.getElem?_eq_some_iff.1 hy).1
  have hx : (typedLeaves ks (leavesOf v))[j]? = some ((typedLeaves ks (leavesOf v))[j]'(by omega)) := List.getElem?_eq_getElem _
  obtain ⟨y', t, h3, h4, h5, h6, h7⟩ := hall j _ hx
  rw [hy] at h3
  cases h3
  exact ⟨_, t, hx, h4, h5, h6, fun hm => h7 (by rwa [Nat.zero_add])⟩
 -- a list of its own
 have owned : ∀ (j : Nat) (y : F), ys[j]? = some y → hasN mk j = true → ∃ ts rs, y = .lst ts rs ∧ isMp ts = false ∧ OwnL hz2 (renH (env.length + 2) [env.length] O2) w [env.length, j] ts rs ((evO tm x).cells.getD j undef) := by
  intro j y hy hm
  obtain ⟨xv, t, h3, h4, h5, h6, h7⟩ := leaf j y hy
  have h8 := (hlf j xv h3).1 (by rwa [Nat.zero_add])
  rw [Nat.zero_add] at h8
  have h9 := h7 hm
  cases xv with
  | own ts rs =>
   unfold toF at h5
   simp only at h5
   split at h5
   ·cases h5
   ·rename_i hmp
    cases h5
    have hmp' : isMp ts = false := by simpa using hmp
    have h10 : Own hz2 (renH (env.length + 2) [env.length] O2) w ([env.length] ++ [j]) ts rs ((evO tm x).cells.getD j undef) := Own.renH (t := env.length + 2) (q := [env.length]) (r := [j]) h8
    exact ⟨ts, rs, rfl, hmp', h10.lst hmp'⟩
  | _ => cases h9
 have htyK : TyRow (anyK mk 0 ks) (skel mk ys (evO tm x).cells) := by
  refine TyRow.of (by rw [skel_len, anyK_len, hyl]) fun j t y' h3 h4 => ?_
  rw [anyK_get, Nat.zero_add] at h3
  simp only [Option.map_eq_some_iff] at h3
  obtain ⟨t0, h5, rfl⟩ := h3
  have hj : j < ys.length := by rw [hyl]; exact (List.getElem?_eq_some_iff.1 h5).1
  have hy : ys[j]? = some (ys[j]'hj) := List.getElem?_eq_getElem hj
  rw [skel_get hy] at h4
  cases hm : hasN mk j with
  | true =>
   rw [hm] at h4
   simp only [if_true, Option.some.injEq] at h4
   subst h4
   obtain ⟨ts, rs, _, _, _, a, cap, h8, _⟩ := owned j _ hy hm
   show cellF _ = true
   rw [h8]
   rfl
  | false =>
   rw [hm] at h4
   simp only [Bool.false_eq_true, if_false, Option.some.injEq] at h4
   subst h4
   obtain ⟨xv, t, _, h6, _, h7, _⟩ := leaf j _ hy
   rw [h5] at h6
   cases h6
   exact tyF_ty h7
 have hget : ∀ j, j < ks.length → (over z 0 (evO tm x).cells.toList).getD j undef = (evO tm x).cells.getD j undef := by
  intro j hj
  rw [over_get _ _ _ _ (by omega), if_pos (by omega), Nat.sub_zero]
  simp [List.getD_eq_getElem?_getD, Array.getD_eq_getD_getElem?]
 have hrK : RowsAt hz2 (anyK mk 0 ks) [skel mk ys (evO tm x).cells] (over z 0 (evO tm x).cells.toList) 0 := by
  intro i j row y' h3 h4
  cases i with
  | succ i => simp at h3
  | zero =>
   simp at h3
   subst h3
   have hj : j < ys.length := by have := (List.getElem?_eq_some_iff.1 h4).1; rwa [skel_len] at this
   have hy : ys[j]? = some (ys[j]'hj) := List.getElem?_eq_getElem hj
   rw [skel_get hy] at h4
   rw [show 0 + 0 * (anyK mk 0 ks).length + j = j by omega, hget j (by omega)]
   cases hm : hasN mk j with
   | true =>
    rw [hm] at h4
    simp only [if_true, Option.some.injEq] at h4
    subst h4
    exact .lit _
   | false =>
    rw [hm] at h4
    simp only [Bool.false_eq_true, if_false, Option.some.injEq] at h4
    subst h4
    obtain ⟨xv, t, h5, _, h6, _, _⟩ := leaf j _ hy
    have := (hlf j xv h5).2 (by rwa [Nat.zero_add]) _ h6
    rwa [Nat.zero_add] at this
 have hw : ∀ b p, renH (env.length + 2) [env.length] O2 b = some p → b < w.heap.size := fun b p e => (I3.owned b p e).2.2
 refine ⟨rfl, hz2, hb2, newO (renH (env.length + 2) [env.length] O2) w.heap.size [env.length], over z 0 (evO tm x).cells.toList, S.ext.trans e2, by rw [List.append_nil]; exact S.gh.len, rfl, ?_, by rw [List.append_nil]; exact I3.alloc _ _, ?_⟩
 ·rw [List.map_cons, fill_step _ _ _ _ _ (off := 0) (size := ks.length) (by simp) hcs (by omega)]
  rfl
 ·refine .inr (.inr ⟨rfl, none, mk, ks, [skel mk ys (evO tm x).cells], rfl, hnm, by simpa using hty, ⟨by simpa using htyK, _, 1, rfl, Nat.le_refl _, .inr ⟨w.heap.size, 0, _, e, (0, 0), rfl, newO_get _ _ _, alloc_get _ _, Free.zero _, ?_, hrK⟩⟩, rfl, fun i j row srow y h3 h4 h5 => ?_⟩)
  ·rw [anyK_len, over_size, hzc]; omega
  ·cases i with
   | succ i => simp at h3
   | zero =>
    simp at h3 h4
    subst h3 h4
    refine ⟨_, skel_get h5, ?_⟩
    unfold LeafX
    split
    ·rename_i hm
     obtain ⟨ts, rs, rfl, h6, h7⟩ := owned j y h5 hm
     refine ⟨_, rfl, .inr ⟨ts, rs, rfl, h6, ?_⟩⟩
     rw [Nat.zero_mul, Nat.zero_add]
     have := h7.keep (Keeps.alloc I3 (.cells (over z 0 (evO tm x).cells.toList) e) [env.length] [env.length, j])
     exact this
    ·rfl
theorem op_buildSlice (I : Inv A hz hb O env tm w) (hd : ∀ d, o.dst = some d → d < env.length) {t : TypeId} {n : Nat} {parts : Array (Nat × Operand)} (ho : o.op = .buildSlice t n parts) (h : opM P H me o env = some (cs, us, u)) :
  Done A hz hb (applyU us env) tm w o.dst ((execOp (evO tm) o).run P w) := by
 unfold opM at h
 rw [ho] at h
 simp only at h
 cases hu : und P t with
 | none => rw [hu] at h; exact (bad_inv h).elim
 | some d =>
  rw [hu] at h
  cases d with
  | slice e =>
   simp only at h
   obtain ⟨ts, h1, hA⟩ := opt_bind h
   obtain ⟨z, h2, hB⟩ := opt_bind hA
   split at hB
   ·exact (bad_inv hB).elim
   rename_i hbig
   obtain ⟨e', i, hu', hi, hsz, hby, rfl, _⟩ := elemTs_ok h1
   have hu2 : P.underlying t = some (.slice e) := hu
   rw [hu2] at hu'
   cases hu'
   obtain ⟨i', zv, hi', hz0, hzs, hty, hzr⟩ := zeroRow_ok h2
   rw [hi] at hi'
   cases hi'
   -- one row with lists of its own
   cases hnx : nxD H me o.dst with
   | cons m mk =>
    rw [hnx] at hB
    obtain ⟨c1, u1, rows, c2, u2, h3, hC, rfl, rfl⟩ := bind_inv hB
    clear h hA hB
    rcases bif_inv h3 with ⟨hn1, h3⟩ | ⟨_, h3⟩
    rotate_left
    ·exact (bad_inv h3).elim
    obtain rfl := Nat.eq_of_beq_eq_true hn1
    have hzm : madeCells zv.cells (1 * (lty P 20 e).length) = zv.cells := by
     rw [Nat.one_mul, ← hzs]
     refine Array.ext (by simp [size_madeCells]) fun i h4 h5 => ?_
     have h6 : zv.cells[i]! = zv.cells[i] := getElem!_pos zv.cells i h5
     simp [madeCells, Nat.mod_eq_of_lt h5, h6]
    obtain ⟨rfl, hz1, hb1, O1, cells', e1, hN, hl, hf, I1, hown⟩ := slicePart1_ok (tm := tm) I h3 (elemTs_nm h1) zv.cells hzs e
    have hrun : (execOp (evO tm) o).run P w = .ok (.value (.slice (some ⟨w.heap.size, 0, none⟩) 1 1)) (w.alloc (.cells cells' e)) := by
     have hfill : Instr.fill (fun i => some (i * (lty P 20 e).length, (lty P 20 e).length)) (madeCells zv.cells (1 * (lty P 20 e).length)) (parts.map fun x => (x.1, evO tm x.2)).toList = some cells' := by
      rw [hzm, Array.toList_map]; exact hf
     have hss : (sizeOf e).run P w = .ok (lty P 20 e).length w := run_sz (by unfold sz; rw [hi]; simp [hsz]) w
     have hbig' : ¬ 1 * (lty P 20 e).length > 2 ^ 24 := by simpa using hbig
     simp only [execOp, ho, Instr.buildSlice, Sem.run_bind, run_underlying hu2, Result.andThen_ok, hss, hbig', if_false]
     by_cases h0 : 1 * (lty P 20 e).length = 0
     ·have hm : madeCells zv.cells (1 * (lty P 20 e).length) = #[] := by rw [h0]; simp [madeCells, Array.range_zero']
      rw [hm] at hfill
      have hm2 : (Array.range (1 * (lty P 20 e).length)).map ((#[] : Array Value)[· % (#[] : Array Value).size]!) = #[] := by rw [h0]; simp [Array.range_zero']
      simp only [h0, if_true, Sem.run_bind, Sem.run_pure, Result.andThen_ok] at hm2 ⊢
      rw [hm2, hfill]
      simp only [newRow, newObj, Sem.run_bind, Sem.run_pure, Result.andThen_ok]
      rfl
     ·simp only [h0, if_false, Sem.run_bind, run_zero hi hz0, Sem.run_pure, Result.andThen_ok]
      unfold madeCells at hfill
      rw [hfill]
      simp only [newRow, newObj, Sem.run_bind, Sem.run_pure, Result.andThen_ok]
      rfl
    have hD := (done_put (w := w) I1 e1 (Side.alloc _ _) (v := .own (.nx none (m :: mk) :: lty P 20 e) rows) hrun hC (by rw [hN]; exact hd) (by rw [hN]; exact Nat.le_refl _) (.inl hown)).2
    rw [applyU_append]
    exact hD
   | nil =>
   rw [hnx] at hB
   obtain ⟨c1, u1, rows, c2, u2, h3, hC, rfl, rfl⟩ := bind_inv hB
   clear h hA hB
   obtain ⟨rfl, hz1, hb1, O1, cells', e1, I1, hN, hl, hf, hs', hty', hr'⟩ := sliceParts_ok (cells := madeCells zv.cells (n * (lty P 20 e).length)) I h3 (by simp [size_madeCells]) (fun row hrow => by rw [List.eq_of_mem_replicate hrow]; exact hty) (fun i j row x e1 e2 => by
     obtain ⟨hi, he⟩ := List.getElem?_eq_some_iff.1 e1
     simp at hi he
     subst he
     have hj := (List.getElem?_eq_some_iff.1 e2).1
     rw [hty.len] at hj
     rw [Nat.zero_add, made_get hzs (by omega) hj]
     exact hzr _ _ _ e2)
   rw [size_madeCells] at hs'
   have hln : rows.length = n := by simpa using hl
   obtain ⟨I', hv⟩ := new_row (ty := e) (M := env.length) (cap := n) (cells := cells') I1 (ts := lty P 20 e) (rows := rows) (by omega) (by omega) hty' hr' (elemTs_nm h1)
   have hrun : (execOp (evO tm) o).run P w = .ok (.value (.slice (some ⟨w.heap.size, 0, none⟩) rows.length n)) (w.alloc (.cells cells' e)) := by
    have hfill : Instr.fill (fun i => some (i * (lty P 20 e).length, (lty P 20 e).length)) (madeCells zv.cells (n * (lty P 20 e).length)) (parts.map fun x => (x.1, evO tm x.2)).toList = some cells' := by
     rw [Array.toList_map]; exact hf
    have hss : (sizeOf e).run P w = .ok (lty P 20 e).length w := run_sz (by unfold sz; rw [hi]; simp [hsz]) w
    have hbig' : ¬ n * (lty P 20 e).length > 2 ^ 24 := by simpa using hbig
    simp only [execOp, ho, Instr.buildSlice, Sem.run_bind, run_underlying hu2, Result.andThen_ok, hss, hbig', if_false]
    by_cases h0 : n * (lty P 20 e).length = 0
    ·have hm : madeCells zv.cells (n * (lty P 20 e).length) = #[] := by rw [h0]; simp [madeCells, Array.range_zero']
     rw [hm] at hfill
     have hm2 : (Array.range (n * (lty P 20 e).length)).map ((#[] : Array Value)[· % (#[] : Array Value).size]!) = #[] := by rw [h0]; simp [Array.range_zero']
     simp only [h0, if_true, Sem.run_bind, Sem.run_pure, Result.andThen_ok] at hm2 ⊢
     rw [hm2, hfill]
     simp only [newRow, newObj, Sem.run_bind, Sem.run_pure, Result.andThen_ok, hln]
     rfl
    ·simp only [h0, if_false, Sem.run_bind, run_zero hi hz0, Sem.run_pure, Result.andThen_ok]
     unfold madeCells at hfill
     rw [hfill]
     simp only [newRow, newObj, Sem.run_bind, Sem.run_pure, Result.andThen_ok, hln]
     rfl
   have hD := (done_put (w := w) I' e1 (Side.alloc _ _) (v := .own (lty P 20 e) rows) hrun hC (by rw [hN]; exact hd) (by rw [hN]; exact Nat.le_refl _) (.inl hv)).2
   rw [applyU_append]
   exact hD
  | _ => exact (bad_inv h).elim
end
end Go.Abs
end
section
set_option linter.unusedVariables false
set_option linter.unusedSimpArgs false
set_option linter.unusedSectionVars false
namespace Go.Abs
open Go
variable [Globs]
section
variable {A : Nat → Prop} {hz hb : GH} {O : OM} {env : Env} {tm : Nat → Value} {w : World} {P : Program} {H : Hints} {me : FuncId} {o : Oper} {cs : List Bool} {us : List Upd} {u : Unit}

/-! ### conversions -/
theorem u8_row {row : List F} (h : TyRow [.int .u8] row) : ∃ n, row = [.lit (.int .u8 n)] := by
 cases h with
 | cons h hs =>
  cases hs
  obtain ⟨n, rfl⟩ := h
  exact ⟨n, rfl⟩
theorem run_bytes_seen {src dst e : TypeId} (hs : P.underlying src = some (.slice e)) (he : P.underlying e = some (.int .u8)) (hd : P.underlying dst = some .string) {ts : List LT} {rows : Rows} {c : Value} (h : Seen hz w ts rows c)
  (ht : (eqTs ts [.int .u8] || rows.isEmpty) = true) : (convert src dst c).run P w = .ok (.string (rowsBytes rows)) w := by
 obtain ⟨a, cap, rfl, hty, hd'⟩ := h
 rw [run_convert_bytes_string w src dst e a _ _ hs he hd]
 by_cases h0 : rows = []
 ·subst h0
  cases a with
  | none => rfl
  | some a =>
   have := run_bytesToString (P := P) w a 0 cap [] (by rfl)
   exact this
 ·obtain ⟨hcap, blk, off, rfl, arr, t, fr, hw, hsz, _, hc⟩ := hd' h0
  have hts : ts = [.int .u8] := by
   simp only [Bool.or_eq_true, List.isEmpty_iff] at ht
   exact eqTs_eq (ht.resolve_right h0)
  subst hts
  refine run_bytesToString w ⟨blk, off, none⟩ rows.length cap (rows.map rowInt) ?_
  have hl := run_loadCells_list (P := P) w ⟨blk, off, none⟩ ((rows.map rowInt).map (Value.int .u8)) (fun j v hj => by
   simp only [List.getElem?_map, Option.map_eq_some_iff] at hj
   obtain ⟨n, ⟨row, hrow, rfl⟩, rfl⟩ := hj
   obtain ⟨m, rfl⟩ := u8_row (hty row (List.mem_of_getElem? hrow))
   have hj := (List.getElem?_eq_some_iff.1 hrow).1
   have h1 := hc j 0 _ _ hrow rfl
   simp only [List.length_cons, List.length_nil, Nat.zero_add, Nat.mul_one, Nat.add_zero] at h1 hsz
   have hcell := cell_at hw (show off + j < arr.size by omega)
   rw [addr_shift, hcell]
   cases hx : arr.getD (off + j) undef with
   | int k n => rw [hx] at h1; cases h1; rfl
   | _ => rw [hx] at h1; cases h1)
  simpa using hl
theorem bytesRows_at {s : ByteArray} (cap : Nat) : RowsAt hz [.int .u8] (bytesRows s) (bytesRow s cap) 0 := by
 intro i j row x h1 h2
 simp only [bytesRows, List.getElem?_map, Option.map_eq_some_iff, Array.getElem?_toList] at h1
 obtain ⟨b, hb, rfl⟩ := h1
 cases j with
 | succ j => simp at h2
 | zero =>
  simp at h2
  subst h2
  have : (bytesRow s cap)[i]? = some (.int .u8 b.toNat) := by
   have hi := (Array.getElem?_eq_some_iff.1 hb).1
   unfold bytesRow
   rw [Array.getElem?_append_left (by simpa using hi)]
   simp [hb]
  simp only [List.length_cons, List.length_nil, Nat.zero_add, Nat.mul_one, Nat.add_zero]
  rw [Array.getD_eq_getD_getElem?, this]
  exact .lit _
theorem op_convert1 (I : Inv A hz hb O env tm w) (hd : ∀ d, o.dst = some d → d < env.length) {s d : TypeId} {x : Operand} (ho : o.op = .convert s d x) (hno : ∀ e e', ¬ (und P s = some (.slice e) ∧ und P d = some (.slice e'))) (h : opM P H me o env = some (cs, us, u)) :
  Done A hz hb (applyU us env) tm w o.dst ((execOp (evO tm) o).run P w) := by
 unfold opM at h
 rw [ho] at h
 simp only at h
 obtain ⟨a, h1, hA⟩ := rd_bind h
 obtain ⟨c1, u1, v, c2, u2, h2, hB, rfl, rfl⟩ := bind_inv hA
 clear h hA
 obtain ⟨_, _, p, h3, _⟩ := rd_ok I h1
 have lit : ∀ {r : Value}, u1 = [] → v = .f (.lit r) → (convert s d (evO tm x)).run P w = .ok r w → Done A hz hb (applyU (u1 ++ u2) env) tm w o.dst ((execOp (evO tm) o).run P w) := by
  intro r hu hv hr
  subst hu hv
  refine fin_light I hB hd (fun p => lit_any p) ?_
  simp only [execOp, ho]
  rw [Sem.run_bind, hr]
  rfl
 unfold convV at h2
 cases hs : und P s with
 | none => rw [hs] at h2; exact (bad_inv h2).elim
 | some ds =>
 cases hdd : und P d with
 | none => rw [hs, hdd] at h2; cases ds <;> exact (bad_inv h2).elim
 | some dd =>
 rw [hs, hdd] at h2
 have hs' : P.underlying s = some ds := hs
 have hd' : P.underlying d = some dd := hdd
 cases ds <;> cases dd <;> simp only at h2 <;> try exact (bad_inv h2).elim
 ·-- int to int
  unfold convInt at h2
  split at h2
  ·obtain ⟨rfl, rfl, rfl⟩ := pure_inv h2
   have e := lit_c h3
   exact lit rfl rfl (by rw [e]; simp [convert, run_underlying hs', run_underlying hd', Conv.intToInt])
  ·exact (bad_inv h2).elim
 ·unfold convIntStr at h2
  split at h2
  ·obtain ⟨rfl, rfl, rfl⟩ := pure_inv h2
   have e := lit_c h3
   exact lit rfl rfl (by rw [e]; simp [convert, run_underlying hs', run_underlying hd', Conv.intToString])
  ·exact (bad_inv h2).elim
 ·unfold convStrStr at h2
  split at h2
  ·obtain ⟨rfl, rfl, rfl⟩ := pure_inv h2
   have e := lit_c h3
   exact lit rfl rfl (by rw [e]; simp [convert, run_underlying hs', run_underlying hd'])
  ·exact (bad_inv h2).elim
 ·rename_i e
  unfold convStrBytes at h2
  cases he : und P e with
  | none => rw [he] at h2; exact (bad_inv h2).elim
  | some de =>
   have he' : P.underlying e = some de := he
   rw [he] at h2
   have hu8 : de = .int .u8 ∧ ∃ str, a = .f (.lit (.string str)) := by
    cases de <;> try exact (bad_inv h2).elim
    rename_i k
    cases k <;> try exact (bad_inv h2).elim
    refine ⟨rfl, ?_⟩
    cases a with
    | f y =>
     cases y with
     | lit y => cases y <;> first | exact ⟨_, rfl⟩ | exact (bad_inv h2).elim
     | lst _ _ => exact (bad_inv h2).elim
    | _ => exact (bad_inv h2).elim
   ·obtain ⟨rfl, str, rfl⟩ := hu8
    obtain ⟨rfl, rfl, rfl⟩ := pure_inv h2
    have ec := lit_c h3
    have hrun := run_bytes_of_string (P := P) w s d e str hs' hd' he'
    have Id : Inv A hz hb O env tm w.drew := I.heap rfl
    have hlen : (bytesRow str (grownCap w str.size 0 e)).size = str.size + (grownCap w str.size 0 e - str.size) := by
     unfold bytesRow; simp
    have hcap : str.size ≤ grownCap w str.size 0 e := by unfold grownCap Question.cut; simp
    have hbl : (bytesRows str).length = str.size := by simp [bytesRows]
    have hOwn : Own hz (newO O w.drew.heap.size [env.length]) (w.drew.alloc (.cells (bytesRow str (grownCap w str.size 0 e)) e ((bytesRow str (grownCap w str.size 0 e)).size, (bytesRow str (grownCap w str.size 0 e)).size + 1))) [env.length] [.int .u8] (bytesRows str)
      (.slice (some ⟨w.heap.size, 0, none⟩) str.size (grownCap w str.size 0 e)) := by
     refine .inl ⟨rfl, fun row hrow => ?_, _, _, by rw [hbl], by rw [hbl]; exact hcap, .inr ⟨w.heap.size, 0, _, e, _, rfl, newO_get _ _ _, alloc_get _ _, .inr (Nat.le_refl _), by simp only [List.length_cons, List.length_nil]; omega, bytesRows_at _⟩⟩
     simp only [bytesRows, List.mem_map] at hrow
     obtain ⟨b, _, rfl⟩ := hrow
     exact .cons ⟨_, rfl⟩ .nil
    refine (done_put (w := w) (Id.alloc _ [env.length]) (FzExt.refl _ _ _) ⟨rfl, rfl, rfl, ?_⟩ (v := .own [.int .u8] (bytesRows str)) ?_ hB hd (Nat.le_refl _) (.inl hOwn)).2
    ·show _ ≤ (w.heap.push _).size
     rw [Array.size_push]; omega
    ·simp only [execOp, ho]
     rw [Sem.run_bind, ec, hrun]
     rfl
 ·rename_i e
  unfold convBytes at h2
  cases he : und P e with
  | none => rw [he] at h2; exact (bad_inv h2).elim
  | some de =>
   have he' : P.underlying e = some de := he
   rw [he] at h2
   have hu8 : de = .int .u8 := by
    cases de <;> try exact (bad_inv h2).elim
    rename_i k
    cases k <;> first | rfl | exact (bad_inv h2).elim
   ·subst hu8
    obtain ⟨c3, u3, ⟨ts, rows⟩, c4, u4, h5, h6, rfl, rfl⟩ := bind_inv h2
    obtain ⟨rfl, rfl, hseen⟩ := viewM_ok I h5 h3
    simp only at h6
    split at h6
    ·rename_i ht
     obtain ⟨rfl, rfl, rfl⟩ := pure_inv h6
     exact lit rfl rfl (run_bytes_seen hs' he' hd' hseen ht)
    ·exact (bad_inv h6).elim
 ·exact (hno _ _ ⟨hs, hdd⟩).elim
end
end Go.Abs
end
section
set_option linter.unusedVariables false
set_option linter.unusedSimpArgs false
set_option linter.unusedSectionVars false
namespace Go.Abs
open Go
variable [Globs]
section
variable {A : Nat → Prop} {hz hb : GH} {O : OM} {env : Env} {tm : Nat → Value} {w w' : World} {P : Program} {H : Hints} {me : FuncId} {o : Oper} {cs : List Bool} {us : List Upd} {u : Unit}

/-! ### writing -/
def putBlk (w : World) (b : Nat) (o : Obj) : World := { w with heap := w.heap.setIfInBounds b o }
theorem putBlk_get (w : World) (b c : Nat) (o : Obj) (hb : b < w.heap.size) : (putBlk w b o).heap[c]? = if b = c then some o else w.heap[c]? := by
 unfold putBlk
 simp only [Array.getElem?_setIfInBounds]
 split
 ·rename_i h; subst h; simp [hb]
 ·rfl
theorem putBlk_side (w : World) (b : Nat) (o : Obj) : Side w (putBlk w b o) := ⟨rfl, rfl, rfl, by unfold putBlk; simp⟩
theorem putBlk_size (w : World) (b : Nat) (o : Obj) : (putBlk w b o).heap.size = w.heap.size := by unfold putBlk; simp
theorem putBlk_put (w : World) (b : Nat) (o o' : Obj) : putBlk (putBlk w b o) b o' = putBlk w b o' := by
 unfold putBlk
 simp only
 congr 1
 apply Array.ext
 ·simp
 ·intro i h1 h2
  simp [Array.getElem_setIfInBounds]
theorem modify_put {xs : Array Obj} {b : Nat} {f : Obj → Obj} {x : Obj} (h : xs[b]? = some x) : xs.modify b f = xs.setIfInBounds b (f x) := by
 obtain ⟨hlt, hx⟩ := Array.getElem?_eq_some_iff.1 h
 apply Array.ext
 ·simp
 ·intro i h1 h2
  have h3 : i < xs.size := by simpa using h1
  rw [Array.getElem_modify]
  by_cases hi : b = i
  ·subst hi; simp [hx]
  ·rw [if_neg hi, Array.getElem_setIfInBounds_ne h3 hi]
theorem setCell_put {blk off : Nat} {arr : Array Value} {t : TypeId} {fr : Nat × Nat} {v : Value} (hw : w.heap[blk]? = some (.cells arr t fr)) : w.setCell ⟨blk, off, none⟩ v = putBlk w blk (.cells (arr.setIfInBounds off v) t fr) := by
 unfold World.setCell putBlk
 simp only
 rw [modify_put hw]
 simp
theorem store_ok {blk : Nat} {t : TypeId} {fr : Nat × Nat} : ∀ {vs : List Value} {i off : Nat} {arr : Array Value} {w : World}, w.heap[blk]? = some (.cells arr t fr) → Free arr fr → (∀ v ∈ vs, v.oneCell' = true) → off + i + vs.length ≤ arr.size →
  (storeCells ⟨blk, off, none⟩ vs i).run P w = .ok () (if vs = [] then w else putBlk w blk (.cells (over arr (off + i) vs) t fr))
 | [], i, off, arr, w, hw, hf, hv, hb => by simp [storeCells]
 | v :: vs, i, off, arr, w, hw, hf, hv, hb => by
  have hlt : blk < w.heap.size := (Array.getElem?_eq_some_iff.1 hw).1
  simp only [List.length_cons] at hb
  have hc : w.cell? ⟨blk, off + i, none⟩ = some (arr.getD (off + i) undef) := cell_at hw (by omega)
  have hfz : w.frozen? ⟨blk, off + i, none⟩ = false := by
   unfold World.frozen?
   simp only [hw]
   have := hf.no (off + i) (by omega)
   obtain ⟨lo, hi⟩ := fr
   simp only [not_and, Nat.not_lt] at this
   simp only [Bool.and_eq_false_iff, decide_eq_false_iff_not]
   by_cases h : lo ≤ off + i
   ·right; have := this h; omega
   ·left; omega
  have hst : (store ((⟨blk, off, none⟩ : Addr).add i) v).run P w = .ok () (putBlk w blk (.cells (arr.setIfInBounds (off + i) v) t fr)) := by
   rw [addr_shift, run_store P w _ v _ (hv v List.mem_cons_self), hc]
   simp only [hfz, Bool.false_eq_true, if_false]
   rw [setCell_put hw]
  have ih := store_ok (vs := vs) (i := i + 1) (off := off) (arr := arr.setIfInBounds (off + i) v) (w := putBlk w blk (.cells (arr.setIfInBounds (off + i) v) t fr)) (blk := blk) (t := t) (fr := fr) (by rw [putBlk_get _ _ _ _ hlt, if_pos rfl])
   (by unfold Free at hf ⊢; simpa using hf) (fun x hx => hv x (List.mem_cons_of_mem _ hx)) (by simp; omega)
  simp only [storeCells, Sem.run_bind, hst, Result.andThen_ok, ih, List.cons_ne_nil, if_false]
  congr 1
  split
  ·rename_i h; subst h; rfl
  ·rw [putBlk_put]; rfl
theorem Pass.trans {env1 env2 : Env} {tm1 tm2 : Nat → Value} {w1 w2 : World} {l : Loc} (h : Pass env tm w env1 tm1 w1 l) (k : Pass env1 tm1 w1 env2 tm2 w2 l) : Pass env tm w env2 tm2 w2 l :=
 ⟨fun ts rows c h1 => let ⟨t1, r1, h2, l1, h3⟩ := h.lst ts rows c h1; let ⟨t2, r2, h4, l2, h5⟩ := k.lst t1 r1 c h2; ⟨t2, r2, h4, l1.trans l2, fun hn => (h5 (l1.map.trans hn)).trans (h3 hn)⟩,
  fun hl row h1 => let ⟨r1, h2, h3, h4⟩ := h.obj hl row h1; let ⟨r2, h5, h6, h7⟩ := k.obj hl r1 h2; ⟨r2, h5, h6.trans h3, h7.trans h4⟩,
  fun hl f caps h1 => let ⟨f1, c1, h2, h3⟩ := h.clos hl f caps h1; let ⟨f2, c2, h4, h5⟩ := k.clos hl f1 c1 h2; ⟨f2, c2, h4, h5.trans h3⟩⟩
/-- - -/
theorem Pass.world (h : ∀ s row blk, getS env s = .obj row → tm s = .pointer (some ⟨blk, 0, none⟩) → w'.heap[blk]? = w.heap[blk]?) (l : Loc) : Pass env tm w env tm w' l := by
 refine Pass.mk (fun ts rows c ⟨v, h1, h2⟩ => ⟨ts, rows, ⟨v, ?_, h2⟩, Like.refl _, fun _ => rfl⟩) (fun _ row h => ⟨row, h, rfl, rfl⟩) (fun _ f caps h => ⟨f, caps, h, rfl⟩)
 unfold LocIs at h1 ⊢
 cases hl : l.leaf with
 | none => rw [hl] at h1; exact h1
 | some j =>
  rw [hl] at h1
  simp only at h1 ⊢
  refine ⟨h1.1, ?_⟩
  have h3 := h1.2
  cases hg : getS env l.slot with
  | obj row =>
   rw [hg] at h3
   obtain ⟨blk, cells, t, fr, h4, h5, h6⟩ := h3
   exact ⟨blk, cells, t, fr, h4, by rw [h _ _ _ hg h4]; exact h5, h6⟩
  | tup row => rw [hg] at h3; exact h3
  | _ => rw [hg] at h3; exact h3.elim
/-- - -/
theorem rep_chLocW {hz' hb' : GH} {O' : OM} {l : Loc} {x : V}
  (hr : ∀ t, RepS hz hb O env tm w [t] (getS env t) (tm t))
  (k : ∀ t, t ≠ l.slot → Keeps hz hb O w hz' hb' O' w' [t])
  (kl : ∀ j i, l.leaf = some j → i ≠ j → Keeps hz hb O w hz' hb' O' w' [l.slot, i])
  (kb : ∀ j b, l.leaf = some j → O b = some [l.slot] → O' b = some [l.slot] ∧ w'.heap[b]? = w.heap[b]?)
  (hp : ∀ t, ∀ m ∈ mentsV (getS (chLoc env l x) t), Pass env tm w (chLoc env l x) tm w' m)
  {v : V} {c : Value} (hv : v ≠ .undef) (h : LocIs env tm w l v c) (hx : RepL hz' hb' O' w' (locPath l) x c)
  (hx1 : l.leaf = none → RepS hz' hb' O' (chLoc env l x) tm w' [l.slot] x c) :
  ∀ t, RepS hz' hb' O' (chLoc env l x) tm w' [t] (getS (chLoc env l x) t) (tm t) := by
 intro t
 by_cases ht : l.slot = t
 ·subst ht
  have h0 := h
  have hp0 := hp l.slot
  unfold LocIs at h
  unfold chLoc at hp0 hx1 ⊢
  cases hl : l.leaf with
  | none =>
   rw [hl] at h hp0
   simp only at h hp0 ⊢
   simp only [hl, true_implies] at hx1
   rw [getS_set] at *
   simp only [getS_lt h.1 hv, and_self, if_true] at *
   rw [h.2]
   exact hx1
  | some j =>
   rw [hl] at h
   simp only at h ⊢
   have hlt : l.slot < env.length := by
    rcases Nat.lt_or_ge l.slot env.length with h1 | h1
    ·exact h1
    ·rw [getS_ge h1] at h; exact h.2.elim
   rw [getS_set]
   simp only [hlt, and_self, if_true]
   have hrs := hr l.slot
   have hpath : locPath l = [l.slot] ++ [j] := by unfold locPath; rw [hl]; rfl
   rw [hpath] at hx
   cases hg : getS env l.slot with
   | obj row =>
    rw [hg] at h hrs
    obtain ⟨blk, cells, t, fr, h1, h2, h3, h4, h5, h6⟩ := hrs
    obtain ⟨_, blk', cells', t', fr', h1', h3', rfl⟩ := h
    rw [h1] at h1'
    simp only [Value.pointer.injEq, Option.some.injEq, Addr.mk.injEq] at h1'
    obtain ⟨rfl, _⟩ := h1'
    rw [h3] at h3'
    simp only [Option.some.injEq, Obj.cells.injEq] at h3'
    obtain ⟨rfl, rfl, rfl⟩ := h3'
    obtain ⟨hb1, hb2⟩ := kb j blk hl h2
    refine ⟨blk, cells, t, fr, h1, hb1, hb2.trans h3, h4, by simpa using h5, fun i u hu => ?_⟩
    rw [List.getElem?_set] at hu
    by_cases hij : j = i
    ·subst hij
     simp only [if_true] at hu
     split at hu
     ·cases hu; exact hx
     ·cases hu
    ·simp only [hij, if_false] at hu
     exact (h6 i u hu).keep (kl j i hl (Ne.symm hij))
   | tup row =>
    rw [hg] at h hrs
    obtain ⟨cs, h1, h5, h6⟩ := hrs
    obtain ⟨_, cs', h1', rfl⟩ := h
    rw [h1] at h1'
    simp only [Value.tuple.injEq] at h1'
    subst h1'
    refine ⟨cs, h1, by simpa using h5, fun i u hu => ?_⟩
    rw [List.getElem?_set] at hu
    by_cases hij : j = i
    ·subst hij
     simp only [if_true] at hu
     split at hu
     ·cases hu
      cases x <;> first | exact hx | exact hx.elim
     ·cases hu
    ·simp only [hij, if_false] at hu
     exact (h6 i u hu).keep (kl j i hl (Ne.symm hij))
   | _ => rw [hg] at h; exact h.2.elim
 ·have := hp t
  rw [getS_chLoc_ne ht] at this ⊢
  exact (hr t).keep (k t (Ne.symm ht)) this
/-- - -/
theorem write_listK (I : Inv A hz hb O env tm w) {l : Loc} {ts ts' : List LT} {rows rows' : Rows} {c : Value} (h : getLoc env l = .own ts rows) (hl : LocIs env tm w l (.own ts rows) c) {blk : Nat} (hO : O blk = some (locPath l))
  (hw : ∀ b, b ≠ blk → w'.heap[b]? = w.heap[b]?) (hsz : w'.heap.size = w.heap.size) (hown : Own hz O w' (locPath l) ts' rows' c) (hk : Like ts ts') (hlen : isMap ts = false → rows'.length = rows.length) :
  Inv A hz hb O (chLoc env l (.own ts' rows')) tm w' := by
 have kp : ∀ p, (∀ r, locPath l ≠ p ++ r) → Keeps hz hb O w hz hb O w' p := fun p hp => ⟨GH.le_refl _, GH.le_refl _, fun b q e => ⟨e, hw b (by rintro rfl; rw [hO] at e; exact hp q (Option.some.inj e))⟩⟩
 have hobj : ∀ s row b, getS (chLoc env l (.own ts' rows')) s = .obj row → tm s = .pointer (some ⟨b, 0, none⟩) → w'.heap[b]? = w.heap[b]? := by
  intro s row b hs ht
  have hs0 : ∃ row0, getS env s = .obj row0 := by
   by_cases hsl : l.slot = s
   ·subst hsl
    unfold chLoc at hs
    cases hlf : l.leaf with
    | none =>
     rw [hlf] at hs
     simp only at hs
     rw [getS_set] at hs
     split at hs
     ·cases hs
     ·exact ⟨_, hs⟩
    | some j =>
     rw [hlf] at hs
     simp only at hs
     rw [getS_set] at hs
     split at hs
     ·cases hg : getS env l.slot <;> rw [hg] at hs <;> simp [putLeaf] at hs
      exact ⟨_, rfl⟩
     ·exact ⟨_, hs⟩
   ·rw [getS_chLoc_ne hsl] at hs; exact ⟨_, hs⟩
  obtain ⟨row0, hs0⟩ := hs0
  have hr := I.rep s
  rw [hs0] at hr
  obtain ⟨b', cells, t, fr, h1, h2, _⟩ := hr
  rw [ht] at h1
  simp only [Value.pointer.injEq, Option.some.injEq, Addr.mk.injEq] at h1
  obtain ⟨rfl, _⟩ := h1
  refine hw b ?_
  rintro rfl
  rw [hO] at h2
  have h3 := Option.some.inj h2
  have h4 := locPath_one h3
  have h5 : l.slot = s := locPath_inj_slot (r := []) (by simpa using h3)
  unfold getLoc at h
  rw [h4, h5] at h
  rw [hs0] at h
  cases h
 refine ⟨I.sub, fun b o e => ?_, fun b p e => ?_, fun b e => I.fresh b (by omega), I.glob, ?_⟩
 ·by_cases hbk : b = blk
  ·subst hbk; rw [(I.owned _ _ hO).2.1] at e; cases e
  ·rw [hw b hbk]; exact I.agree b o e
 ·have := I.owned b p e; exact ⟨this.1, this.2.1, by omega⟩
 ·refine rep_chLocW I.rep (fun t ht => kp _ fun r e => ht (locPath_inj_slot e).symm) (fun j i hj hi => kp _ fun r e => hi (by have := locPath_leaf e; rw [hj] at this; exact (Option.some.inj this).symm))
   (fun j b hj e => ⟨e, hw b (by rintro rfl; rw [hO] at e; have := locPath_one (Option.some.inj e); rw [hj] at this; cases this)⟩) (fun t m _ => Pass.trans ?_ (Pass.world hobj m)) (by simp) hl hown (fun hlf => ?_)
  ·by_cases hm : l = m
   ·subst hm; exact Pass.selfK h (ts := ts) (ts' := ts') rfl hk hlen
   ·refine Pass.chLoc hm (fun row h1 h2 h3 h4 => ?_) ⟨ts, rows, h⟩
    exact hm (by cases l; cases m; simp_all)
  ·left
   have : locPath l = [l.slot] := by unfold locPath; rw [hlf]
   rw [← this]; exact hown
theorem write_list (I : Inv A hz hb O env tm w) {l : Loc} {ts : List LT} {rows rows' : Rows} {c : Value} (h : getLoc env l = .own ts rows) (hl : LocIs env tm w l (.own ts rows) c) {blk : Nat} (hO : O blk = some (locPath l))
  (hw : ∀ b, b ≠ blk → w'.heap[b]? = w.heap[b]?) (hsz : w'.heap.size = w.heap.size) (hown : Own hz O w' (locPath l) ts rows' c) (hlen : isMap ts = false → rows'.length = rows.length) :
  Inv A hz hb O (chLoc env l (.own ts rows')) tm w' := write_listK I h hl hO hw hsz hown (Like.refl _) hlen
end
end Go.Abs
end
section
set_option linter.unusedVariables false
set_option linter.unusedSimpArgs false
set_option linter.unusedSectionVars false
namespace Go.Abs
open Go
variable [Globs]
section
variable {A : Nat → Prop} {hz hb : GH} {O : OM} {env : Env} {tm : Nat → Value} {w w' : World} {P : Program} {H : Hints} {me : FuncId} {o : Oper} {cs : List Bool} {us : List Upd} {u : Unit}

theorem store_at {blk off : Nat} {arr : Array Value} {t : TypeId} {fr : Nat × Nat} {vs : List Value} (hw : w.heap[blk]? = some (.cells arr t fr)) (hf : Free arr fr) (hv : ∀ v ∈ vs, v.oneCell' = true) (hb : off + vs.length ≤ arr.size) :
  ∃ w', (storeCells ⟨blk, off, none⟩ vs 0).run P w = .ok () w' ∧ w'.heap[blk]? = some (.cells (over arr off vs) t fr) ∧ (∀ b, b ≠ blk → w'.heap[b]? = w.heap[b]?) ∧ w'.heap.size = w.heap.size ∧ Side w w' := by
 have hlt : blk < w.heap.size := (Array.getElem?_eq_some_iff.1 hw).1
 have h := store_ok (P := P) (vs := vs) (i := 0) (off := off) hw hf hv (by simpa using hb)
 rw [Nat.add_zero] at h
 refine ⟨_, h, ?_, ?_, ?_, ?_⟩ <;> by_cases h0 : vs = []
 ·subst h0; simpa [over] using hw
 ·simp only [h0, if_false]; rw [putBlk_get _ _ _ _ hlt, if_pos rfl]
 ·simp [h0]
 ·intro b hne; simp only [h0, if_false]; rw [putBlk_get _ _ _ _ hlt, if_neg (Ne.symm hne)]
 ·simp [h0]
 ·simp only [h0, if_false]; exact putBlk_size _ _ _
 ·simp only [h0, if_true]; exact Side.refl _
 ·simp only [h0, if_false]; exact putBlk_side _ _ _
theorem toFs_cells : ∀ {ts : List LT} {xs : List V} {ys : List F}, toFs ts xs = some ys → ∀ y ∈ ys, cellF y = true
 | [], [], ys, h => by simp only [toFs, Option.some.injEq] at h; subst h; simp
 | t :: ts, x :: xs, ys, h => by
  simp only [toFs] at h
  split at h
  ·rename_i y zs h1 h2
   split at h
   ·rename_i h3
    cases h
    intro z hz
    rcases List.mem_cons.1 hz with rfl | hz
    ·exact tyF_cell h3
    ·exact toFs_cells h2 z hz
   ·cases h
  ·cases h
 | [], _ :: _, _, h | _ :: _, [], _, h => by simp [toFs, fail] at h
theorem one_cell {h : GH} {y : F} {c : Value} (hr : RepF h y c) (hy : cellF y = true) : c.oneCell' = true := by
 cases hr with
 | lit => cases c <;> first | rfl | (simp [cellF] at hy)
 | nil => rfl
 | lst => rfl
theorem TyRow.splice {ts : List LT} {row ys : List F} {j n : Nat} (h : TyRow ts row) (hy : TyRow ((ts.drop j).take n) ys) (hn : j + n ≤ ts.length) : TyRow ts (Abs.splice row j ys) := by
 have hl := h.len
 have hly : ys.length = n := by rw [hy.len]; simp; omega
 have hlen : (Abs.splice row j ys).length = row.length := splice_len (by omega)
 refine TyRow.of (by omega) fun i t x h1 h2 => ?_
 rw [splice_get (by omega)] at h2
 split at h2
 ·obtain ⟨t', h3, h4⟩ := hy.get h2
  rw [List.getElem?_take] at h3
  split at h3
  ·rw [List.getElem?_drop, show j + (i - j) = i by omega, h1] at h3
   cases h3
   exact h4
  ·cases h3
 ·obtain ⟨t', h3, h4⟩ := h.get h2
  rw [h1] at h3
  cases h3
  exact h4
/-- - -/
theorem splice_rows {hz : GH} {ts : List LT} {rows : Rows} {arr : Array Value} {off i j n : Nat} {ys : List F} {vs : List Value} (hi : i < rows.length) (hs : off + rows.length * ts.length ≤ arr.size) (hty : ∀ row ∈ rows, TyRow ts row)
  (hty2 : TyRow ((ts.drop j).take n) ys) (hn : j + n ≤ ts.length) (hvs : vs.length = n) (hr : RowsAt hz ts rows arr off) (hy : ∀ j y, ys[j]? = some y → RepF hz y (vs.getD j undef)) :
  RowsAt hz ts (rows.set i (splice (rowAt rows i) j ys)) (over arr (off + i * ts.length + j) vs) off ∧ (∀ row ∈ rows.set i (splice (rowAt rows i) j ys), TyRow ts row) := by
 have hle : (i + 1) * ts.length ≤ rows.length * ts.length := Nat.mul_le_mul_right _ hi
 rw [Nat.add_mul] at hle
 have hrow := rowAt_get hi
 have htr := hty _ (List.mem_of_getElem? hrow)
 have hly : ys.length = n := by rw [hty2.len]; simp; omega
 have htn := htr.splice hty2 hn
 refine ⟨fun a jj row x h1 h2 => ?_, fun row hrow => ?_⟩
 ·rw [over_get _ _ _ _ (by omega)]
  rw [List.getElem?_set] at h1
  by_cases ha : i = a
  ·subst ha
   simp only [if_true, hi] at h1
   cases h1
   have hj := (List.getElem?_eq_some_iff.1 h2).1
   rw [htn.len] at hj
   rw [splice_get (by rw [htr.len]; omega)] at h2
   split at h2
   ·rename_i hc
    rw [if_pos (by omega), show off + i * ts.length + jj - (off + i * ts.length + j) = jj - j by omega]
    exact hy _ x h2
   ·rename_i hc
    rw [if_neg (by omega)]
    exact hr i jj _ x hrow h2
  ·simp only [ha, if_false] at h1
   have hj := (List.getElem?_eq_some_iff.1 h2).1
   rw [(hty row (List.mem_of_getElem? h1)).len] at hj
   have hne : ¬ (off + i * ts.length + j ≤ off + a * ts.length + jj ∧ off + a * ts.length + jj < off + i * ts.length + j + vs.length) := by
    rintro ⟨h3, h4⟩
    rcases Nat.lt_or_gt_of_ne ha with h5 | h5
    ·have := Nat.mul_le_mul_right ts.length (show i + 1 ≤ a from h5)
     rw [Nat.add_mul] at this
     omega
    ·have := Nat.mul_le_mul_right ts.length (show a + 1 ≤ i from h5)
     rw [Nat.add_mul] at this
     omega
   rw [if_neg hne]
   exact hr a jj row x h1 h2
 ·rcases List.mem_or_eq_of_mem_set hrow with h | h
  ·exact hty _ h
  ·rw [h]; exact htn
end
end Go.Abs
end
section
set_option linter.unusedVariables false
set_option linter.unusedSimpArgs false
set_option linter.unusedSectionVars false
namespace Go.Abs
open Go
variable [Globs]
section
variable {A : Nat → Prop} {hz hb : GH} {O : OM} {env : Env} {tm : Nat → Value} {w w' : World} {P : Program} {H : Hints} {me : FuncId} {o : Oper} {cs : List Bool} {us : List Upd} {u : Unit}

/-- - -/
theorem LeafX.world {p : List Nat} {blk : Nat} (hO : O blk = some p) (hw : ∀ b, b ≠ blk → w'.heap[b]? = w.heap[b]?) {h : Option (Nat × Nat)} {mk : List Nat} {n i j : Nat} {x y : F} (hc : LeafX hz O w p h mk n i j x y) : LeafX hz O w' p h mk n i j x y := by
 unfold LeafX at hc ⊢
 split
 ·rename_i hm
  rw [if_pos hm] at hc
  obtain ⟨v, rfl, hc⟩ := hc
  refine ⟨v, rfl, ?_⟩
  rcases hc with hc | ⟨ts, rs, rfl, h1, h2⟩
  ·exact .inl hc
  ·refine .inr ⟨ts, rs, rfl, h1, ?_⟩
   refine h2.keep (hb := hz) (hb' := hz) ⟨GH.le_refl _, GH.le_refl _, fun b q e => ⟨e, hw b ?_⟩⟩
   rintro rfl
   rw [hO] at e
   have := congrArg List.length (Option.some.inj e)
   simp at this
 ·rename_i hm
  rw [if_neg hm] at hc
  exact hc
/-- - -/
theorem nx_write (I : Inv A hz hb O env tm w) {l : Loc} {h h' : Option (Nat × Nat)} {mk : List Nat} {ks : List LT} {rows : Rows} {i j n : Nat} {ysR ysS : List F} {vs : List Value}
  (hg : getLoc env l = .own (.nx h mk :: ks) rows) (hi : i < rows.length) (hjn : j + n ≤ ks.length) (htR : TyRow ((ks.drop j).take n) ysR) (htS : TyRow (((anyK mk 0 ks).drop j).take n) ysS) (hvs : vs.length = n)
  (hone : ∀ v ∈ vs, v.oneCell' = true) (hS : ∀ m y, ysS[m]? = some y → RepF hz y (vs.getD m undef))
  (hold : ∀ i' j' x y, ¬ (i' = i ∧ j ≤ j' ∧ j' < j + n) → LeafX hz O w (locPath l) h mk ks.length i' j' x y → LeafX hz O w (locPath l) h' mk ks.length i' j' x y)
  (hnew : ∀ m x, m < n → ysR[m]? = some x → ∃ y, ysS[m]? = some y ∧ LeafX hz O w (locPath l) h' mk ks.length i (j + m) x y) :
  ∃ blk off cap w', LocIs env tm w l (.own (.nx h mk :: ks) rows) (.slice (some ⟨blk, off, none⟩) rows.length cap) ∧ (storeCells ⟨blk, off + i * ks.length + j, none⟩ vs 0).run P w = .ok () w' ∧
   Inv A hz hb O (chLoc env l (.own (.nx h' mk :: ks) (rows.set i (splice (rowAt rows i) j ysR)))) tm w' ∧ Side w w' := by
 obtain ⟨c, hl, hown⟩ := I.own_at hg
 obtain ⟨h0, mk', ks', sk, e, hk2, hty, ⟨hts, a, cap, rfl, hcap, hd⟩, hlen, hnest⟩ := hown.nx rfl
 cases e
 rcases hd with hd | ⟨blk, off, arr, t, fr, rfl, hO, hw, hf, hs, hc⟩
 ·omega
 have hkl : (anyK mk 0 ks).length = ks.length := anyK_len _ _ _
 have his : i < sk.length := by omega
 have hle : (i + 1) * ks.length ≤ cap * ks.length := Nat.mul_le_mul_right _ (by omega)
 rw [Nat.add_mul] at hle
 have hle2 : sk.length * ks.length ≤ cap * ks.length := Nat.mul_le_mul_right _ hcap
 have hlS : ysS.length = n := by rw [htS.len]; simp [hkl]; omega
 have hlR : ysR.length = n := by rw [htR.len]; simp; omega
 obtain ⟨hr2, hts2⟩ := splice_rows (hz := hz) (ts := anyK mk 0 ks) (rows := sk) (arr := arr) (off := off) (vs := vs) his (by rw [hkl] at hs ⊢; omega) hts htS (by rw [hkl]; exact hjn) hvs hc hS
 obtain ⟨w', h1, h2, h3, h4, h5⟩ := store_at (P := P) (off := off + i * ks.length + j) (vs := vs) hw hf hone (by rw [hkl] at hs; omega)
 have hrow := rowAt_get hi
 have hsrow := rowAt_get his
 have hrl : (rowAt rows i).length = ks.length := (hty _ (List.mem_of_getElem? hrow)).len
 have hsl : (rowAt sk i).length = ks.length := by rw [(hts _ (List.mem_of_getElem? hsrow)).len, hkl]
 have htr := (hty _ (List.mem_of_getElem? hrow)).splice htR hjn
 refine ⟨blk, off, cap, w', by rw [← hlen]; exact hl, h1, ?_, h5⟩
 refine write_listK I hg hl hO h3 h4 (.inr (.inr ⟨rfl, h', mk, ks, _, rfl, hk2, fun row hr => ?_, ⟨hts2, _, cap, by rw [List.length_set], by rw [List.length_set]; exact hcap, .inr ⟨blk, off, _, t, fr, rfl, hO, h2, by unfold Free at hf ⊢; rwa [over_size], by rw [over_size]; exact hs, by rw [hkl] at hr2; exact hr2⟩⟩, by simp [hlen], ?_⟩)) (.inr ⟨rfl, rfl, rfl⟩) (fun _ => by simp)
 ·rcases List.mem_or_eq_of_mem_set hr with h | h
  ·exact hty _ h
  ·rw [h]; exact htr
 ·intro i' j' row srow x e1 e2 e3
  rw [List.getElem?_set] at e1 e2
  by_cases hii : i = i'
  ·subst hii
   simp only [if_true, hi, his, Option.some.injEq] at e1 e2
   subst e1 e2
   rw [splice_get (by omega)] at e3
   rw [splice_get (by omega)]
   by_cases hr : j ≤ j' ∧ j' < j + n
   ·rw [if_pos (by omega)] at e3
    rw [if_pos (by omega)]
    obtain ⟨y, h6, h7⟩ := hnew (j' - j) x (by omega) e3
    rw [show j + (j' - j) = j' by omega] at h7
    exact ⟨y, h6, h7.world hO h3⟩
   ·rw [if_neg (by omega)] at e3
    rw [if_neg (by omega)]
    obtain ⟨y, h6, h7⟩ := hnest i j' _ _ x hrow hsrow e3
    exact ⟨y, h6, (hold _ _ _ _ (fun h => hr h.2) h7).world hO h3⟩
  ·simp only [hii, if_false] at e1 e2
   obtain ⟨y, h6, h7⟩ := hnest i' j' _ _ x e1 e2 e3
   exact ⟨y, h6, (hold _ _ _ _ (fun h => hii h.1.symm) h7).world hO h3⟩
theorem nx_typed (I : Inv A hz hb O env tm w) {l : Loc} {h : Option (Nat × Nat)} {mk : List Nat} {ks : List LT} {rows : Rows} (hg : getLoc env l = .own (.nx h mk :: ks) rows) : (∀ row ∈ rows, TyRow ks row) ∧ isMp ks = false := by
 obtain ⟨c, hl, hown⟩ := I.own_at hg
 obtain ⟨h0, mk', ks', sk, e, hk2, hty, _⟩ := hown.nx rfl
 cases e
 exact ⟨hty, hk2⟩
/-- - -/
theorem store_nx (I : Inv A hz hb O env tm w) {t : TypeId} {a x : Operand} {mv : Bool} (ho : o.op = .store t a x) (hd : o.dst = none) {l : Loc} {i j : Nat} (ha : rd a env = some ([], [], .eref l i j))
  {c1 c2 : List Bool} {u1 u2 : List Upd} {v : V} (h1 : takeOp mv x env = some (c1, u1, v)) {n : Nat} (hn : sz P t = some n) (hsz : (typedLeaves (lty P 20 t) (leavesOf v)).length = n ∧ (leavesOf v).length = n)
  {ts1 : List LT} {rows1 : Rows} (hg : getLoc (applyU u1 env) l = .own ts1 rows1) (hnx : isNx ts1 = true) (hC : storeNx l ts1 rows1 i j n (typedLeaves (lty P 20 t) (leavesOf v)) (applyU u1 env) = some (c2, u2, u))
  (hcs : ∀ b ∈ c2, b = true) : Done A hz hb (applyU (u1 ++ u2) env) tm w o.dst ((execOp (evO tm) o).run P w) := by
 obtain ⟨_, _, p, h4, _⟩ := rd_ok I ha
 obtain ⟨ts, rows, blk, off, n', cap, hL, hi, hc, hnmp⟩ := rep_E h4 (.inr (.inr (.inr (.inl ⟨_, _, _, rfl⟩))))
 obtain ⟨h, mk, ks, rfl⟩ : ∃ h mk ks, ts1 = .nx h mk :: ks := by
  unfold isNx at hnx
  split at hnx
  ·exact ⟨_, _, _, rfl⟩
  ·cases hnx
 -- the place is still what it was
 have place : ∀ {hz1 hb1 : GH} {O1 : OM}, Inv A hz1 hb1 O1 (applyU u1 env) tm w → Gh env (applyU u1 env) tm w → rows1 = rows ∧ ts = .nx h mk :: ks ∧ LocIs (applyU u1 env) tm w l (.own (.nx h mk :: ks) rows1) (.slice (some ⟨blk, off, none⟩) n' cap) := by
  intro hz1 hb1 O1 I1 G
  have hw1 := hL.weak.gh G
  obtain ⟨c0, hl0, hown0⟩ := I1.own_at hg
  obtain ⟨rfl, hro⟩ := hw1.here hl0 (by simp)
  simp only [rowsOf, Option.some.injEq, Prod.mk.injEq] at hro
  exact ⟨hro.2, hro.1.symm, hl0⟩
 have fin : ∀ {hz1 hb1 : GH} {O1 : OM} {vs : List Value} {E : Env}, FzExt A hz hb hz1 hb1 → rows1 = rows ∧ ts = .nx h mk :: ks ∧ LocIs (applyU u1 env) tm w l (.own (.nx h mk :: ks) rows1) (.slice (some ⟨blk, off, none⟩) n' cap) →
   (∃ blk off cap w', LocIs (applyU u1 env) tm w l (.own (.nx h mk :: ks) rows1) (.slice (some ⟨blk, off, none⟩) rows1.length cap) ∧ (storeCells ⟨blk, off + i * ks.length + j, none⟩ vs 0).run P w = .ok () w' ∧
    Inv A hz1 hb1 O1 E tm w' ∧ Side w w') → vs = (evO tm x).cells.toList → (evO tm x).cells.size = n → applyU u2 (applyU u1 env) = E → Done A hz hb (applyU (u1 ++ u2) env) tm w o.dst ((execOp (evO tm) o).run P w) := by
  rintro hz1 hb1 O1 vs E e1 ⟨rfl, rfl, hl0⟩ ⟨blk', off', cap', w', hl1, hrun, I2, hside⟩ rfl hs1 rfl
  obtain ⟨_, hcc⟩ := hl0.det hl1
  simp only [Value.slice.injEq, Option.some.injEq, Addr.mk.injEq] at hcc
  obtain ⟨⟨rfl, rfl, _⟩, rfl, rfl⟩ := hcc
  refine ⟨undef, w', hz1, hb1, O1, e1, by rw [hd, applyU_append]; exact I2, .inr ⟨?_, rfl⟩, hside⟩
  have hc' : evO tm a = .pointer (some ⟨blk, off + i * ks.length + j, none⟩) := hc
  simp only [execOp, ho, hc', Instr.storeAt, Instr.sureAddr, storeVar, Sem.run_bind, Sem.run_pure, Result.andThen_ok, run_sz hn]
  have hsz2 : ¬ (evO tm x).cells.size ≠ n := by rw [hs1]; simp
  rw [if_neg hsz2, hrun]
  rfl
 unfold storeNx at hC
 rcases bif_inv hC with ⟨hm, hC⟩ | ⟨hm, hC⟩
 ·-- a list comes back
  rcases bif_inv hC with ⟨hn1, hC1⟩ | ⟨_, hC1⟩
  rotate_left
  ·exact (bad_inv hC1).elim
  clear hC
  obtain rfl := Nat.eq_of_beq_eq_true hn1
  have hfill : ∃ i' j' ts2 rs, h = some (i', j') ∧ typedLeaves (lty P 20 t) (leavesOf v) = [.own ts2 rs] := by
   generalize typedLeaves (lty P 20 t) (leavesOf v) = xs at hC1 ⊢
   cases h with
   | none => exact (bad_inv (α := Unit) (env := applyU u1 env) hC1).elim
   | some z =>
    obtain ⟨i', j'⟩ := z
    rcases xs with _ | ⟨x0, _ | ⟨x1, xs⟩⟩
    ·exact (bad_inv (α := Unit) (env := applyU u1 env) hC1).elim
    ·cases x0 with
     | own ts2 rs => exact ⟨_, _, _, _, rfl, rfl⟩
     | _ => exact (bad_inv (α := Unit) (env := applyU u1 env) hC1).elim
    ·cases x0 <;> exact (bad_inv (α := Unit) (env := applyU u1 env) hC1).elim
  obtain ⟨i', j', ts2, rs, rfl, hxs⟩ := hfill
  rw [hxs] at hC1
  unfold fillNx at hC1
  simp only at hC1
  rcases bif_inv hC1 with ⟨hjj, hC2⟩ | ⟨_, hC2⟩
  rotate_left
  ·exact (bad_inv hC2).elim
  clear hC1
  obtain rfl := Nat.eq_of_beq_eq_true hjj
  cases hk : ks[j]? with
  | none => rw [hk] at hC2; exact (bad_inv hC2).elim
  | some k0 =>
  rw [hk] at hC2
  obtain ⟨ts3, rfl⟩ : ∃ ts3, k0 = .lst ts3 := by
   cases k0 <;> first | exact ⟨_, rfl⟩ | exact (bad_inv hC2).elim
  simp only at hC2
  rcases bif_inv hC2 with ⟨he, hC3⟩ | ⟨_, hC3⟩
  rotate_left
  ·exact (bad_inv hC3).elim
  clear hC2
  simp only [Bool.and_eq_true, Bool.not_eq_true'] at he
  obtain rfl := eqTs_eq he.1
  obtain ⟨cs', rfl, hD⟩ := chk_bind hC3
  obtain rfl := Nat.eq_of_beq_eq_true (hcs _ List.mem_cons_self)
  obtain ⟨_, hE⟩ := setLoc_inv hD
  obtain ⟨_, hz1, hb1, O1, S, hsz1, hl⟩ := takeOp_leaves I h1 (okOf (ts := lty P 20 t) (by rw [hxs]; rfl)) (env.length + 2)
  have hN : getS (applyU u1 env) (env.length + 2) = .undef := getS_ge (by rw [S.gh.len]; omega)
  have I1 := S.inv.ren hN [0] (locPath l ++ [i * ks.length + j])
  have hleaf : RepL hz1 hb1 O1 w [env.length + 2, 0] (.own ts3 rs) ((evO tm x).cells.getD 0 undef) := leaves_typed (ts := lty P 20 t) (p := [env.length + 2]) (g := fun j => (evO tm x).cells.getD j undef) hl 0 _ (by rw [hxs]; rfl)
  have hown : OwnL hz1 (ren [env.length + 2, 0] (locPath l ++ [i * ks.length + j]) O1) w (locPath l ++ [i * ks.length + j]) ts3 rs ((evO tm x).cells.getD 0 undef) := (Own.ren (q := locPath l ++ [i * ks.length + j]) hleaf).lst he.2
  have hs1 : (evO tm x).cells.size = 1 := by rw [hsz1]; exact hsz.2
  obtain ⟨hty, _⟩ := nx_typed I1 hg
  have hpl := place I1 S.gh
  have hi1 : i < rows1.length := by rw [hpl.1]; exact hi
  have hrow : reRow ks (rowAt rows1 i) = rowAt rows1 i := (hty _ (List.mem_of_getElem? (rowAt_get hi1))).re
  have hjk : j < ks.length := (List.getElem?_eq_some_iff.1 hk).1
  have hvl : (evO tm x).cells.toList.length = 1 := by rw [Array.length_toList]; exact hs1
  have hv0 : ∀ m, (evO tm x).cells.toList.getD m undef = (evO tm x).cells.getD m undef := fun m => by simp [List.getD_eq_getElem?_getD, Array.getD_eq_getD_getElem?]
  obtain ⟨_, a0, cap0, hsl, _⟩ := id hown
  refine fin S.ext hpl (nx_write (P := P) (h' := none) (n := 1) (ysR := [.lst ts3 rs]) (ysS := [.lit ((evO tm x).cells.getD 0 undef)]) (vs := (evO tm x).cells.toList) I1 hg hi1 (by omega) ?_ ?_ hvl ?_ ?_ ?_ ?_) rfl hs1 ?_
  ·refine TyRow.of (by simp; omega) fun m t0 y h5 h6 => ?_
   cases m with
   | succ m => simp at h6
   | zero =>
    simp at h6
    subst h6
    rw [List.getElem?_take_of_lt (by omega), List.getElem?_drop, Nat.add_zero, hk] at h5
    cases h5
    exact ⟨_, rfl⟩
  ·refine TyRow.of (by simp [anyK_len]; omega) fun m t0 y h5 h6 => ?_
   cases m with
   | succ m => simp at h6
   | zero =>
    simp at h6
    subst h6
    rw [List.getElem?_take_of_lt (by omega), List.getElem?_drop, Nat.add_zero, anyK_get, hk, Nat.zero_add, hm] at h5
    cases h5
    show cellF _ = true
    have hsl' : (evO tm x).cells.getD 0 undef = .slice a0 rs.length cap0 := hsl
    rw [← Array.getD_eq_getD_getElem?, hsl']
    rfl
  ·intro c hcm
   obtain ⟨m, hm2⟩ := List.getElem?_of_mem hcm
   have hml := (List.getElem?_eq_some_iff.1 hm2).1
   have h7 := hv0 0
   rw [hsl] at h7
   have hm0 : m = 0 := by omega
   subst hm0
   have : c = .slice a0 rs.length cap0 := by
    rw [← h7]
    simp [List.getD_eq_getElem?_getD, hm2]
   rw [this]
   rfl
  ·intro m y h5
   cases m with
   | succ m => simp at h5
   | zero =>
    simp only [List.getElem?_cons_zero, Option.some.injEq] at h5
    subst h5
    rw [hv0]
    exact .lit _
  ·intro i' j' x' y' hne hx'
   unfold LeafX at hx' ⊢
   split
   ·rename_i hm'
    rw [if_pos hm'] at hx'
    obtain ⟨v', rfl, hx'⟩ := hx'
    refine ⟨v', rfl, .inr ?_⟩
    rcases hx' with hx' | hx'
    ·simp only [Option.some.injEq, Prod.mk.injEq] at hx'
     exact (hne (by omega)).elim
    ·exact hx'
   ·rename_i hm'
    rw [if_neg hm'] at hx'
    exact hx'
  ·intro m x' hm2 hx'
   cases m with
   | succ m => exact absurd hm2 (by omega)
   | zero =>
    simp only [List.getElem?_cons_zero, Option.some.injEq] at hx'
    subst hx'
    refine ⟨_, rfl, ?_⟩
    unfold LeafX
    rw [Nat.add_zero, if_pos hm]
    exact ⟨_, rfl, .inr ⟨ts3, rs, rfl, he.2, hown⟩⟩
  ·rw [hE]; unfold stR; rw [hrow]
 ·rcases bif_inv hC with ⟨_, hC⟩ | ⟨hh, hC⟩
  ·exact (bad_inv hC).elim
  obtain ⟨ys, hy, hD⟩ := opt_bind hC
  split at hD
  ·exact (bad_inv hD).elim
  rename_i hjn
  obtain ⟨_, rfl⟩ := upd_inv hD
  obtain ⟨_, hz1, hb1, O1, e1, I1, hN, hsz1, hty1, hry, _, G⟩ := takeRow_ok I h1 hy
  obtain ⟨hty, _⟩ := nx_typed I1 hg
  have hpl := place I1 G
  have hi1 : i < rows1.length := by rw [hpl.1]; exact hi
  have hrow : reRow ks (rowAt rows1 i) = rowAt rows1 i := (hty _ (List.mem_of_getElem? (rowAt_get hi1))).re
  have hs1 : (evO tm x).cells.size = n := by rw [hsz1]; exact hsz.2
  have hvl : (evO tm x).cells.toList.length = n := by rw [Array.length_toList]; exact hs1
  have hv0 : ∀ m, (evO tm x).cells.toList.getD m undef = (evO tm x).cells.getD m undef := fun m => by simp [List.getD_eq_getElem?_getD, Array.getD_eq_getD_getElem?]
  have hyl : ys.length = n := by rw [hty1.len]; simp; omega
  refine fin e1 hpl (nx_write (P := P) (h' := h) (n := n) (ysR := ys) (ysS := ys) (vs := (evO tm x).cells.toList) I1 hg hi1 (by omega) hty1 ?_ hvl ?_ (fun m y e => by rw [hv0]; exact hry m y e) (fun _ _ _ _ _ h => h) (fun m x' hm2 hx' => ⟨x', hx', by
   unfold LeafX
   rw [if_neg (by rw [hits_mk hh m hm2]; simp)]⟩)) rfl hs1 ?_
  ·refine TyRow.of (by simp [anyK_len]; omega) fun m t0 y h5 h6 => ?_
   have hmn : m < n := by have := (List.getElem?_eq_some_iff.1 h6).1; omega
   obtain ⟨t1, h7, h8⟩ := hty1.get h6
   rw [List.getElem?_take_of_lt hmn, List.getElem?_drop] at h5 h7
   rw [anyK_get, h7, Nat.zero_add, hits_mk hh m hmn] at h5
   cases h5
   exact h8
  ·intro v hv
   obtain ⟨m, hm2⟩ := List.getElem?_of_mem hv
   have hml := (List.getElem?_eq_some_iff.1 hm2).1
   have hym : ys[m]? = some (ys[m]'(by omega)) := List.getElem?_eq_getElem (by omega)
   have h5 := hry m _ hym
   have h6 : (evO tm x).cells.getD m undef = v := by
    have : (evO tm x).cells[m]? = some v := by simpa using hm2
    simp [Array.getD_eq_getD_getElem?, this]
   rw [h6] at h5
   exact one_cell h5 (toFs_cells hy _ (List.mem_of_getElem? hym))
  ·rw [← hrow]
   show applyU [.rows l _] (applyU u1 env) = _
   rw [hrow]
   have hmod : ∀ rows' : Rows, applyU [.rows l rows'] (applyU u1 env) = chLoc (applyU u1 env) l (.own (.nx h mk :: ks) rows') := by
    intro rows'
    unfold getLoc at hg
    simp only [applyU, apply1, modLoc, chLoc]
    cases hl : l.leaf with
    | none => rw [hl] at hg; simp only at hg ⊢; rw [hg]; rfl
    | some j => rw [hl] at hg; simp only at hg ⊢; rw [hg]; rfl
   rw [hmod]
   unfold stR
   rw [hrow]
end
end Go.Abs
end
section
set_option linter.unusedVariables false
set_option linter.unusedSimpArgs false
set_option linter.unusedSectionVars false
namespace Go.Abs
open Go
variable [Globs]
section
variable {A : Nat → Prop} {hz hb : GH} {O : OM} {env : Env} {tm : Nat → Value} {w w' : World} {P : Program} {H : Hints} {me : FuncId} {o : Oper} {cs : List Bool} {us : List Upd} {u : Unit}

/-- - -/
theorem done_skip {hz1 hb1 : GH} {O1 : OM} {w1 : World} (I : Inv A hz1 hb1 O1 (applyU us env) tm w1) (e : FzExt A hz hb hz1 hb1) (hs : Side w w1) (hd : o.dst = none) {r : Result Next} (hr : r = .ok .skip w1) :
  Done A hz hb (applyU us env) tm w o.dst r := by
 refine ⟨undef, w1, hz1, hb1, O1, e, ?_, .inr ⟨hr, rfl⟩, hs⟩
 rw [hd]
 exact I
/-- - -/
theorem own_cells (I : Inv A hz hb O env tm w) {l : Loc} {ts : List LT} {rows : Rows} (h : getLoc env l = .own ts rows) (h0 : rows ≠ []) (hnm : isMp ts = false) : ∃ blk off cap arr t fr, LocIs env tm w l (.own ts rows) (.slice (some ⟨blk, off, none⟩) rows.length cap) ∧
  O blk = some (locPath l) ∧ w.heap[blk]? = some (.cells arr t fr) ∧ Free arr fr ∧ rows.length ≤ cap ∧ off + cap * ts.length ≤ arr.size ∧ (∀ row ∈ rows, TyRow ts row) ∧ RowsAt hz ts rows arr off := by
 obtain ⟨c, hl, hown⟩ := I.own_at h
 obtain ⟨hty, a, cap, rfl, hcap, hd⟩ := hown.lst hnm
 rcases hd with hd | ⟨blk, off, arr, t, fr, rfl, hO, hw, hf, hs, hc⟩
 ·exact (h0 (List.eq_nil_of_length_eq_zero (by omega))).elim
 ·exact ⟨blk, off, cap, arr, t, fr, hl, hO, hw, hf, hcap, hs, hty, hc⟩
theorem modRows {l : Loc} {ts : List LT} {rows rows' : Rows} (h : getLoc env l = .own ts rows) : applyU [.rows l rows'] env = chLoc env l (.own ts rows') := by
 unfold getLoc at h
 simp only [applyU, apply1, modLoc, chLoc]
 cases hl : l.leaf with
 | none => rw [hl] at h; simp only at h ⊢; rw [h]; rfl
 | some j => rw [hl] at h; simp only at h ⊢; rw [h]; rfl
/-- - -/
theorem write_cells (I : Inv A hz hb O env tm w) {l : Loc} {ts : List LT} {rows rows' : Rows} (h : getLoc env l = .own ts rows) {blk off cap : Nat} {arr : Array Value} {t : TypeId} {fr : Nat × Nat}
  (hl : LocIs env tm w l (.own ts rows) (.slice (some ⟨blk, off, none⟩) rows.length cap)) (hO : O blk = some (locPath l)) (hw : w.heap[blk]? = some (.cells arr t fr)) (hf : Free arr fr) (hcap : rows.length ≤ cap) (hs : off + cap * ts.length ≤ arr.size)
  {at_ : Nat} {vs : List Value} (hv : ∀ v ∈ vs, v.oneCell' = true) (hb' : at_ + vs.length ≤ arr.size) (hlen : rows'.length = rows.length) (hty : ∀ row ∈ rows', TyRow ts row) (hr : RowsAt hz ts rows' (over arr at_ vs) off) (hnm : isMp ts = false) :
  ∃ w', (storeCells ⟨blk, at_, none⟩ vs 0).run P w = .ok () w' ∧ Inv A hz hb O (chLoc env l (.own ts rows')) tm w' ∧ Side w w' := by
 obtain ⟨w', h1, h2, h3, h4, h5⟩ := store_at (P := P) hw hf hv hb'
 refine ⟨w', h1, write_list I h hl hO h3 h4 ?_ (fun _ => hlen), h5⟩
 exact .inl ⟨hnm, hty, _, cap, by rw [hlen], by omega, .inr ⟨blk, off, _, t, fr, rfl, hO, h2, by unfold Free at hf ⊢; rwa [over_size], by rw [over_size]; exact hs, hr⟩⟩
theorem op_store_e (I : Inv A hz hb O env tm w) {t : TypeId} {a x : Operand} {mv : Bool} (ho : o.op = .store t a x) (hd : o.dst = none) {l : Loc} {i j : Nat} (ha : rd a env = some ([], [], .eref l i j))
  (h : (do let v ← takeOp mv x; storeV P t (.eref l i j) v : M Unit) env = some (cs, us, u)) (hcs : ∀ b ∈ cs, b = true) : Done A hz hb (applyU us env) tm w o.dst ((execOp (evO tm) o).run P w) := by
 obtain ⟨c1, u1, v, c2, u2, h1, hA, rfl, rfl⟩ := bind_inv h
 obtain ⟨n, hn, hB⟩ := opt_bind hA
 simp only at hB
 split at hB
 ·exact (bad_inv hB).elim
 rename_i hsz
 simp only [not_or, ne_eq, Decidable.not_not] at hsz
 obtain ⟨hlu, hC⟩ := locM_bind hB
 clear h hA hB
 obtain ⟨_, _, p, h4, _⟩ := rd_ok I ha
 obtain ⟨ts, rows, blk, off, n', cap, hL, hi, hc, hnmp⟩ := rep_E h4 (.inr (.inr (.inr (.inl ⟨_, _, _, rfl⟩))))
 cases hg : getLoc (applyU u1 env) l with
 | own ts1 rows1 =>
  rw [hg] at hC
  simp only at hC
  rcases bif_inv hC with ⟨hnx, hC⟩ | ⟨hnx, hC⟩
  ·exact store_nx I ho hd ha h1 hn hsz hg hnx hC fun b hb => hcs b (List.mem_append_right _ hb)
  obtain ⟨ys, hy, hD⟩ := opt_bind hC
  split at hD
  ·exact (bad_inv hD).elim
  rename_i hjn
  obtain ⟨rfl, rfl⟩ := upd_inv hD
  obtain ⟨rfl, hz1, hb1, O1, e1, I1, hN, hsz1, hty1, hry, _, G⟩ := takeRow_ok I h1 hy
  -- the place is still what it was
  have hw1 := hL.weak.gh G
  obtain ⟨c0, hl0, hown0⟩ := I1.own_at hg
  obtain ⟨rfl, hro⟩ := hw1.here hl0 (by simp)
  simp only [rowsOf, Option.some.injEq, Prod.mk.injEq] at hro
  obtain ⟨rfl, rfl⟩ := hro
  have hnm : isMp ts1 = false := by
   cases hm : isMp ts1 with
   | false => rfl
   | true =>
    rcases mp_cases hm with h5 | h5
    ·rw [hnmp] at h5; cases h5
    ·rw [hnx] at h5; cases h5
  rw [kN_no hnx] at hc
  have h0 : rows1 ≠ [] := by rintro rfl; simp at hi
  obtain ⟨blk', off', cap', arr, t', fr, hl1, hO, hwb, hf, hcap, hs, hty, hr⟩ := own_cells I1 hg h0 hnm
  obtain ⟨_, hcc⟩ := hl0.det hl1
  simp only [Value.slice.injEq, Option.some.injEq, Addr.mk.injEq] at hcc
  obtain ⟨⟨rfl, rfl, _⟩, rfl, rfl⟩ := hcc
  have hcl : (evO tm x).cells.toList.length = n := by rw [Array.length_toList, hsz1]; exact hsz.2
  have hyl : ys.length = n := by
   have := (toFs_ty hy).2
   have h3 := hty1.len
   omega
  have hle : (i + 1) * ts1.length ≤ rows1.length * ts1.length := Nat.mul_le_mul_right _ hi
  have hle2 : rows1.length * ts1.length ≤ cap * ts1.length := Nat.mul_le_mul_right _ hcap
  rw [Nat.add_mul] at hle
  obtain ⟨hr2, hty2⟩ := splice_rows (vs := (evO tm x).cells.toList) (off := off) hi (by omega) hty hty1 (by omega) hcl hr (fun j y e => by
   rw [show (evO tm x).cells.toList.getD j undef = (evO tm x).cells.getD j undef by simp [List.getD_eq_getElem?_getD, Array.getD_eq_getD_getElem?]]
   exact hry j y e)
  have hone : ∀ v ∈ (evO tm x).cells.toList, v.oneCell' = true := by
   intro v hv
   obtain ⟨m, hm⟩ := List.getElem?_of_mem hv
   have hml := (List.getElem?_eq_some_iff.1 hm).1
   have hym : ys[m]? = some (ys[m]'(by omega)) := List.getElem?_eq_getElem (by omega)
   have h5 := hry m _ hym
   have h6 : (evO tm x).cells.getD m undef = v := by
    have : (evO tm x).cells[m]? = some v := by simpa using hm
    simp [Array.getD_eq_getD_getElem?, this]
   rw [h6] at h5
   exact one_cell h5 (toFs_cells hy _ (List.mem_of_getElem? hym))
  obtain ⟨w', hrun, I2, hside⟩ := write_cells (P := P) I1 hg hl1 hO hwb hf hcap hs hone (by omega) (by simp) hty2 hr2 hnm
  have hrow : reRow ts1 (rowAt rows1 i) = rowAt rows1 i := (hty _ (List.mem_of_getElem? (rowAt_get hi))).re
  unfold stR
  rw [applyU_append, modRows hg, hrow]
  refine ⟨undef, w', hz1, hb1, O1, e1, by rw [hd]; exact I2, .inr ⟨?_, rfl⟩, hside⟩
  simp only [execOp, ho, hc, Instr.storeAt, Instr.sureAddr, storeVar, Sem.run_bind, Sem.run_pure, Result.andThen_ok, run_sz hn]
  have hsz2 : ¬ (evO tm x).cells.size ≠ n := by rw [hsz1]; simp [hsz.2]
  rw [if_neg hsz2, hrun]
  rfl
 | _ => rw [hg] at hC; exact (bad_inv hC).elim
end
end Go.Abs
end
section
set_option linter.unusedVariables false
set_option linter.unusedSimpArgs false
set_option linter.unusedSectionVars false
namespace Go.Abs
open Go
variable [Globs]
section
variable {A : Nat → Prop} {hz hb : GH} {O : OM} {env : Env} {tm : Nat → Value} {w w' : World} {P : Program} {H : Hints} {me : FuncId} {o : Oper} {cs : List Bool} {us : List Upd} {u : Unit}

theorem set_same {env : Env} {s : Nat} {v : V} (h : getS env s = v) (hv : v ≠ .undef) : env.set s v = env := by
 have hlt := getS_lt h hv
 unfold getS at h
 rw [List.getD_eq_getElem?_getD, List.getElem?_eq_getElem hlt] at h
 simp only [Option.getD_some] at h
 rw [← h]
 exact List.set_getElem_self hlt
theorem splice_nil {α : Type} (xs : List α) (j : Nat) : splice xs j [] = xs := by simp [splice]
theorem splice_cons {α : Type} {xs : List α} {j : Nat} {y : α} {ys : List α} (h : j + (ys.length + 1) ≤ xs.length) : splice (xs.set j y) (j + 1) ys = splice xs j (y :: ys) := by
 apply List.ext_getElem?
 intro i
 rw [splice_get (by simp; omega), splice_get (by simp; omega)]
 by_cases h1 : j + 1 ≤ i ∧ i < j + 1 + ys.length
 ·rw [if_pos h1, if_pos (by simp; omega), show i - j = (i - (j + 1)) + 1 by omega]
  rfl
 ·rw [if_neg h1]
  by_cases h2 : i = j
  ·subst h2
   rw [if_pos (by simp), List.getElem?_set]
   simp
   omega
  ·rw [if_neg (by simp; omega), List.getElem?_set_ne (Ne.symm h2)]
theorem leafUs_apply {s : Nat} : ∀ {xs : List V} {j : Nat} {env : Env} {row : List V}, getS env s = .obj row → j + xs.length ≤ row.length → applyU (leafUs s j xs) env = env.set s (.obj (splice row j xs))
 | [], j, env, row, h, _ => by rw [splice_nil]; exact (set_same h (by simp)).symm
 | x :: xs, j, env, row, h, hl => by
  simp only [List.length_cons] at hl
  have hlt := getS_lt h (by simp)
  have hg : getS (env.set s (.obj (row.set j x))) s = .obj (row.set j x) := by rw [getS_set]; simp [hlt]
  show applyU (leafUs s (j + 1) xs) (env.set s (putLeaf (getS env s) j x)) = _
  rw [h, putLeaf_obj, leafUs_apply hg (by simp; omega), splice_cons (by omega)]
  rw [List.set_set]
/-- - -/
theorem write_obj (I : Inv A hz hb O env tm w) {s : Nat} {row : List V} (hg : getS env s = .obj row) {xs : List V} {j : Nat} (hj : j + xs.length ≤ row.length) {vs : List Value} (hvs : vs.length = xs.length) (hone : ∀ v ∈ vs, v.oneCell' = true)
  (hx : ∀ k y, xs[k]? = some y → RepL hz hb O w [s, j + k] y (vs.getD k undef)) :
  ∃ blk, tm s = .pointer (some ⟨blk, 0, none⟩) ∧ ∃ w', (storeCells ⟨blk, j, none⟩ vs 0).run P w = .ok () w' ∧ Inv A hz hb O ((env.map (killV (.leaves s j xs.length))).set s (.obj (splice row j xs))) tm w' ∧ Side w w' := by
 have hr := I.rep s
 rw [hg] at hr
 obtain ⟨blk, cells, t, fr, h1, hO, hw, hf, hs, hc⟩ := hr
 obtain ⟨w', hrun, hw', hoth, hsz, hside⟩ := store_at (P := P) (off := j) (vs := vs) hw hf hone (by omega)
 have hlt := getS_lt hg (by simp)
 refine ⟨blk, h1, w', hrun, ?_, hside⟩
 have kp : ∀ p, (∀ r, [s] ≠ p ++ r) → Keeps hz hb O w hz hb O w' p := fun p hp => ⟨GH.le_refl _, GH.le_refl _, fun b q e => ⟨e, hoth b (by rintro rfl; rw [hO] at e; exact hp q (Option.some.inj e))⟩⟩
 have hge : ∀ u, getS ((env.map (killV (.leaves s j xs.length))).set s (.obj (splice row j xs))) u = if s = u then .obj (splice row j xs) else killV (.leaves s j xs.length) (getS env u) := by
  intro u
  rw [getS_set, getS_kill]
  by_cases hu : s = u <;> simp [hu]
  subst hu
  omega
 have hslen : (splice row j xs).length = row.length := splice_len hj
 have hpass : ∀ m : Loc, (KQ.leaves s j xs.length).hits m = false → Pass env tm w ((env.map (killV (.leaves s j xs.length))).set s (.obj (splice row j xs))) tm w' m := by
  intro m hm
  refine Pass.mk (fun ts rows c ⟨v, h2, h3⟩ => ?_) (fun hl row' h2 => ?_) (fun hl f caps h2 => ?_)
  ·unfold LocIs at h2
   cases hml : m.leaf with
   | none =>
    rw [hml] at h2
    simp only at h2
    have hne : s ≠ m.slot := by rintro rfl; rw [hg] at h2; rw [← h2.1] at h3; simp [rowsOf, fail] at h3
    refine ⟨ts, rows, ⟨v, ?_, h3⟩, Like.refl _, fun _ => rfl⟩
    unfold LocIs
    rw [hml]
    simp only
    refine ⟨?_, h2.2⟩
    rw [hge, if_neg hne, h2.1]
    cases v <;> first | rfl | (simp [rowsOf, fail] at h3)
   | some i =>
    rw [hml] at h2
    simp only at h2
    by_cases hsm : s = m.slot
    ·subst hsm
     rw [hg] at h2
     obtain ⟨h4, blk', cells', t', fr', h5, h6, h7⟩ := h2
     rw [h1] at h5
     simp only [Value.pointer.injEq, Option.some.injEq, Addr.mk.injEq] at h5
     obtain ⟨rfl, _⟩ := h5
     rw [hw] at h6
     simp only [Option.some.injEq, Obj.cells.injEq] at h6
     obtain ⟨rfl, rfl, rfl⟩ := h6
     have hni : ¬ (j ≤ i ∧ i < j + xs.length) := by
      simp only [KQ.hits, hml, beq_self_eq_true, Bool.true_and, Bool.and_eq_false_iff, decide_eq_false_iff_not] at hm
      omega
     refine ⟨ts, rows, ⟨v, ?_, h3⟩, Like.refl _, fun _ => rfl⟩
     unfold LocIs
     rw [hml]
     simp only [hge, if_true]
     refine ⟨?_, blk, over cells j vs, t, fr, h1, hw', ?_⟩
     ·rw [← h4]
      simp only [partOf, List.getD_eq_getElem?_getD]
      rw [splice_get hj, if_neg hni]
     ·rw [over_get _ _ _ _ (by omega), if_neg (by omega)]
      exact h7
    ·refine ⟨ts, rows, ⟨v, ?_, h3⟩, Like.refl _, fun _ => rfl⟩
     unfold LocIs
     rw [hml]
     simp only [hge, if_neg hsm]
     cases hv : getS env m.slot with
     | obj row' =>
      rw [hv] at h2
      obtain ⟨h4, blk', cells', t', fr', h5, h6, h7⟩ := h2
      refine ⟨h4, blk', cells', t', fr', h5, ?_, h7⟩
      have hr2 := I.rep m.slot
      rw [hv] at hr2
      obtain ⟨blk2, c2, t2, fr2, h8, h9, _⟩ := hr2
      rw [h5] at h8
      simp only [Value.pointer.injEq, Option.some.injEq, Addr.mk.injEq] at h8
      obtain ⟨rfl, _⟩ := h8
      rw [hoth blk' (by rintro rfl; rw [hO] at h9; simp at h9; exact hsm h9)]
      exact h6
     | tup row' => rw [hv] at h2; exact h2
     | _ => rw [hv] at h2; exact h2.2.elim
  ·rw [hge]
   by_cases hsm : s = m.slot
   ·rw [if_pos hsm]
    rw [← hsm, hg] at h2
    cases h2
    exact ⟨_, rfl, hslen, rfl⟩
   ·rw [if_neg hsm, h2]
    exact ⟨row', rfl, rfl, rfl⟩
  ·rw [hge]
   by_cases hsm : s = m.slot
   ·rw [← hsm, hg] at h2; cases h2
   ·rw [if_neg hsm, h2]
    exact ⟨f, _, rfl, rfl⟩
 refine ⟨I.sub, fun b o e => ?_, fun b p e => ?_, fun b e => I.fresh b (by omega), I.glob, fun u => ?_⟩
 ·by_cases hbk : b = blk
  ·subst hbk; rw [(I.owned _ _ hO).2.1] at e; cases e
  ·rw [hoth b hbk]; exact I.agree b o e
 ·have := I.owned b p e; exact ⟨this.1, this.2.1, by omega⟩
 ·rw [hge]
  by_cases hu : s = u
  ·subst hu
   rw [if_pos rfl]
   refine ⟨blk, over cells j vs, t, fr, h1, hO, hw', by unfold Free at hf ⊢; rwa [over_size], by rw [over_size, hslen]; exact hs, fun i y e => ?_⟩
   rw [splice_get hj] at e
   rw [over_get _ _ _ _ (by omega)]
   split at e
   ·rename_i hi
    rw [if_pos (by omega)]
    have := (hx (i - j) y e).keep (kp [s, j + (i - j)] (by intro r e; simp at e))
    rw [show j + (i - j) = i by omega] at this
    exact this
   ·rename_i hi
    rw [if_neg (by omega)]
    exact (hc i y e).keep (kp _ (by intro r e; simp at e))
  ·rw [if_neg hu]
   refine ((I.rep u).nk _).keep (kp _ (by intro r e; simp at e; exact hu e.1)) fun l hl => hpass l (mentsV_kill hl).2
end
end Go.Abs
end
section
set_option linter.unusedVariables false
set_option linter.unusedSimpArgs false
set_option linter.unusedSectionVars false
namespace Go.Abs
open Go
variable [Globs]
section
variable {A : Nat → Prop} {hz hb : GH} {O : OM} {env : Env} {tm : Nat → Value} {w w' : World} {P : Program} {H : Hints} {me : FuncId} {o : Oper} {cs : List Bool} {us : List Upd} {u : Unit}

theorem leaf_cell {v : V} {c : Value} {p : List Nat} (h : RepL hz hb O w p v c) (hv : okLeaf v = true) : c.oneCell' = true := by
 cases v <;> simp [okLeaf] at hv
 case f x => exact one_cell h hv
 case own =>
  rcases h with ⟨_, h⟩ | ⟨_, h⟩ | ⟨_, h⟩
  ·obtain ⟨_, a, cap, rfl, _⟩ := h; rfl
  ·obtain ⟨ag, ks, blk, es, _, rfl, _⟩ := h; rfl
  ·obtain ⟨_, _, _, _, _, _, _, ⟨_, a, cap, rfl, _⟩, _⟩ := h; rfl
 case bor => obtain ⟨_, a, cap, rfl, _⟩ := h; rfl
theorem op_store_r (I : Inv A hz hb O env tm w) {t : TypeId} {a x : Operand} {mv : Bool} (ho : o.op = .store t a x) (hd : o.dst = none) {s j : Nat} (ha : rd a env = some ([], [], .ref s j))
  (h : (do let v ← takeOp mv x; storeV P t (.ref s j) v : M Unit) env = some (cs, us, u)) : Done A hz hb (applyU us env) tm w o.dst ((execOp (evO tm) o).run P w) := by
 obtain ⟨c1, u1, v, c2, u2, h1, hA, rfl, rfl⟩ := bind_inv h
 obtain ⟨n, hn, hB⟩ := opt_bind hA
 simp only at hB
 split at hB
 ·exact (bad_inv hB).elim
 rename_i hsz
 simp only [not_or, ne_eq, Decidable.not_not] at hsz
 obtain ⟨hlu, hC⟩ := slotM_bind hB
 clear h hA hB
 obtain ⟨_, _, p, h4, _⟩ := rd_ok I ha
 obtain ⟨row0, blk, hg0, ht0, hc⟩ := rep_E h4 (.inr (.inr (.inl ⟨_, _, rfl⟩)))
 cases hg : getS (applyU u1 env) s with
 | obj row =>
  rw [hg] at hC
  simp only at hC
  split at hC
  ·exact (bad_inv hC).elim
  rename_i hjn
  split at hC
  ·exact (bad_inv hC).elim
  rename_i hok
  have hok : (typedLeaves (lty P 20 t) (leavesOf v)).all okLeaf = true := by simpa using hok
  obtain ⟨rfl, rfl⟩ := upd_inv hC
  obtain ⟨rfl, hz1, hb1, O1, S, hs1, hl1⟩ := takeOp_leaves I h1 (okOf hok) (env.length + 2)
  have hN : getS (applyU u1 env) (env.length + 2) = .undef := getS_ge (by rw [S.gh.len]; omega)
  have I1 := S.inv.renG hN (fun r => match r with | i :: r => s :: (j + i) :: r | [] => [s])
  have hx : ∀ k y, (typedLeaves (lty P 20 t) (leavesOf v))[k]? = some y → RepL hz1 hb1 (Abs.renG (env.length + 2) (fun r => match r with | i :: r => s :: (j + i) :: r | [] => [s]) O1) w [s, j + k] y ((evO tm x).cells.toList.getD k undef) := by
   intro k y e
   rw [show (evO tm x).cells.toList.getD k undef = (evO tm x).cells.getD k undef by simp [List.getD_eq_getElem?_getD, Array.getD_eq_getD_getElem?]]
   exact RepL.renG (leaves_typed (p := [env.length + 2]) (g := fun j => (evO tm x).cells.getD j undef) hl1 k y e)
  have hcl : (evO tm x).cells.toList.length = (typedLeaves (lty P 20 t) (leavesOf v)).length := by rw [Array.length_toList, hs1, typedLeaves_len]
  have hone : ∀ c ∈ (evO tm x).cells.toList, c.oneCell' = true := by
   intro c hcm
   obtain ⟨m, hm⟩ := List.getElem?_of_mem hcm
   have hml := (List.getElem?_eq_some_iff.1 hm).1
   have hym : (typedLeaves (lty P 20 t) (leavesOf v))[m]? = some ((typedLeaves (lty P 20 t) (leavesOf v))[m]'(by omega)) := List.getElem?_eq_getElem (by omega)
   have h5 := hx m _ hym
   have h6 : (evO tm x).cells.toList.getD m undef = c := by simp [List.getD_eq_getElem?_getD, hm]
   rw [h6] at h5
   exact leaf_cell h5 (List.all_eq_true.1 hok _ (List.mem_of_getElem? hym))
  obtain ⟨blk', ht, w', hrun, I2, hside⟩ := write_obj (P := P) I1 hg (j := j) (by omega) hcl hone hx
  rw [ht0] at ht
  simp only [Value.pointer.injEq, Option.some.injEq, Addr.mk.injEq] at ht
  obtain ⟨rfl, _⟩ := ht
  have happ : applyU (.kill (.leaves s j n) :: leafUs s j (typedLeaves (lty P 20 t) (leavesOf v))) (applyU u1 env) = ((applyU u1 env).map (killV (.leaves s j n))).set s (.obj (splice row j (typedLeaves (lty P 20 t) (leavesOf v)))) := by
   show applyU (leafUs s j _) ((applyU u1 env).map (killV (.leaves s j n))) = _
   exact leafUs_apply (by rw [getS_kill, hg]; rfl) (by omega)
  rw [applyU_append, happ]
  rw [hsz.1] at I2
  refine ⟨undef, w', hz1, hb1, _, S.ext, by rw [hd]; exact I2, .inr ⟨?_, rfl⟩, hside⟩
  simp only [execOp, ho, hc, Instr.storeAt, Instr.sureAddr, storeVar, Sem.run_bind, Sem.run_pure, Result.andThen_ok, run_sz hn]
  have hsz2 : ¬ (evO tm x).cells.size ≠ n := by rw [hs1]; simp [hsz.2]
  rw [if_neg hsz2, hrun]
  rfl
 | _ => rw [hg] at hC; exact (bad_inv hC).elim
end
end Go.Abs
end
section
set_option linter.unusedVariables false
set_option linter.unusedSimpArgs false
set_option linter.unusedSectionVars false
namespace Go.Abs
open Go
variable [Globs]
section
variable {A : Nat → Prop} {hz hb : GH} {O : OM} {env : Env} {tm : Nat → Value} {w w' : World} {P : Program} {H : Hints} {me : FuncId} {o : Oper} {cs : List Bool} {us : List Upd} {u : Unit}

/-! ### appending -/
/-- - -/
theorem run_append_fit {ats : Array TypeId} {t tx ty e : TypeId} {i : TypeInfo} {dx : TypeDesc} (h0a : ats[0]? = some t) (h1a : ats[1]? = some tx) (ht : P.underlying t = some (.slice e)) (hx : P.underlying tx = some dx) (hnz : ∀ k, dx ≠ .int k) (hi : P.info? e = some i)
  {base : Option Addr} {sLen cap n : Nat} {x : Value} {news : Array Value} (hn : (Builtin.lenOf x).run P w = .ok n w) (hnew : (Builtin.firstCells i.size n x).run P w = .ok news w) (hfit : sLen + n ≤ cap) :
  (Builtin.append_ ats ty #[.slice base sLen cap, x]).run P w =
   (do (match base with | some a => storeCells (a.add (sLen * i.size)) news.toList | none => pure ()); pure (.slice base (sLen + n) cap) : Sem Value).run P w := by
 have hm : (match dx with | .int _ => true | _ => false) = false := by cases dx <;> first | rfl | exact (hnz _ rfl).elim
 simp only [Builtin.append_, h0a, h1a, List.getElem?_toArray, List.getElem?_cons_zero, List.getElem?_cons_succ, Sem.run_bind, run_underlying ht, Result.andThen_ok, sizeOf, typeInfo, run_underlying hx]
 simp [hi, hm, hn, hfit, hnew]
 cases base <;> simp
theorem run_append_new {ats : Array TypeId} {t tx ty e : TypeId} {i : TypeInfo} {z : Value} {dx : TypeDesc} (h0a : ats[0]? = some t) (h1a : ats[1]? = some tx) (ht : P.underlying t = some (.slice e)) (hx : P.underlying tx = some dx) (hnz : ∀ k, dx ≠ .int k) (hi : P.info? e = some i) (hz0 : i.zero = some z)
  {base : Option Addr} {sLen cap n : Nat} {x : Value} {olds news : Array Value} (hn : (Builtin.lenOf x).run P w = .ok n w) (hnew : (Builtin.firstCells i.size n x).run P w.drew = .ok news w.drew)
  (hold : (Builtin.firstCells i.size sLen (.slice base sLen cap)).run P w.drew = .ok olds w.drew) (hg : cap < sLen + n) (h63 : ((sLen + n : Nat) : Int) ≤ 9223372036854775807) (hfit : Builtin.nextslicecap (sLen + n) cap * i.bytes ≤ 281474976710656) :
  (Builtin.append_ ats ty #[.slice base sLen cap, x]).run P w = .ok (.slice (some ⟨w.heap.size, 0, none⟩) (sLen + n) (grownCap w (sLen + n) cap e))
    (w.drew.alloc (.cells (olds ++ news ++ Builtin.zeroCells z.cells (grownCap w (sLen + n) cap e - (sLen + n))) e)) := by
 have hm : (match dx with | .int _ => true | _ => false) = false := by cases dx <;> first | rfl | exact (hnz _ rfl).elim
 have hn' : ¬ (sLen + n ≤ cap) := by omega
 have h63' : ¬ (9223372036854775807 < ((sLen : Int) + (n : Int))) := by omega
 have h48' : ¬ (281474976710656 < Builtin.nextslicecap (sLen + n) cap * i.bytes) := by omega
 simp only [Builtin.append_, h0a, h1a, List.getElem?_toArray, List.getElem?_cons_zero, List.getElem?_cons_succ, Sem.run_bind, run_underlying ht, Result.andThen_ok, sizeOf, typeInfo, run_underlying hx]
 simp [hi, hz0, hm, hn, hn', h63', h48', zeroValue, typeInfo, Question.forced, hnew, hold, newRow, grownCap]
theorem run_appendz_fit {ats : Array TypeId} {t tn ty e : TypeId} {i : TypeInfo} {z : Value} {kq kn : IntKind} (h0a : ats[0]? = some t) (h1a : ats[1]? = some tn) (ht : P.underlying t = some (.slice e)) (htn : P.underlying tn = some (.int kn)) (hi : P.info? e = some i) (hz0 : i.zero = some z)
  {base : Option Addr} {sLen cap k : Nat} (hfit : sLen + k ≤ cap) (h63 : (k : Int) ≤ 9223372036854775807) (h48 : k * i.bytes ≤ 281474976710656) :
  (Builtin.append_ ats ty #[.slice base sLen cap, .int kq k]).run P w =
   (do (match base with | some a => storeCells (a.add (sLen * i.size)) (if k * i.size = 0 then #[] else Builtin.zeroCells z.cells k).toList | none => pure ()); pure (.slice base (sLen + k) cap) : Sem Value).run P w := by
 have hw : IntKind.i64.wrap (k : Int) = k := by rw [IntKind.wrap_i64]; omega
 have h48i : ¬ (281474976710656 < (k : Int) * (i.bytes : Int)) := by
  rw [← Int.natCast_mul]
  omega
 have hneg : ¬ ((k : Int) < 0) := by omega
 by_cases h0 : k * i.size = 0
 ·simp only [Builtin.append_, h0a, h1a, List.getElem?_toArray, List.getElem?_cons_zero, List.getElem?_cons_succ, Sem.run_bind, run_underlying ht, Result.andThen_ok, sizeOf, typeInfo, run_underlying htn]
  simp [hi, asInt, asIntOf, hw, hneg, h48i, hfit, h0]
  cases base <;> simp
 ·simp only [Builtin.append_, h0a, h1a, List.getElem?_toArray, List.getElem?_cons_zero, List.getElem?_cons_succ, Sem.run_bind, run_underlying ht, Result.andThen_ok, sizeOf, typeInfo, run_underlying htn]
  simp [hi, hz0, asInt, asIntOf, hw, hneg, h48i, hfit, h0, zeroValue, typeInfo]
  cases base <;> simp
theorem run_appendz_new {ats : Array TypeId} {t tn ty e : TypeId} {i : TypeInfo} {z : Value} {kq kn : IntKind} (h0a : ats[0]? = some t) (h1a : ats[1]? = some tn) (ht : P.underlying t = some (.slice e)) (htn : P.underlying tn = some (.int kn)) (hi : P.info? e = some i) (hz0 : i.zero = some z)
  {base : Option Addr} {sLen cap k : Nat} {olds : Array Value} (hold : (Builtin.firstCells i.size sLen (.slice base sLen cap)).run P w.drew = .ok olds w.drew) (hg : cap < sLen + k) (h63 : ((sLen + k : Nat) : Int) ≤ 9223372036854775807) (h48 : k * i.bytes ≤ 281474976710656)
  (hfit : Builtin.nextslicecap (sLen + k) cap * i.bytes ≤ 281474976710656) :
  (Builtin.append_ ats ty #[.slice base sLen cap, .int kq k]).run P w = .ok (.slice (some ⟨w.heap.size, 0, none⟩) (sLen + k) (grownCap w (sLen + k) cap e))
    (w.drew.alloc (.cells (olds ++ (if k * i.size = 0 then #[] else Builtin.zeroCells z.cells k) ++ Builtin.zeroCells z.cells (grownCap w (sLen + k) cap e - (sLen + k))) e)) := by
 have hw : IntKind.i64.wrap (k : Int) = k := by rw [IntKind.wrap_i64]; omega
 have h48i : ¬ (281474976710656 < (k : Int) * (i.bytes : Int)) := by
  rw [← Int.natCast_mul]
  omega
 have hneg : ¬ ((k : Int) < 0) := by omega
 have hn' : ¬ (sLen + k ≤ cap) := by omega
 have h63' : ¬ (9223372036854775807 < ((sLen : Int) + (k : Int))) := by omega
 have h48' : ¬ (281474976710656 < Builtin.nextslicecap (sLen + k) cap * i.bytes) := by omega
 by_cases h0 : k * i.size = 0
 ·simp only [Builtin.append_, h0a, h1a, List.getElem?_toArray, List.getElem?_cons_zero, List.getElem?_cons_succ, Sem.run_bind, run_underlying ht, Result.andThen_ok, sizeOf, typeInfo, run_underlying htn]
  simp [hi, hz0, asInt, asIntOf, hw, hneg, h48i, hn', h63', h48', zeroValue, typeInfo, Question.forced, hold, newRow, grownCap, h0]
 ·simp only [Builtin.append_, h0a, h1a, List.getElem?_toArray, List.getElem?_cons_zero, List.getElem?_cons_succ, Sem.run_bind, run_underlying ht, Result.andThen_ok, sizeOf, typeInfo, run_underlying htn]
  simp [hi, hz0, asInt, asIntOf, hw, hneg, h48i, hn', h63', h48', zeroValue, typeInfo, Question.forced, hold, newRow, grownCap, h0]

/-- - -/
theorem cut_rows {ts : List LT} {rows : Rows} {arr : Array Value} {off : Nat} (h : RowsAt hz ts rows arr off) (hty : ∀ row ∈ rows, TyRow ts row) : RowsAt hz ts rows (cut arr off (rows.length * ts.length)) 0 := by
 intro i j row x h1 h2
 have hi := (List.getElem?_eq_some_iff.1 h1).1
 have hj := (List.getElem?_eq_some_iff.1 h2).1
 rw [(hty row (List.mem_of_getElem? h1)).len] at hj
 have hle : (i + 1) * ts.length ≤ rows.length * ts.length := Nat.mul_le_mul_right _ hi
 rw [Nat.add_mul] at hle
 rw [Nat.zero_add, cut_get (by omega), ← Nat.add_assoc]
 exact h i j row x h1 h2
theorem run_cells_at {blk off n : Nat} {arr : Array Value} {t : TypeId} {fr : Nat × Nat} (hw : w.heap[blk]? = some (.cells arr t fr)) (hb : off + n ≤ arr.size) : (loadCells ⟨blk, off, none⟩ n).run P w = .ok (cut arr off n) w := by
 rw [run_loadCells w ⟨blk, off, none⟩ n (fun j => arr.getD (off + j) undef) (fun j hj => by rw [addr_shift]; exact cell_at hw (by omega))]
 rfl
theorem run_cells_seen {ts : List LT} {rows : Rows} {c : Value} (h : Seen hz w ts rows c) : ∃ news, (∀ w' : World, w'.heap = w.heap → (Builtin.firstCells ts.length rows.length c).run P w' = .ok news w') ∧ news.size = rows.length * ts.length ∧ RowsAt hz ts rows news 0 := by
 obtain ⟨a, cap, rfl, hty, hd⟩ := h
 by_cases h0 : rows = []
 ·subst h0
  cases a with
  | none => exact ⟨#[], fun _ _ => rfl, by simp, fun i j row x h1 _ => by simp at h1⟩
  | some a =>
   refine ⟨#[], fun w' _ => ?_, by simp, fun i j row x h1 _ => by simp at h1⟩
   have h3 := run_loadCells (P := P) w' a 0 (fun _ => undef) (fun j hj => by omega)
   simp only [Builtin.firstCells, List.length_nil, Nat.zero_mul]
   rw [h3]
   rfl
 ·obtain ⟨hcap, blk, off, rfl, arr, t, fr, hw, hsz, _, hc⟩ := hd h0
  refine ⟨cut arr off (rows.length * ts.length), fun w' e => ?_, cut_size _ _ _, cut_rows hc hty⟩
  exact run_cells_at (by rw [e]; exact hw) hsz
theorem rows_append {ts : List LT} {rows more : Rows} {a b c : Array Value} (ha : a.size = rows.length * ts.length) (hb : b.size = more.length * ts.length) (h1 : RowsAt hz ts rows a 0) (h2 : RowsAt hz ts more b 0)
  (ht1 : ∀ row ∈ rows, TyRow ts row) (ht2 : ∀ row ∈ more, TyRow ts row) : RowsAt hz ts (rows ++ more) (a ++ b ++ c) 0 := by
 intro i j row x e1 e2
 have hj := (List.getElem?_eq_some_iff.1 e2).1
 rw [List.getElem?_append] at e1
 split at e1
 ·rename_i hi
  rw [(ht1 row (List.mem_of_getElem? e1)).len] at hj
  have hle : (i + 1) * ts.length ≤ rows.length * ts.length := Nat.mul_le_mul_right _ hi
  rw [Nat.add_mul] at hle
  have h3 := h1 i j row x e1 e2
  rw [Nat.zero_add] at h3 ⊢
  rw [Array.append_assoc, Array.getD_eq_getD_getElem?, Array.getElem?_append_left (by omega), ← Array.getD_eq_getD_getElem?]
  exact h3
 ·rename_i hi
  rw [(ht2 row (List.mem_of_getElem? e1)).len] at hj
  have hm := (List.getElem?_eq_some_iff.1 e1).1
  have hle : (i - rows.length + 1) * ts.length ≤ more.length * ts.length := Nat.mul_le_mul_right _ hm
  rw [Nat.add_mul] at hle
  have h3 := h2 _ j row x e1 e2
  have h4 : i * ts.length = rows.length * ts.length + (i - rows.length) * ts.length := by rw [← Nat.add_mul]; congr 1; omega
  rw [Nat.zero_add] at h3 ⊢
  rw [Array.append_assoc, Array.getD_eq_getD_getElem?, Array.getElem?_append_right (by omega), Array.getElem?_append_left (by omega), ← Array.getD_eq_getD_getElem?]
  rw [show i * ts.length + j - a.size = (i - rows.length) * ts.length + j by omega]
  exact h3
theorem zeroCells_size (z : Array Value) (n : Nat) : (Builtin.zeroCells z n).size = n * z.size := by simp [Builtin.zeroCells]
theorem zeroCells_rows {ts : List LT} {z : List F} {cells : Array Value} (hs : cells.size = ts.length) (h : ∀ j x, z[j]? = some x → RepF hz x (cells.getD j undef)) (hty : TyRow ts z) (n : Nat) :
  RowsAt hz ts (List.replicate n z) (Builtin.zeroCells cells n) 0 := by
 intro i j row x e1 e2
 obtain ⟨hi, he⟩ := List.getElem?_eq_some_iff.1 e1
 simp at hi he
 subst he
 have hj := (List.getElem?_eq_some_iff.1 e2).1
 rw [hty.len] at hj
 have hmade : Builtin.zeroCells cells n = madeCells cells (n * ts.length) := by unfold Builtin.zeroCells madeCells; rw [hs]
 rw [hmade, Nat.zero_add, made_get hs (by omega) hj]
 exact h _ _ e2
end
end Go.Abs
end
section
set_option linter.unusedVariables false
set_option linter.unusedSimpArgs false
set_option linter.unusedSectionVars false
namespace Go.Abs
open Go
variable [Globs]
section
variable {A : Nat → Prop} {hz hb : GH} {O : OM} {env : Env} {tm : Nat → Value} {w w' : World} {P : Program} {H : Hints} {me : FuncId} {o : Oper} {cs : List Bool} {us : List Upd} {u : Unit}

/-- - -/
theorem Inv.hand (I : Inv A hz hb O env tm w) {M blk : Nat} {r : List Nat} (hM : env.length ≤ M) (hO : O blk = some (M :: r)) (hw : ∀ b, b ≠ blk → w'.heap[b]? = w.heap[b]?) (hsz : w'.heap.size = w.heap.size) : Inv A hz hb O env tm w' := by
 have hd : getS env M = .undef := getS_ge hM
 refine ⟨I.sub, fun b o e => ?_, fun b p e => ?_, fun b e => I.fresh b (by omega), I.glob, fun t => ?_⟩
 ·by_cases hb' : b = blk
  ·subst hb'; rw [(I.owned _ _ hO).2.1] at e; cases e
  ·rw [hw b hb']; exact I.agree b o e
 ·have := I.owned b p e; exact ⟨this.1, this.2.1, by omega⟩
 ·by_cases ht : t = M
  ·subst ht; rw [hd]; exact .inl trivial
  ·refine (I.rep t).keep ⟨GH.le_refl _, GH.le_refl _, fun b q e => ⟨e, hw b ?_⟩⟩ fun l _ => Pass.world (fun s row b hs htm => hw b ?_) l
   ·rintro rfl
    rw [hO] at e
    simp only [Option.some.injEq, List.cons_append, List.nil_append, List.cons.injEq] at e
    exact ht e.1.symm
   ·rintro rfl
    have hr := I.rep s
    rw [hs] at hr
    obtain ⟨b', _, _, _, h1, h2, _⟩ := hr
    rw [htm] at h1
    simp only [Value.pointer.injEq, Option.some.injEq, Addr.mk.injEq] at h1
    obtain ⟨rfl, _⟩ := h1
    rw [hO] at h2
    simp only [Option.some.injEq, List.cons.injEq] at h2
    rw [← h2.1] at hs
    rw [hd] at hs
    cases hs
theorem toRow_cell {x : F} {t : LT} (h : TyF t x) : cellF x = true := by
 cases t with
 | int k => obtain ⟨n, rfl⟩ := h; rfl
 | bool => obtain ⟨n, rfl⟩ := h; rfl
 | str => obtain ⟨n, rfl⟩ := h; rfl
 | lst ts => obtain ⟨n, rfl⟩ := h; rfl
 | any => exact h
 | mp => exact h.elim
 | nx => exact h.elim
/-- - -/
theorem rows_cells {ts : List LT} {rows : Rows} {arr : Array Value} (hs : arr.size = rows.length * ts.length) (hr : RowsAt hz ts rows arr 0) (hty : ∀ row ∈ rows, TyRow ts row) : ∀ v ∈ arr.toList, v.oneCell' = true := by
 intro v hv
 obtain ⟨m, hm⟩ := List.getElem?_of_mem hv
 have hml := (List.getElem?_eq_some_iff.1 hm).1
 rw [Array.length_toList, hs] at hml
 have hk : 0 < ts.length := by
  rcases Nat.eq_zero_or_pos ts.length with h | h
  ·rw [h] at hml; simp at hml
  ·exact h
 have hi : m / ts.length < rows.length := (Nat.div_lt_iff_lt_mul hk).2 hml
 have hrow : rows[m / ts.length]? = some (rows[m / ts.length]'hi) := List.getElem?_eq_getElem hi
 have ht := hty _ (List.mem_of_getElem? hrow)
 have hj : m % ts.length < (rows[m / ts.length]'hi).length := by rw [ht.len]; exact Nat.mod_lt _ hk
 have hx : (rows[m / ts.length]'hi)[m % ts.length]? = some ((rows[m / ts.length]'hi)[m % ts.length]'hj) := List.getElem?_eq_getElem hj
 have h5 := hr _ _ _ _ hrow hx
 rw [Nat.zero_add, show m / ts.length * ts.length + m % ts.length = m by rw [Nat.mul_comm]; exact Nat.div_add_mod _ _] at h5
 obtain ⟨t, _, htf⟩ := ht.get hx
 have h6 : arr.getD m undef = v := by
  have : arr[m]? = some v := by simpa using hm
  simp [Array.getD_eq_getD_getElem?, this]
 rw [h6] at h5
 exact one_cell h5 (toRow_cell htf)
theorem rows_over {ts : List LT} {rows more : Rows} {arr : Array Value} {off : Nat} {news : Array Value} (hr : RowsAt hz ts rows arr off) (hm : RowsAt hz ts more news 0) (hn : news.size = more.length * ts.length)
  (ht1 : ∀ row ∈ rows, TyRow ts row) (ht2 : ∀ row ∈ more, TyRow ts row) (hs : off + (rows.length + more.length) * ts.length ≤ arr.size) :
  RowsAt hz ts (rows ++ more) (over arr (off + rows.length * ts.length) news.toList) off := by
 intro i j row x e1 e2
 have hj := (List.getElem?_eq_some_iff.1 e2).1
 have hnl : news.toList.length = more.length * ts.length := by rw [Array.length_toList, hn]
 rw [Nat.add_mul] at hs
 rw [over_get _ _ _ _ (by omega)]
 rw [List.getElem?_append] at e1
 split at e1
 ·rename_i hi
  rw [(ht1 row (List.mem_of_getElem? e1)).len] at hj
  have hle : (i + 1) * ts.length ≤ rows.length * ts.length := Nat.mul_le_mul_right _ hi
  rw [Nat.add_mul] at hle
  rw [if_neg (by omega)]
  exact hr i j row x e1 e2
 ·rename_i hi
  rw [(ht2 row (List.mem_of_getElem? e1)).len] at hj
  have hmm := (List.getElem?_eq_some_iff.1 e1).1
  have hle : (i - rows.length + 1) * ts.length ≤ more.length * ts.length := Nat.mul_le_mul_right _ hmm
  rw [Nat.add_mul] at hle
  have h3 := hm _ j row x e1 e2
  have h4 : i * ts.length = rows.length * ts.length + (i - rows.length) * ts.length := by rw [← Nat.add_mul]; congr 1; omega
  rw [if_pos (by omega)]
  rw [Nat.zero_add] at h3
  rw [show off + i * ts.length + j - (off + rows.length * ts.length) = (i - rows.length) * ts.length + j by omega]
  rw [show news.toList.getD ((i - rows.length) * ts.length + j) undef = news.getD ((i - rows.length) * ts.length + j) undef by simp [List.getD_eq_getElem?_getD, Array.getD_eq_getD_getElem?]]
  exact h3
/-- - -/
structure Appends (hz : GH) (P : Program) (w : World) (ats : Array TypeId) (ty e : TypeId) (i : TypeInfo) (ts : List LT) (more : Rows) (x : Value) (zc : Array Value) (news : Array Value) : Prop where
 size : news.size = more.length * ts.length
 rows : RowsAt hz ts more news 0
 typed : ∀ row ∈ more, TyRow ts row
 fit : ∀ base sLen cap, sLen + more.length ≤ cap → (Builtin.append_ ats ty #[.slice base sLen cap, x]).run P w =
   (do (match base with | some a => storeCells (a.add (sLen * i.size)) news.toList | none => pure ()); pure (.slice base (sLen + more.length) cap) : Sem Value).run P w
 new : ∀ base sLen cap olds, (Builtin.firstCells i.size sLen (.slice base sLen cap)).run P w.drew = .ok olds w.drew → cap < sLen + more.length → sLen + more.length ≤ rowMax →
   (Builtin.append_ ats ty #[.slice base sLen cap, x]).run P w = .ok (.slice (some ⟨w.heap.size, 0, none⟩) (sLen + more.length) (grownCap w (sLen + more.length) cap e))
    (w.drew.alloc (.cells (olds ++ news ++ Builtin.zeroCells zc (grownCap w (sLen + more.length) cap e - (sLen + more.length))) e))
theorem Seen.heap {ts : List LT} {rows : Rows} {c : Value} (h : Seen hz w ts rows c) (e : w'.heap = w.heap) : Seen hz w' ts rows c := by
 obtain ⟨a, cap, rfl, hty, hd⟩ := h
 refine ⟨a, cap, rfl, hty, fun h0 => ?_⟩
 obtain ⟨hc, blk, off, rfl, arr, t, fr, hw, hr⟩ := hd h0
 exact ⟨hc, blk, off, rfl, arr, t, fr, by rw [e]; exact hw, hr⟩
theorem next_fits {need old bytes : Nat} (h : old < need) (hn : need ≤ rowMax) (hb : bytes ≤ 2 ^ 14) : Builtin.nextslicecap need old * bytes ≤ 281474976710656 := by
 refine growslice_fits h ?_
 have h1 : need * bytes ≤ 2 ^ 30 * 2 ^ 14 := Nat.mul_le_mul hn hb
 exact Nat.le_trans h1 (by decide)
theorem run_lenOf_seen {ts : List LT} {rows : Rows} {c : Value} (h : Seen hz w ts rows c) : (Builtin.lenOf c).run P w' = .ok rows.length w' := by
 obtain ⟨a, cap, rfl, _⟩ := h
 rfl
theorem bytes_cells (b : ByteArray) (n : Nat) (hn : n = b.size) : (Builtin.firstCells 1 n (.string b)).run P w = .ok (b.data.map fun x => .int .u8 x.toNat) w := by
 subst hn
 have : (b.extract 0 b.size) = b := by simp
 simp only [Builtin.firstCells, this]
 rfl
theorem bytes_rows (b : ByteArray) : RowsAt hz [.int .u8] (bytesRows b) (b.data.map fun x => .int .u8 x.toNat) 0 := by
 intro i j row x h1 h2
 simp only [bytesRows, List.getElem?_map, Option.map_eq_some_iff, Array.getElem?_toList] at h1
 obtain ⟨c, hb, rfl⟩ := h1
 cases j with
 | succ j => simp at h2
 | zero =>
  simp at h2
  subst h2
  simp only [List.length_cons, List.length_nil, Nat.zero_add, Nat.mul_one, Nat.add_zero]
  simp [Array.getD_eq_getD_getElem?, hb]
  exact .lit _
theorem spread_ok (I : Inv A hz hb O env tm w) {ts : List LT} {v : V} {more : Rows} (h : spread ts v env = some (cs, us, more)) {p : List Nat} {c : Value} (hv : RepS hz hb O env tm w p v c) :
  cs = [] ∧ us = [] ∧ ∃ news, (∀ w', w'.heap = w.heap → (Builtin.lenOf c).run P w' = .ok more.length w' ∧ (Builtin.firstCells ts.length more.length c).run P w' = .ok news w') ∧ news.size = more.length * ts.length ∧ RowsAt hz ts more news 0 ∧ ∀ row ∈ more, TyRow ts row := by
 unfold spread at h
 split at h
 ·split at h
  ·rename_i b ht
   obtain ⟨rfl, rfl, rfl⟩ := pure_inv h
   obtain rfl := lit_c hv
   obtain rfl := eqTs_eq ht
   have hl : (bytesRows b).length = b.size := by simp [bytesRows]
   refine ⟨rfl, rfl, b.data.map fun x => .int .u8 x.toNat, fun w' e => ⟨by rw [hl]; rfl, bytes_cells b _ hl⟩, by rw [hl]; simp, bytes_rows b, fun row hrow => ?_⟩
   simp only [bytesRows, List.mem_map] at hrow
   obtain ⟨x, _, rfl⟩ := hrow
   exact .cons ⟨_, rfl⟩ .nil
  ·exact (bad_inv h).elim
 ·obtain ⟨rfl, rfl, rfl⟩ := pure_inv h
  obtain rfl := lit_c hv
  exact ⟨rfl, rfl, #[], fun w' e => ⟨rfl, rfl⟩, by simp, fun i j row x h1 _ => by simp at h1, by simp⟩
 ·obtain ⟨rfl, rfl, rfl⟩ := pure_inv h
  rename_i a cap
  obtain rfl := lit_c hv
  refine ⟨rfl, rfl, #[], fun w' e => ⟨rfl, ?_⟩, by simp, fun i j row x h1 _ => by simp at h1, by simp⟩
  have h3 := run_loadCells (P := P) w' a 0 (fun _ => undef) (fun j hj => by omega)
  simp only [Builtin.firstCells, List.length_nil, Nat.zero_mul]
  rw [h3]
  rfl
 ·obtain ⟨c1, u1, ⟨ts', rows⟩, c2, u2, h1, h2, rfl, rfl⟩ := bind_inv h
  obtain ⟨rfl, rfl, hs⟩ := viewM_ok I h1 hv
  simp only at h2
  split at h2
  ·rename_i ht
   obtain rfl := eqTs_eq ht
   obtain ⟨rfl, rfl, rfl⟩ := pure_inv h2
   obtain ⟨news, hn, hsz, hr⟩ := run_cells_seen (P := P) hs
   obtain ⟨_, _, _, hty, _⟩ := id hs
   exact ⟨rfl, rfl, news, fun w' e => ⟨run_lenOf_seen (hs.heap e), hn w' e⟩, hsz, hr, hty⟩
  ·exact (bad_inv h2).elim
theorem rowMax_le {n : Nat} (h : n ≤ rowMax) : (n : Int) ≤ 9223372036854775807 := by
 have : rowMax ≤ 9223372036854775807 := by decide
 omega
theorem more_ok (I : Inv A hz hb O env tm w) {ats : Array TypeId} {t u' e ty : TypeId} {d : TypeDesc} {i : TypeInfo} {zv : Value} {ts : List LT} {zs : Option (List F)} {x : Operand} {more : Rows} (h0a : ats[0]? = some t) (h1a : ats[1]? = some u') (ht : P.underlying t = some (.slice e))
  (hu : P.underlying u' = some d) (hzs : zerosOf P t d = some zs) (hi : P.info? e = some i) (hsz : i.size = ts.length) (hby : i.bytes ≤ 2 ^ 14) (hts : ts = lty P 20 e) (hz0 : i.zero = some zv)
  (h : moreOf ts zs x env = some (cs, us, more)) (hcs : ∀ b ∈ cs, b = true) : us = [] ∧ ∃ news, Appends hz P w ats ty e i ts more (evO tm x) zv.cells news := by
 have hh : w.drew.heap = w.heap := rfl
 unfold moreOf at h
 cases zs with
 | some z =>
  simp only at h
  obtain ⟨v, h1, hA⟩ := raw_bind h
  obtain ⟨n, h2, hB⟩ := opt_bind hA
  obtain ⟨cs', rfl, hC⟩ := chk_bind hB
  obtain ⟨rfl, rfl, rfl⟩ := pure_inv hC
  clear h hA hB hC
  have hr : 0 ≤ n ∧ n ≤ (rowMax : Nat) := of_decide_eq_true (hcs _ List.mem_cons_self)
  obtain ⟨kq, hq⟩ := rawI (I := I) h1 h2
  have hd : ∃ kn, d = .int kn := by cases d <;> first | exact ⟨_, rfl⟩ | cases hzs
  obtain ⟨kn, rfl⟩ := hd
  have hzr : zeroRow P e = some z := by
   unfold zerosOf und at hzs
   simp only [ht, Option.map_eq_some_iff] at hzs
   obtain ⟨z', h3, h4⟩ := hzs
   cases h4
   exact h3
  obtain ⟨i', zv', hi', hz0', hzs', hty, hzr'⟩ := zeroRow_ok hzr
  rw [hi] at hi'
  cases hi'
  rw [hz0] at hz0'
  cases hz0'
  rw [← hts] at hty hzs'
  have hn : n = ((n.toNat : Nat) : Int) := (Int.toNat_of_nonneg hr.1).symm
  have hnr : n.toNat ≤ rowMax := by omega
  have h48 : n.toNat * i.bytes ≤ 281474976710656 := Nat.le_trans (Nat.mul_le_mul hnr hby) (by decide)
  have h63 : (n.toNat : Int) ≤ 9223372036854775807 := rowMax_le hnr
  refine ⟨rfl, if n.toNat * i.size = 0 then #[] else Builtin.zeroCells zv.cells n.toNat, ?_, ?_, ?_, ?_, ?_⟩
  ·rw [List.length_replicate, hsz]
   split
   ·rename_i h0; rw [h0]; rfl
   ·rw [zeroCells_size, hzs']
  ·split
   ·rename_i h0
    rw [hsz] at h0
    intro a j row x e1 e2
    obtain ⟨ha, he⟩ := List.getElem?_eq_some_iff.1 e1
    simp at ha he
    subst he
    have hj := (List.getElem?_eq_some_iff.1 e2).1
    rw [hty.len] at hj
    rcases Nat.mul_eq_zero.1 h0 with h | h <;> omega
   ·exact zeroCells_rows hzs' (hzr' hz) hty _
  ·intro row hrow
   rw [List.eq_of_mem_replicate hrow]
   exact hty
  ·intro base sLen cap hfit
   rw [List.length_replicate] at hfit ⊢
   rw [hq, hn]
   exact run_appendz_fit h0a h1a ht hu hi hz0 hfit h63 h48
  ·intro base sLen cap olds hold hg hmax
   rw [List.length_replicate] at hg hmax ⊢
   rw [hq, hn]
   exact run_appendz_new h0a h1a ht hu hi hz0 hold hg (rowMax_le hmax) h48 (next_fits hg hmax hby)
 | none =>
  simp only at h
  obtain ⟨v, h1, hA⟩ := rd_bind h
  obtain ⟨_, _, p, h3, _⟩ := rd_ok I h1
  obtain ⟨rfl, rfl, news, hrun, hns, hnr, hnt⟩ := spread_ok (P := P) I hA h3
  have hnz : ∀ k, d ≠ .int k := by
   rintro k rfl
   unfold zerosOf und at hzs
   simp only [ht, Option.map_eq_some_iff] at hzs
   obtain ⟨z', h3, h4⟩ := hzs
   cases h4
  refine ⟨rfl, news, hns, hnr, hnt, fun base sLen cap hfit => ?_, fun base sLen cap olds hold hg hmax => ?_⟩
  ·exact run_append_fit h0a h1a ht hu hnz hi (hrun w rfl).1 (by rw [hsz]; exact (hrun w rfl).2) hfit
  ·exact run_append_new h0a h1a ht hu hnz hi hz0 (hrun w rfl).1 (by rw [hsz]; exact (hrun w.drew rfl).2) hold hg (rowMax_le hmax) (next_fits hg hmax hby)
/-- - -/
theorem append_own (I : Inv A hz hb O env tm w) {M : Nat} (hM : env.length ≤ M) {ats : Array TypeId} {ty e : TypeId} {i : TypeInfo} {zv : Value} {ts : List LT} {rows more : Rows} {x c : Value} {news : Array Value}
  (hsz : i.size = ts.length) (hzs : zv.cells.size = ts.length) (ho : Own hz O w [M] ts rows c) (ha : Appends hz P w ats ty e i ts more x zv.cells news) (hmax : rows.length + more.length ≤ rowMax) (hnm : isMp ts = false) :
  ∃ c' w' O', (Builtin.append_ ats ty #[c, x]).run P w = .ok c' w' ∧ Inv A hz hb O' env tm w' ∧ Own hz O' w' [M] ts (rows ++ more) c' ∧ Side w w' ∧ ∀ b p, O b = some p → p ≠ [M] → O' b = some p ∧ w'.heap[b]? = w.heap[b]? := by
 obtain ⟨hty, a, cap, rfl, hcap, hd⟩ := ho.lst hnm
 have htm : ∀ row ∈ rows ++ more, TyRow ts row := by
  intro row hr
  rcases List.mem_append.1 hr with h | h
  ·exact hty _ h
  ·exact ha.typed _ h
 by_cases hfit : rows.length + more.length ≤ cap
 ·rw [ha.fit _ _ _ hfit]
  rcases hd with h0 | ⟨blk, off, arr, t, fr, rfl, hO, hw, hf, hs, hc⟩
  ·have h1 : rows = [] := List.eq_nil_of_length_eq_zero (by omega)
   have h2 : more = [] := List.eq_nil_of_length_eq_zero (by omega)
   have h3 : news.toList = [] := by
    have := ha.size
    rw [h2] at this
    exact List.eq_nil_of_length_eq_zero (by simpa using this)
   subst h1 h2
   rw [h3]
   refine ⟨.slice a 0 cap, w, O, ?_, I, .inl ⟨hnm, by simp, a, cap, rfl, by simp, .inl h0⟩, Side.refl _, fun b p e _ => ⟨e, rfl⟩⟩
   cases a <;> simp [storeCells]
  ·have hnl : news.toList.length = more.length * ts.length := by rw [Array.length_toList, ha.size]
   have hle : (rows.length + more.length) * ts.length ≤ cap * ts.length := Nat.mul_le_mul_right _ hfit
   have hle2 := hle
   rw [Nat.add_mul] at hle2
   obtain ⟨w', h1, h2, h3, h4, h5⟩ := store_at (P := P) (off := off + rows.length * ts.length) hw hf (rows_cells ha.size ha.rows ha.typed) (by omega)
   refine ⟨.slice (some ⟨blk, off, none⟩) (rows.length + more.length) cap, w', O, ?_, I.hand hM hO h3 h4, .inl ⟨hnm, htm, _, cap, by rw [List.length_append], by rw [List.length_append]; exact hfit, .inr ⟨blk, off, _, t, fr, rfl, hO, h2, by unfold Free at hf ⊢; rwa [over_size], by rw [over_size]; exact hs, ?_⟩⟩, h5, fun b p e hp => ⟨e, h3 b (by rintro rfl; rw [hO] at e; exact hp (Option.some.inj e).symm)⟩⟩
   ·simp only [Sem.run_bind, addr_shift, hsz, h1, Result.andThen_ok, Sem.run_pure]
   ·exact rows_over hc ha.rows ha.size hty ha.typed (by omega)
 ·-- a new row
  have hg : cap < rows.length + more.length := by omega
  have hold : ∃ olds, (Builtin.firstCells i.size rows.length (.slice a rows.length cap)).run P w.drew = .ok olds w.drew ∧ olds.size = rows.length * ts.length ∧ RowsAt hz ts rows olds 0 := by
   have hseen : Seen hz w ts rows (.slice a rows.length cap) := by
    refine ⟨a, cap, rfl, hty, fun h0 => ⟨hcap, ?_⟩⟩
    rcases hd with hd | ⟨blk, off, arr, t, fr, rfl, hO, hw, hf, hs, hc⟩
    ·exact (h0 (List.eq_nil_of_length_eq_zero (by omega))).elim
    ·exact ⟨blk, off, rfl, arr, t, fr, hw, Nat.le_trans (Nat.add_le_add_left (Nat.mul_le_mul_right _ hcap) _) hs, hty, hc⟩
   obtain ⟨olds, h1, h2, h3⟩ := run_cells_seen (P := P) hseen
   exact ⟨olds, by rw [hsz]; exact h1 w.drew rfl, h2, h3⟩
  obtain ⟨olds, h1, h2, h3⟩ := hold
  rw [ha.new _ _ _ _ h1 hg hmax]
  have hge := grownCap_ge w (rows.length + more.length) cap e
  have Id : Inv A hz hb O env tm w.drew := I.heap rfl
  obtain ⟨I2, hO2⟩ := new_row (M := M) (ty := e) (cap := grownCap w (rows.length + more.length) cap e) (cells := olds ++ news ++ Builtin.zeroCells zv.cells (grownCap w (rows.length + more.length) cap e - (rows.length + more.length))) Id (ts := ts) (rows := rows ++ more)
   (by rw [List.length_append]; exact hge) (by
    rw [Array.size_append, Array.size_append, h2, ha.size, zeroCells_size, hzs, ← Nat.add_mul, ← Nat.add_mul]
    exact Nat.mul_le_mul_right _ (by omega)) htm (rows_append h2 ha.size h3 ha.rows hty ha.typed) hnm
  rw [List.length_append] at hO2
  refine ⟨_, _, _, rfl, I2, hO2, ⟨rfl, rfl, rfl, ?_⟩, fun b p e _ => ?_⟩
  ·show _ ≤ (w.heap.push _).size
   rw [Array.size_push]; omega
  ·have hlt := (I.owned _ _ e).2.2
   refine ⟨by unfold newO; rw [if_neg (by show b ≠ w.heap.size; omega)]; exact e, ?_⟩
   show (w.heap.push _)[b]? = _
   rw [Array.getElem?_push, if_neg (by omega)]
theorem anyK_nm {mk : List Nat} {ks : List LT} (h : isMp ks = false) : isMp (anyK mk 0 ks) = false := by
 cases ks with
 | nil => rfl
 | cons t ts =>
  simp only [anyK]
  cases hasN mk 0 with
  | true => rfl
  | false => cases t <;> first | rfl | cases h
theorem OwnL.seen {p : List Nat} {ts : List LT} {rows : Rows} {c : Value} (h : OwnL hz O w p ts rows c) : Seen hz w ts rows c := by
 obtain ⟨hty, a, cap, rfl, hcap, hd⟩ := h
 refine ⟨a, cap, rfl, hty, fun h0 => ⟨hcap, ?_⟩⟩
 rcases hd with hd | ⟨blk, off, arr, t, fr, rfl, hO, hw, hf, hs, hc⟩
 ·exact (h0 (List.eq_nil_of_length_eq_zero (by omega))).elim
 ·exact ⟨blk, off, rfl, arr, t, fr, hw, Nat.le_trans (Nat.add_le_add_left (Nat.mul_le_mul_right _ hcap) _) hs, hty, hc⟩
theorem consumeNx_ok (I : Inv A hz hb O env tm w) {mk : List Nat} {ts : List LT} {x : Operand} {rows : Rows} (h : consumeNx mk ts x env = some (cs, us, rows)) (hnm : isMp ts = false) (M : Nat) :
  cs = [] ∧ ∃ hz1 hb1 O1, StepN A hz hb O env tm w hz1 hb1 O1 (applyU us env) ∧ Own hz1 O1 w [M] (.nx none mk :: ts) rows (evO tm x) := by
 obtain ⟨c8, u8, y, c9, u9, hP, hQ, rfl, rfl⟩ := bind_inv h
 obtain ⟨rfl, hz1, hb1, O1, S, hr⟩ := takeOp_ok I hP [M]
 split at hQ
 ·rename_i ts' rows'
  split at hQ
  ·rename_i hok
   obtain ⟨rfl, rfl, rfl⟩ := pure_inv hQ
   refine ⟨rfl, hz1, hb1, O1, by rw [List.append_nil]; exact S, ?_⟩
   have hts : ts' = .nx none mk :: ts := by
    unfold nxOk at hok
    split at hok
    ·simp only [Bool.and_eq_true] at hok
     rw [eqN_eq hok.1, eqTs_eq hok.2]
    ·cases hok
   subst hts
   exact hr
  ·exact (bad_inv hQ).elim
 ·obtain ⟨rfl, rfl, rfl⟩ := pure_inv hQ
  refine ⟨rfl, hz1, hb1, O1, by rw [List.append_nil]; exact S, ?_⟩
  have : evO tm x = .slice none 0 0 := by
   have hr' : RepF hz1 (.lit (.slice none 0 0)) (evO tm x) := hr
   generalize evO tm x = cc at hr'
   cases hr'
   rfl
  rw [this]
  exact own_mark ⟨by simp, none, 0, rfl, by simp, .inl rfl⟩ hnm
 ·exact (bad_inv hQ).elim
theorem op_appendNx (I : Inv A hz hb O env tm w) (hd : ∀ d, o.dst = some d → d < env.length) {c : Call} {s x : Operand} (ho : o.op = .call c) (hc : c.callee = .builtin .append) (hx : c.args.toList = [s, x])
  {t u' : TypeId} {d : TypeDesc} (h0a : c.argTypes[0]? = some t) (h1a : c.argTypes[1]? = some u') (hu : P.underlying u' = some d) (hnz : ∀ k, d ≠ .int k) {mk : List Nat}
  (h : (do let v ← appendNx P t mk s x; putD o.dst v : M Unit) env = some (cs, us, u)) (hcs : ∀ b ∈ cs, b = true) : Done A hz hb (applyU us env) tm w o.dst ((execOp (evO tm) o).run P w) := by
 obtain ⟨c1, u1, v, c2, u2, hE, hF, rfl, rfl⟩ := bind_inv h
 obtain ⟨ts, h2, hG⟩ := opt_bind hE
 obtain ⟨c3, u3, rows, c4, u4, hH, hJ, rfl, rfl⟩ := bind_inv hG
 obtain ⟨c5, u5, more, c6, u6, hK, hL, rfl, rfl⟩ := bind_inv hJ
 clear h hE hG hJ
 obtain ⟨c7, rfl, hN⟩ := chk_bind hL
 obtain ⟨rfl, rfl, rfl⟩ := pure_inv hN
 clear hL hN
 obtain ⟨e, i, hut, hi, hsz, hby, hlt, z, hzr⟩ := elemTs_ok h2
 obtain ⟨i', zv, hi', hz0, hzs', hzty, _⟩ := zeroRow_ok hzr
 rw [hi] at hi'
 cases hi'
 rw [← hlt] at hzs'
 have hnm := elemTs_nm h2
 have hmax : rows.length + more.length ≤ rowMax := of_decide_eq_true (hcs _ (by simp))
 obtain ⟨rfl, hz1, hb1, O1, S1, ho1⟩ := consumeNx_ok I hH hnm (env.length + 1)
 obtain ⟨rfl, hz2, hb2, O2, S2, ho2⟩ := consumeNx_ok S1.inv hK hnm (env.length + 2)
 have hl1 : (applyU u3 env).length = env.length := S1.gh.len
 have hl2 : (applyU u5 (applyU u3 env)).length = env.length := by rw [S2.gh.len, hl1]
 have ho1' := ho1.keep (S2.bare (env.length + 1) [] (getS_ge (by omega)) (by omega))
 obtain ⟨ha, mka, ksa, sk1, ea, _, hty1, hL1, hn1, hx1⟩ := ho1'.nx rfl
 cases ea
 obtain ⟨hb', mkb, ksb, sk2, eb, _, hty2, hL2, hn2, hx2⟩ := ho2.nx rfl
 cases eb
 have hnmK : isMp (anyK mk 0 ts) = false := anyK_nm hnm
 have hkl : (anyK mk 0 ts).length = ts.length := anyK_len _ _ _
 have hseen := hL2.seen
 obtain ⟨news, hnw, hns, hnr⟩ := run_cells_seen (P := P) hseen
 have hap : Appends hz2 P w c.argTypes o.type e i (anyK mk 0 ts) sk2 (evO tm x) zv.cells news := by
  refine ⟨hns, hnr, hL2.1, fun base sLen cap hfit => ?_, fun base sLen cap olds hold hg hmax => ?_⟩
  ·exact run_append_fit h0a h1a hut hu hnz hi (run_lenOf_seen hseen) (by rw [hsz, ← hkl]; exact hnw w rfl) hfit
  ·exact run_append_new h0a h1a hut hu hnz hi hz0 (run_lenOf_seen hseen) (by rw [hsz, ← hkl]; exact hnw w.drew rfl) hold hg (rowMax_le hmax) (next_fits hg hmax hby)
 obtain ⟨cc, w', O3, hrun, I3, hown3, hside, hkeep⟩ := append_own S2.inv (M := env.length + 1) (by rw [hl2]; omega) (ts := anyK mk 0 ts) (rows := sk1) (by rw [hsz, hkl]) (by rw [hzs', hkl]) (.inl ⟨hnmK, hL1⟩) hap (by rw [hn1, hn2]; exact hmax) hnmK
 have I4 := I3.renG (t := env.length + 2) (getS_ge (by rw [hl2]; omega)) (fun r => match r with | m :: r => (env.length + 1) :: (m + rows.length * ts.length) :: r | [] => [env.length + 1])
 generalize hg : (fun r => match r with | m :: r => (env.length + 1) :: (m + rows.length * ts.length) :: r | [] => [env.length + 1] : List Nat → List Nat) = g at I4
 have hgm : ∀ m, g [m] = [env.length + 1, m + rows.length * ts.length] := fun m => by rw [← hg]
 have kp : ∀ p : List Nat, (∀ r, [env.length + 1] ≠ p ++ r) → Keeps hz2 hb2 O2 w hz2 hb2 O3 w' p := fun p hp => ⟨GH.le_refl _, GH.le_refl _, fun b q e => hkeep b _ e (fun e2 => hp q e2.symm)⟩
 have hownF : Own hz2 (renG (env.length + 2) g O3) w' [env.length + 1] (.nx none mk :: ts) (rows ++ more) cc := by
  refine .inr (.inr ⟨rfl, none, mk, ts, sk1 ++ sk2, rfl, hnm, fun row hr => ?_, (hown3.lst hnmK).re fun b e => renG_miss e (by omega), by simp [hn1, hn2], fun i' j' row srow x' e1 e2 e3 => ?_⟩)
  ·rcases List.mem_append.1 hr with h | h
   ·exact hty1 _ h
   ·exact hty2 _ h
  ·rw [List.getElem?_append] at e1 e2
   by_cases hlt' : i' < rows.length
   ·rw [if_pos hlt'] at e1
    rw [if_pos (by rw [hn1]; exact hlt')] at e2
    obtain ⟨y, h5, h6⟩ := hx1 i' j' row srow x' e1 e2 e3
    refine ⟨y, h5, ?_⟩
    unfold LeafX at h6 ⊢
    split
    ·rename_i hm
     rw [if_pos hm] at h6
     obtain ⟨v', rfl, h6⟩ := h6
     refine ⟨v', rfl, .inr ?_⟩
     rcases h6 with h6 | ⟨ts2, rs2, rfl, h7, h8⟩
     ·cases h6
     ·refine ⟨ts2, rs2, rfl, h7, ?_⟩
      have h9 := h8.keep (kp ([env.length + 1] ++ [i' * ts.length + j']) (by intro r e; simp at e))
      exact h9.re fun b e => renG_miss e (by omega)
    ·rename_i hm
     rw [if_neg hm] at h6
     exact h6
   ·rw [if_neg hlt'] at e1
    rw [if_neg (by rw [hn1]; exact hlt'), hn1] at e2
    obtain ⟨y, h5, h6⟩ := hx2 (i' - rows.length) j' row srow x' e1 e2 e3
    refine ⟨y, h5, ?_⟩
    unfold LeafX at h6 ⊢
    split
    ·rename_i hm
     rw [if_pos hm] at h6
     obtain ⟨v', rfl, h6⟩ := h6
     refine ⟨v', rfl, .inr ?_⟩
     rcases h6 with h6 | ⟨ts2, rs2, rfl, h7, h8⟩
     ·cases h6
     ·refine ⟨ts2, rs2, rfl, h7, ?_⟩
      have h9 := h8.keep (kp ([env.length + 2] ++ [(i' - rows.length) * ts.length + j']) (by intro r e; simp at e))
      refine h9.re fun b e => ?_
      have h10 : renG (env.length + 2) g O3 b = some (g [(i' - rows.length) * ts.length + j']) := renG_hit e
      rw [hgm] at h10
      rw [h10]
      have h11 : i' * ts.length = rows.length * ts.length + (i' - rows.length) * ts.length := by rw [← Nat.add_mul]; congr 1; omega
      rw [h11]
      simp
      omega
    ·rename_i hm
     rw [if_neg hm] at h6
     exact h6
 have hus : applyU (u3 ++ (u5 ++ [])) env = applyU u5 (applyU u3 env) := by rw [List.append_nil, applyU_append]
 have hF' : putD o.dst (.own (.nx none mk :: ts) (rows ++ more)) (applyU u5 (applyU u3 env)) = some (c2, u2, u) := by
  rw [← hus]
  simpa using hF
 have hD := (done_put (w := w) I4 (S1.ext.trans S2.ext) hside (v := .own (.nx none mk :: ts) (rows ++ more)) (M := env.length + 1) (r := (execOp (evO tm) o).run P w) ?_ hF' (by rw [hl2]; exact hd) (by rw [hl2]; omega) (.inl hownF)).2
 ·rw [applyU_append]
  simp only [List.append_nil, applyU_append] at hD ⊢
  exact hD
 ·refine run_builtin ho hc ?_
  have hargs : c.args = #[s, x] := by rw [← Array.toList_inj]; simpa using hx
  simp only [builtin, hargs, Sem.run_bind]
  have : (#[s, x].map (evO tm)) = #[evO tm s, evO tm x] := by simp
  rw [this, hrun]
  rfl
theorem op_append (I : Inv A hz hb O env tm w) (hd : ∀ d, o.dst = some d → d < env.length) {c : Call} {s x : Operand} (ho : o.op = .call c) (hc : c.callee = .builtin .append) (hx : c.args.toList = [s, x])
  (h : builtinV P c o.dst .append [s, x] env = some (cs, us, u)) (hcs : ∀ b ∈ cs, b = true) : Done A hz hb (applyU us env) tm w o.dst ((execOp (evO tm) o).run P w) := by
 obtain ⟨t, h0a, hA⟩ := opt_bind h
 obtain ⟨u', h1a, hB⟩ := opt_bind hA
 obtain ⟨d, hu, hC⟩ := opt_bind hB
 obtain ⟨zs, hzs, hC0⟩ := opt_bind hC
 obtain ⟨xv, hxr, hC1⟩ := raw_bind hC0
 cases hnx : nxMk zs xv with
 | cons m mk =>
  rw [hnx] at hC1
  refine op_appendNx I hd ho hc hx h0a h1a hu ?_ hC1 hcs
  rintro k rfl
  cases zs with
  | some z => cases hnx
  | none =>
   have hut : ∃ e z, und P t = some (.slice e) ∧ zeroRow P e = some z := by
    unfold zerosOf at hzs
    simp only at hzs
    split at hzs
    ·rename_i e hut
     simp only [Option.map_eq_some_iff] at hzs
     obtain ⟨z, hz1, _⟩ := hzs
     exact ⟨e, z, hut, hz1⟩
    ·cases hzs
   obtain ⟨e, z, hut, hz⟩ := hut
   unfold zerosOf at hzs
   simp only [hut, hz] at hzs
   cases hzs
 | nil =>
 rw [hnx] at hC1
 have hD := hC1
 clear hC0 hC1
 obtain ⟨c1, u1, v, c2, u2, hE, hF, rfl, rfl⟩ := bind_inv hD
 clear hA hB hC hD
 obtain ⟨ts, h2, hG⟩ := opt_bind hE
 obtain ⟨c3, u3, more, c4, u4, hH, hJ, rfl, rfl⟩ := bind_inv hG
 obtain ⟨c5, u5, ⟨ts', rows⟩, c6, u6, hK, hL, rfl, rfl⟩ := bind_inv hJ
 clear hE hG hJ
 simp only at hL
 split at hL
 rotate_left
 ·exact (bad_inv hL).elim
 rename_i hts
 obtain rfl := eqTs_eq hts
 obtain ⟨c7, rfl, hN⟩ := chk_bind hL
 obtain ⟨rfl, rfl, rfl⟩ := pure_inv hN
 clear hL hN
 obtain ⟨e, i, hut, hi, hsz, hby, hlt, z, hzr⟩ := elemTs_ok h2
 obtain ⟨i', zv, hi', hz0, hzs', hzty, _⟩ := zeroRow_ok hzr
 rw [hi] at hi'
 cases hi'
 rw [← hlt] at hzs'
 have hmax : rows.length + more.length ≤ rowMax := of_decide_eq_true (hcs _ (by simp))
 obtain ⟨rfl, news, ha⟩ := more_ok (ty := o.type) I h0a h1a hut hu hzs hi hsz hby hlt hz0 hH (fun b hb' => hcs b (by simp [hb']))
 simp only [applyU, List.nil_append] at hK hF ⊢
 -- the list goes into the hand
 obtain ⟨c8, u8, y, c9, u9, hP, hQ, rfl, rfl⟩ := bind_inv hK
 clear hK
 obtain ⟨rfl, hz1, hb1, O1, S, hr⟩ := takeOp_ok I hP [env.length + 1]
 have key : u9 = [] ∧ Own hz1 O1 w [env.length + 1] ts rows (evO tm s) := by
  split at hQ
  ·obtain ⟨rfl, rfl, hp⟩ := pure_inv hQ
   cases hp
   exact ⟨rfl, hr⟩
  ·obtain ⟨rfl, rfl, hp⟩ := pure_inv hQ
   cases hp
   refine ⟨rfl, ?_⟩
   have : evO tm s = .slice none 0 0 := by
    have hr' : RepF hz1 (.lit (.slice none 0 0)) (evO tm s) := hr
    generalize evO tm s = cc at hr'
    cases hr'
    rfl
   rw [this]
   exact .inl ⟨elemTs_nm h2, by simp, none, 0, rfl, by simp, .inl rfl⟩
  ·exact (bad_inv hQ).elim
 obtain ⟨rfl, hown⟩ := key
 clear hP hQ
 have ha1 : Appends hz1 P w c.argTypes o.type e i ts more (evO tm x) zv.cells news := ⟨ha.size, ha.rows.mono S.ext.1, ha.typed, ha.fit, ha.new⟩
 obtain ⟨cc, w', O2, hrun, I2, hown2, hside, _⟩ := append_own S.inv (by rw [S.gh.len]; omega) hsz hzs' hown ha1 hmax (elemTs_nm h2)
 simp only [List.append_nil] at hF ⊢
 have hD := (done_put (w := w) I2 S.ext hside (v := .own ts (rows ++ more)) (M := env.length + 1) (r := (execOp (evO tm) o).run P w) ?_ hF (by rw [S.gh.len]; exact hd) (by rw [S.gh.len]; omega) (.inl hown2)).2
 ·rw [applyU_append]; exact hD
 ·refine run_builtin ho hc ?_
  have hargs : c.args = #[s, x] := by rw [← Array.toList_inj]; simpa using hx
  simp only [builtin, hargs, Sem.run_bind]
  have : (#[s, x].map (evO tm)) = #[evO tm s, evO tm x] := by simp
  rw [this, hrun]
  rfl
end
end Go.Abs
end
section
set_option linter.unusedVariables false
set_option linter.unusedSimpArgs false
set_option linter.unusedSectionVars false
namespace Go.Abs
open Go
variable [Globs]
section
variable {A : Nat → Prop} {hz hb : GH} {O : OM} {env : Env} {tm : Nat → Value} {w w' : World} {P : Program} {H : Hints} {me : FuncId} {o : Oper} {cs : List Bool} {us : List Upd} {u : Unit}

/-! ### a list of bytes, said to be of its own type: the run-time marks its block -/
theorem freeze_heap {w : World} {blk : Nat} {arr : Array Value} {t : TypeId} {fr : Nat × Nat} (hw : w.heap[blk]? = some (.cells arr t fr)) (hf : Free arr fr) :
  ∃ fr', (w.freeze ⟨blk, arr.size, none⟩ 1).heap[blk]? = some (.cells arr t fr') ∧ Free arr fr' ∧ (∀ b, b ≠ blk → (w.freeze ⟨blk, arr.size, none⟩ 1).heap[b]? = w.heap[b]?) ∧ (w.freeze ⟨blk, arr.size, none⟩ 1).heap.size = w.heap.size ∧ Side w (w.freeze ⟨blk, arr.size, none⟩ 1) := by
 have hlt : blk < w.heap.size := (Array.getElem?_eq_some_iff.1 hw).1
 have hwf : w.freeze ⟨blk, arr.size, none⟩ 1 = { w with heap := w.heap.modify blk fun
   | .cells c elem (lo, hi) => .cells c elem (if lo == hi then (arr.size, arr.size + 1) else (min lo arr.size, max hi (arr.size + 1)))
   | o => o } := by
  unfold World.freeze
  rw [if_neg (by decide)]
  rfl
 rw [hwf]
 obtain ⟨lo, hi⟩ := fr
 refine ⟨if lo == hi then (arr.size, arr.size + 1) else (min lo arr.size, max hi (arr.size + 1)), ?_, ?_, fun b hb => ?_, ?_, ⟨rfl, rfl, rfl, ?_⟩⟩
 ·simp only [Array.getElem?_modify, hw, if_true, Option.map_some]
 ·unfold Free at hf ⊢
  by_cases h : lo = hi
  ·right; simp [h]
  ·right
   simp only [beq_iff_eq, h, if_false]
   simp only at hf
   omega
 ·simp only [Array.getElem?_modify]
  rw [if_neg (Ne.symm hb)]
 ·simp
 ·simp
theorem op_convert (I : Inv A hz hb O env tm w) (hd : ∀ d, o.dst = some d → d < env.length) {s d : TypeId} {x : Operand} (ho : o.op = .convert s d x) (h : opM P H me o env = some (cs, us, u)) :
  Done A hz hb (applyU us env) tm w o.dst ((execOp (evO tm) o).run P w) := by
 by_cases hyes : ∃ e e', und P s = some (.slice e) ∧ und P d = some (.slice e')
 case neg => exact op_convert1 I hd ho (fun e e' h => hyes ⟨e, e', h⟩) h
 obtain ⟨e, e', hs, hdd⟩ := hyes
 unfold opM at h
 rw [ho] at h
 simp only at h
 obtain ⟨a, h1, hA⟩ := rd_bind h
 obtain ⟨c1, u1, v, c2, u2, h2, hB, rfl, rfl⟩ := bind_inv hA
 clear h hA
 obtain ⟨_, _, p, h3, _⟩ := rd_ok I h1
 unfold convV at h2
 rw [hs, hdd] at h2
 simp only at h2
 unfold convSame at h2
 split at h2
 ·rename_i t k n _
  obtain ⟨_, hC⟩ := slotM_bind h2
  by_cases hob : ∃ ts r rs, getS env t = .own ts (r :: rs)
  ·obtain ⟨ts, r, rs, hg⟩ := hob
   simp only [hg] at hC
   split at hC
   ·rename_i hc
    obtain ⟨rfl, he8⟩ := hc
    obtain ⟨rfl, rfl, rfl⟩ := pure_inv hC
    obtain rfl : e = e' := by rw [hs] at hdd; injection hdd with h; injection h
    have hu8 : P.underlying e = some (.int .u8) := by
     have : und P e = some (.int .u8) := by
      revert he8
      cases und P e with
      | none => intro h; cases h
      | some dd => cases dd <;> intro h <;> first | (rename_i kk; cases kk <;> first | rfl | cases h) | cases h
     exact this
    obtain ⟨c', hloc, hown⟩ := I.own_at (l := ⟨t, none⟩) (ts := ts) (rows := r :: rs) hg
    have hcc : evO tm x = c' := by
     obtain ⟨ts', rows', ⟨v', hl1, _⟩, _⟩ := rep_E h3 (.inl ⟨_, _, _, rfl⟩)
     exact hl1.2.symm.trans hloc.2
    have hnm : isMp ts = false := by
     obtain ⟨ts', rows', ⟨v', hl1, hl2⟩, _, _, hnm⟩ := rep_E h3 (.inl ⟨_, _, _, rfl⟩)
     obtain ⟨rfl, _⟩ := hl1.det hloc
     simp only [rowsOf, Option.some.injEq, Prod.mk.injEq] at hl2
     rw [hl2.1]; exact hnm
    obtain ⟨hty, a0, cap, hc', hlen, hcap⟩ := hown.lst hnm
    rcases hcap with hcap | ⟨blk, off, arr, ty, fr, rfl, hO, hw, hf, hsz, hcells⟩
    ·simp [hcap] at hlen
    obtain ⟨fr', q1, q2, q3, q4, q5⟩ := freeze_heap hw hf
    have hrun : (convert s s (evO tm x)).run P w = .ok (evO tm x) (w.freeze ⟨blk, arr.size, none⟩ 1) := by
     have hs' : P.underlying s = some (.slice e) := hs
     have hsh : w.shape? blk = some (ty, arr.size) := by unfold World.shape?; rw [hw]
     rw [hcc, hc']
     simp [convert, run_underlying hs', run_underlying hu8, markStringish, hsh]
    have I2 := write_list (w' := w.freeze ⟨blk, arr.size, none⟩ 1) I (l := ⟨t, none⟩) (ts := ts) (rows := r :: rs) (rows' := r :: rs) hg hloc hO q3 q4 (.inl ⟨hnm, hty, _, cap, hc', hlen, .inr ⟨blk, off, arr, ty, fr', rfl, hO, q1, q2, hsz, hcells⟩⟩) (fun _ => rfl)
    have hsame : chLoc env ⟨t, none⟩ (.own ts (r :: rs)) = env := set_same hg (by simp)
    rw [hsame] at I2
    refine (done_put (w := w) I2 (FzExt.refl _ _ _) q5 (v := .lent ⟨t, none⟩ k n) (c := evO tm x) ?_ hB hd (Nat.le_refl _) ?_).2
    ·simp only [execOp, ho]
     rw [Sem.run_bind, hrun]
     rfl
    ·obtain ⟨ts', rows', ⟨v', hl1, hl2⟩, hl3⟩ := rep_E h3 (.inl ⟨_, _, _, rfl⟩)
     exact .inr ⟨ts', rows', ⟨v', hl1, hl2⟩, hl3⟩
   ·exact (bad_inv hC).elim
  ·exfalso
   have hno : ∀ ts r rs, getS env t ≠ .own ts (r :: rs) := fun ts r rs h => hob ⟨ts, r, rs, h⟩
   clear h2 hob
   revert hC hno
   generalize getS env t = y
   intro hC hno
   cases y with
   | own ts rows =>
    cases rows with
    | nil => exact (bad_inv hC).elim
    | cons r rs => exact hno _ _ _ rfl
   | _ => exact (bad_inv hC).elim
 ·exact (bad_inv h2).elim
end
end Go.Abs
end
