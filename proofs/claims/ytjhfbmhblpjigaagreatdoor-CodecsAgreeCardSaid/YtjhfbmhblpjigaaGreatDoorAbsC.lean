/- A part of the proofs of the seat YtjhfbmhblpjigaaGreatDoor: no statement of the seat stands here. -/
import Derived.Orders
import Derived.LoopN
import Derived.Scope
import Derived.Test.YtjhfbmhblpjigaaGreatDoorAbsB
section
set_option linter.unusedVariables false
set_option linter.unusedSimpArgs false
set_option linter.unusedSectionVars false
namespace Go.Abs
open Go
variable [Globs]
section
variable {A : Nat → Prop} {hz hb : GH} {O : OM} {env : Env} {tm : Nat → Value} {w w' : World} {P : Program} {H : Hints} {me : FuncId} {o : Oper} {cs : List Bool} {us : List Upd} {u : Unit}
theorem op_makeMap (I : Inv A hz hb O env tm w) (hd : ∀ d, o.dst = some d → d < env.length) {t : TypeId} (ho : o.op = .makeMap t none) (h : opM P H me o env = some (cs, us, u)) :
  Done A hz hb (applyU us env) tm w o.dst ((execOp (evO tm) o).run P w) := by
 unfold opM at h
 rw [ho] at h
 obtain ⟨⟨mts, ts⟩, h1, hA⟩ := opt_bind h
 obtain ⟨k, e, kt, hu, rfl, _⟩ := mapTs_ok h1
 have hv : Own hz (newO O w.heap.size [env.length]) (w.alloc (.map #[] 0)) [env.length] (.mp (isAggT P e) :: kt :: ts) [] (.map (some w.heap.size)) :=
  .inr (.inl ⟨rfl, _, _, w.heap.size, #[], rfl, rfl, newO_get _ _ _, alloc_get _ _, rfl, fun i row e h => by simp at h⟩)
 refine (done_put (w := w) (I.alloc _ _) (FzExt.refl _ _ _) (Side.alloc _ _) (v := .own (.mp (isAggT P e) :: kt :: ts) []) ?_ hA hd (Nat.le_refl _) (.inl hv)).2
 simp only [execOp, ho, Instr.makeMap, Sem.run_bind, Option.map_none, Sem.run_pure, Result.andThen_ok, newObj]
 rfl
/-- - -/
def KeyKind : TypeDesc → LT → Prop
 | .int k, .int k' => k' = k
 | .string, .str => True
 | .bool, .bool => True
 | _, _ => False
theorem sameNow_row {d : TypeDesc} {kt : LT} {kv : Value} {x : F} {c : Value} {hz : GH} (hd : KeyKind d kt) (hk : tyF kt (.lit kv) = true) (hx : TyF kt x) (hr : RepF hz x c) :
  Instr.sameNow d kv c = some (keyEqF (.lit kv) x) ∧ MapKept.IsKey d kv ∧ MapKept.IsKey d c := by
 have hk' := tyF_ty hk
 cases d <;> cases kt <;> simp only [KeyKind] at hd
 all_goals
  obtain ⟨n, rfl⟩ := hx
  obtain ⟨m, hm⟩ := hk'
  cases hm
  cases hr
  simp [Instr.sameNow, keyEqF, MapKept.IsKey, hd]
/-- - -/
theorem find_rows {d : TypeDesc} {ag : Bool} {kt : LT} {ts : List LT} {kv : Value} {hz : GH} (hd : KeyKind d kt) (hk : tyF kt (.lit kv) = true) (z x : List F) : ∀ (rows : Rows) (es : List MapEntry) (i : Nat), es.length = rows.length →
  (∀ (j : Nat) (row : List F) (e : MapEntry), rows[j]? = some row → es[j]? = some e → EntryOk hz ag (kt :: ts) (i + j) row e) →
  (Instr.findNow d kv es i = some none ∧ mHas (.lit kv) rows = false ∧ mRow (.lit kv) z rows = z ∧ mPut (.lit kv) x rows = rows ++ [.lit kv :: x]) ∨
  ∃ j row e, rows[j]? = some row ∧ es[j]? = some e ∧ Instr.findNow d kv es i = some (some (i + j, e.val)) ∧ mHas (.lit kv) rows = true ∧ mRow (.lit kv) z rows = row.tail ∧ mPut (.lit kv) x rows = rows.set j (.lit kv :: x) ∧ e.key = kv
 | [], [], i, _, _ => .inl ⟨rfl, rfl, rfl, rfl⟩
 | [], _ :: _, _, h, _ => by simp at h
 | _ :: _, [], _, h, _ => by simp at h
 | r :: rows, e :: es, i, hl, h => by
  obtain ⟨hty, hbn, hag, hc⟩ := h 0 r e rfl rfl
  cases hty with
  | cons ht hts =>
   rename_i y ys
   have hkey : RepF hz y e.key := hc 0 y rfl
   obtain ⟨hs, i1, i2⟩ := sameNow_row hd hk ht hkey
   cases hq : keyEqF (.lit kv) y with
   | true =>
    right
    have hkv : e.key = kv := by
     obtain ⟨r, h1, h2⟩ := MapKept.sameNow_of_keys i1 i2
     rw [hs, hq] at h1
     exact (h2.1 (Option.some.inj h1).symm).symm
    refine ⟨0, _, e, rfl, rfl, ?_, ?_, ?_, ?_, hkv⟩
    ·simp [Instr.findNow, hs, hq]
    ·simp [mHas, hq]
    ·simp [mRow, hq]
    ·simp [mPut, hq]
   | false =>
    rcases find_rows (ag := ag) hd hk z x rows es (i + 1) (by simpa using hl) (fun j row e h1 h2 => by
     have := h (j + 1) row e (by simpa using h1) (by simpa using h2)
     rw [show i + 1 + j = i + (j + 1) by omega]; exact this) with ⟨h1, h2, h3, h4⟩ | ⟨j, row, e', h1, h2, h3, h4, h5, h6, h7⟩
    ·left
     refine ⟨?_, ?_, ?_, ?_⟩
     ·simp [Instr.findNow, hs, hq, h1]
     ·simp [mHas, hq, h2]
     ·simp [mRow, hq, h3]
     ·simp [mPut, hq, h4]
    ·right
     refine ⟨j + 1, row, e', by simpa using h1, by simpa using h2, ?_, ?_, ?_, ?_, h7⟩
     ·simp [Instr.findNow, hs, hq, h3]; omega
     ·simp [mHas, hq, h4]
     ·simp [mRow, hq, h5]
     ·simp [mPut, hq, h6]
theorem litKey_ok {v : V} {key : F} (h : litKey v = some key) : ∃ kv, v = .f (.lit kv) ∧ key = .lit kv := by
 unfold litKey at h
 split at h <;> first | cases h; exact ⟨_, rfl, rfl⟩ | cases h
theorem keyKind_of {k : TypeId} {kt : LT} (h : mapTs.keyD (und P k) = true) (hl : lty P 20 k = [kt]) : ∃ d, P.underlying k = some d ∧ KeyKind d kt := by
 cases hu : und P k with
 | none => rw [hu] at h; cases h
 | some d =>
  refine ⟨d, hu, ?_⟩
  rw [hu] at h
  have : lty P 20 k = match und P k with
   | some (.int k) => [.int k]
   | some .bool => [.bool]
   | some .string => [.str]
   | _ => lty P 20 k := by
   rw [hu]; cases d <;> first | rfl | (simp [lty, hu])
  rw [hl, hu] at this
  cases d <;> simp [mapTs.keyD] at h <;> simp at this <;> subst this <;> simp [KeyKind]
/-- - -/
theorem packR_ok {e : TypeId} {row : List F} {v : V} {c : Value} (h : packR P e row = some v) (hty : TyRow (lty P 20 e) row) (ha : if isAggT P e then ∃ cs, c = .agg cs ∧ cs.size = (lty P 20 e).length else (lty P 20 e).length = 1 ∧ ∀ cs, c ≠ .agg cs)
  (hr : ∀ j x, row[j]? = some x → RepF hz x (entryCell (isAggT P e) ⟨default, c, 0⟩ (j + 1))) : ∀ q, RepC hz hb O w q v c := by
 unfold packR at h
 rw [hty.re] at h
 obtain ⟨d, n, hu, hn, hl, h3⟩ := pack_ok h
 intro q
 rcases h3 with ⟨hag, rfl⟩ | ⟨hag, h0, hv⟩
 ·rw [if_pos hag] at ha
  obtain ⟨cs, rfl, hs⟩ := ha
  refine ⟨cs, rfl, by rw [hs, List.length_map, hty.len], fun j y e => ?_⟩
  simp only [List.getElem?_map, Option.map_eq_some_iff] at e
  obtain ⟨x, hx, rfl⟩ := e
  have := hr j x hx
  rw [hag] at this
  exact this
 ·rw [if_neg (by rw [hag]; simp)] at ha
  simp only [List.getElem?_map, Option.map_eq_some_iff] at hv
  obtain ⟨x, hx, rfl⟩ := hv
  have := hr 0 x hx
  rw [hag] at this
  exact this
theorem op_lookup (I : Inv A hz hb O env tm w) (hd : ∀ d, o.dst = some d → d < env.length) {t : TypeId} {m k : Operand} {ok : Bool} (ho : o.op = .lookup t m k ok) (h : opM P H me o env = some (cs, us, u)) :
  Done A hz hb (applyU us env) tm w o.dst ((execOp (evO tm) o).run P w) := by
 unfold opM at h
 rw [ho] at h
 obtain ⟨mv, h1, hA⟩ := rd_bind h
 obtain ⟨kv0, h2, hB⟩ := raw_bind hA
 obtain ⟨c1, u1, v, c2, u2, h3, hC, rfl, rfl⟩ := bind_inv hB
 clear h hA hB
 obtain ⟨⟨mts, ts⟩, h4, hD⟩ := opt_bind h3
 obtain ⟨e, h5, hE⟩ := opt_bind hD
 obtain ⟨c3, u3, ⟨l, rows⟩, c4, u4, h6, hF, rfl, rfl⟩ := bind_inv hE
 obtain ⟨key, h7, hG⟩ := opt_bind hF
 clear h3 hD hE hF
 obtain ⟨_, _, p, h8, _⟩ := rd_ok I h1
 obtain ⟨q, h9⟩ := raw_any I h2
 obtain ⟨kt0, e', kt, hu, rfl, rfl, hsk, hse, hzr, hkd, hkl, hone, hza⟩ := mapTs_ok h4
 obtain ⟨rfl, rfl, _, _, hM⟩ := mapAtM_ok I h6 rfl h8
 obtain rfl : e' = e := by
  simp only [mapElem, und] at h5
  rw [hu] at h5
  exact Option.some.inj h5
 obtain ⟨kv, rfl, rfl⟩ := litKey_ok h7
 have hkc : evO tm k = kv := lit_c h9
 obtain ⟨d, hud, hkk⟩ := keyKind_of hkd hkl
 obtain ⟨ag, ks, blk, es, hts, hcv, _, hw, hsz, hent⟩ := hM
 simp only [List.cons.injEq, LT.mp.injEq] at hts
 obtain ⟨rfl, rfl⟩ := hts
 rcases bif_inv hG with ⟨hty, hG⟩ | ⟨_, hG⟩
 case inr => exact (bad_inv hG).elim
 obtain ⟨z, h10, hH⟩ := opt_bind hG
 obtain ⟨pv, h11, hJ⟩ := opt_bind hH
 obtain ⟨rfl, rfl, rfl⟩ := pure_inv hJ
 have hpnc : isClos pv = false := by
  unfold packR pack at h11
  split at h11
  ·split at h11
   ·split at h11
    ·cases h11; rfl
    ·revert h11
     cases reRow (lty P 20 e') _ with
     | nil => intro h11; cases h11
     | cons a b => intro h11; cases h11; rfl
   ·cases h11
  ·cases h11
 obtain ⟨zi, zv, hzi, hz0, hzs, hzt, hzf⟩ := zeroRow_ok h10
 have hzv : if isAggT P e' then ∃ cs, zv = .agg cs ∧ cs.size = (lty P 20 e').length else (lty P 20 e').length = 1 ∧ ∀ cs, zv ≠ .agg cs := by
  simp only [zeroAgg, hzi, hz0, Option.bind_some] at hza
  cases hag : isAggT P e' with
  | true =>
   rw [hag] at hza
   simp only [if_true]
   cases zv <;> first | exact ⟨_, rfl, by simpa [Value.cells] using hzs⟩ | cases hza
  | false =>
   simp only [Bool.false_eq_true, if_false]
   refine ⟨hone.resolve_left (by simp [hag]), fun cs e => ?_⟩
   subst e
   rw [hag] at hza
   cases hza
 have fin : ∀ c, (∀ q, RepC hz hb O w q pv c) → (execOp (evO tm) o).run P w = .ok (.value (if ok then .tuple #[c, .bool (mHas (.lit kv) rows)] else c)) w → Done A hz hb (applyU ([] ++ ([] ++ u2)) env) tm w o.dst ((execOp (evO tm) o).run P w) := by
  intro c hc hrun
  refine fin_light I hC hd (fun q => ?_) hrun
  cases ok with
  | false => exact (hc q).S hpnc
  | true =>
   refine ⟨_, rfl, rfl, fun j y e => ?_⟩
   cases j with
   | zero => simp at e; subst e; exact hc _
   | succ j =>
    cases j with
    | zero => simp at e; subst e; exact .lit _
    | succ j => simp at e
 have hmap : evO tm m = .map (some blk) := hcv
 have hik : MapKept.IsKey d kv := by
  have := tyF_ty hty
  cases d <;> cases kt <;> simp only [KeyKind] at hkk <;> (obtain ⟨n, hn⟩ := this; cases hn; simp [MapKept.IsKey, hkk])
 rcases find_rows (ag := isAggT P e') (ts := lty P 20 e') (hz := hz) hkk hty z [] rows es.toList 0 (by simp [hsz]) (fun j row en a b => by
  rw [Nat.zero_add]
  exact hent j row en a (by simpa using b)) with ⟨f1, f2, f3, _⟩ | ⟨j, row, en, g1, g2, g3, g4, g5, _, g7⟩
 ·refine fin zv (packR_ok h11 (by rw [f3]; exact hzt) hzv (fun j x hx => ?_)) ?_
  ·rw [f3] at hx
   have h0 := hzf hz j x hx
   have hjl := (List.getElem?_eq_some_iff.1 hx).1
   rw [hzt.len] at hjl
   cases hag : isAggT P e' with
   | true =>
    rw [hag] at hzv
    obtain ⟨cs, rfl, _⟩ := hzv
    exact h0
   | false =>
    rw [hag] at hzv
    obtain ⟨h1, h2⟩ : (lty P 20 e').length = 1 ∧ ∀ cs, zv ≠ .agg cs := hzv
    have hj : j = 0 := by omega
    subst hj
    have hc0 : zv.cells = #[zv] := by cases zv <;> first | rfl | exact (h2 _ rfl).elim
    rw [hc0] at h0
    exact h0
  ·simp only [execOp, ho, hmap, hkc, Instr.lookup, Sem.run_bind, run_underlying hu, Result.andThen_ok, Sem.run_pure, MapKept.run_getObj_map hw, MapKept.run_checkKey hud hik, MapKept.run_findKey hud f1, run_zero hzi hz0, f2]
 ·obtain ⟨e1, e2, e3, e4⟩ := hent j row en g1 (by simpa using g2)
  cases e1 with
  | cons t1 t2 =>
   rename_i y ys
   refine fin en.val (packR_ok h11 (by rw [g5]; exact t2) ?_ (fun j x hx => ?_)) ?_
   ·cases hag : isAggT P e' with
    | true =>
     rw [hag] at e3
     obtain ⟨cs, h1, h2⟩ := e3
     exact ⟨cs, h1, by simpa using h2⟩
    | false =>
     rw [hag] at e3
     obtain ⟨h1, h2⟩ : (kt :: lty P 20 e').length = 2 ∧ ∀ cs, en.val ≠ .agg cs := e3
     exact ⟨by simpa using h1, h2⟩
   ·rw [g5] at hx
    exact e4 (j + 1) x (by simpa using hx)
   ·simp only [execOp, ho, hmap, hkc, Instr.lookup, Sem.run_bind, run_underlying hu, Result.andThen_ok, Sem.run_pure, MapKept.run_getObj_map hw, MapKept.run_checkKey hud hik, MapKept.run_findKey hud g3, g4]
theorem okLeaf_noagg {v : V} {c : Value} {q : List Nat} (h : okLeaf v = true) (r : RepC hz hb O w q v c) (cs : Array Value) : c ≠ .agg cs := by
 rintro rfl
 cases v <;> simp [okLeaf] at h
 case f x =>
  have r' : RepF hz x (.agg cs) := r
  cases r'
  simp [cellF] at h
 case bor ts rows =>
  obtain ⟨_, _, _, h, _⟩ := r
  cases h
 case own ts rows =>
  rcases r with ⟨_, _, _, _, h, _⟩ | ⟨_, _, _, _, _, _, h, _⟩ | ⟨_, _, _, _, _, _, _, _, ⟨_, _, _, h, _⟩, _⟩ <;> cases h
theorem mapAtM_inv {mts : List LT} {m : V} {l : Loc} {rows : Rows} (h : mapAtM mts m env = some (cs, us, (l, rows))) : cs = [] ∧ us = [] ∧ m = .mref l ∧ getLoc env l = .own mts rows := by
 unfold mapAtM at h
 split at h
 ·rename_i l'
  obtain ⟨c1, u1, x, c2, u2, h1, h2, rfl, rfl⟩ := bind_inv h
  obtain ⟨rfl, rfl, hx, _⟩ := locM_inv h1
  split at h2
  ·rename_i ts' rows'
   split at h2
   ·rename_i he
    obtain rfl := eqTs_eq he
    obtain ⟨rfl, rfl, e⟩ := pure_inv h2
    simp only [Prod.mk.injEq] at e
    obtain ⟨rfl, rfl⟩ := e
    exact ⟨rfl, rfl, rfl, hx⟩
   ·exact (bad_inv h2).elim
  ·exact (bad_inv h2).elim
 ·exact (bad_inv h).elim
theorem op_mapUpdate (I : Inv A hz hb O env tm w) {t : TypeId} {m k x : Operand} (ho : o.op = .mapUpdate t m k x) (h : opM P H me o env = some (cs, us, u)) :
  Done A hz hb (applyU us env) tm w o.dst ((execOp (evO tm) o).run P w) := by
 unfold opM at h
 rw [ho] at h
 simp only at h
 cases hdn : o.dst with
 | some dd => rw [hdn] at h; exact (bad_inv h).elim
 | none =>
 rw [hdn] at h
 simp only at h
 obtain ⟨mv, h1, hA⟩ := rd_bind h
 obtain ⟨kv0, h2, hB⟩ := raw_bind hA
 obtain ⟨c1, u1, v, c2, u2, h3, hC, rfl, rfl⟩ := bind_inv hB
 clear h hA hB
 obtain ⟨⟨mts, ts⟩, h4, hD⟩ := opt_bind hC
 obtain ⟨e, h5, hE⟩ := opt_bind hD
 obtain ⟨c3, u3, ⟨l, rows⟩, c4, u4, h6, hF, rfl, rfl⟩ := bind_inv hE
 obtain ⟨key, h7, hG⟩ := opt_bind hF
 obtain ⟨x', h8, hH⟩ := opt_bind hG
 clear hC hD hE hF hG
 obtain ⟨_, _, p, hrep, _⟩ := rd_ok I h1
 obtain ⟨q, h9⟩ := raw_any I h2
 obtain ⟨kt0, e', kt, hu, rfl, rfl, hsk, hse, hzr, hkd, hkl, hone, hza⟩ := mapTs_ok h4
 obtain rfl : e' = e := by
  simp only [mapElem, und] at h5
  rw [hu] at h5
  exact Option.some.inj h5
 obtain ⟨kv, rfl, rfl⟩ := litKey_ok h7
 have hkc : evO tm k = kv := lit_c h9
 obtain ⟨d, hud, hkk⟩ := keyKind_of hkd hkl
 rcases bif_inv hH with ⟨hty, hH⟩ | ⟨_, hH⟩
 case inr => exact (bad_inv hH).elim
 simp only [Bool.and_eq_true, beq_iff_eq] at hty
 obtain ⟨hty, hagv⟩ := hty
 obtain ⟨cs', rfl, hJ⟩ := chk_bind hH
 obtain ⟨rfl, rfl⟩ := upd_inv hJ
 obtain ⟨rfl, hz1, hb1, O1, e1, I1, hN, hsz1, hty1, hry, _, G⟩ := takeRow_ok I h3 h8
 obtain ⟨rfl, rfl, rfl, hg⟩ := mapAtM_inv h6
 rcases hrep with hrep | hrep
 ·exact hrep.elim
 obtain ⟨ts0, rows0, hL, hm0⟩ := hrep
 have hw1 := hL.weak.gh G
 obtain ⟨c0, hl0, hown0⟩ := I1.own_at hg
 obtain ⟨rfl, hro⟩ := hw1.here hl0 (by simp)
 simp only [rowsOf, Option.some.injEq, Prod.mk.injEq] at hro
 obtain ⟨rfl, rfl⟩ := hro
 obtain ⟨ag, ks, blk, es, hts, hcv, hO, hw, hsz, hent⟩ := hown0.map hm0
 simp only [List.cons.injEq, LT.mp.injEq] at hts
 obtain ⟨rfl, rfl⟩ := hts
 have hik : MapKept.IsKey d kv := by
  have := tyF_ty hty
  cases d <;> cases kt <;> simp only [KeyKind] at hkk <;> (obtain ⟨n, hn⟩ := this; cases hn; simp [MapKept.IsKey, hkk])
 have hval : if isAggT P e' then ∃ cs, evO tm x = .agg cs ∧ cs.size + 1 = (kt :: lty P 20 e').length else (kt :: lty P 20 e').length = 2 ∧ ∀ cs, evO tm x ≠ .agg cs := by
  obtain ⟨_, hz', hb', O', S, hr⟩ := takeOp_ok I h3 []
  have hlen := (toFs_ty h8).2
  rw [typedLeaves_len] at hlen
  cases hag : isAggT P e' with
  | true =>
   rw [hag] at hagv
   simp only [if_true]
   cases v <;> simp [isAggV] at hagv
   obtain ⟨cs, hc, hs, _⟩ := hr
   refine ⟨cs, hc, ?_⟩
   simp only [leavesOf] at hlen
   simp [hs, hlen]
  | false =>
   rw [hag] at hagv
   simp only [Bool.false_eq_true, if_false]
   refine ⟨?_, okLeaf_noagg ?_ hr⟩
   ·have := hone.resolve_left (by simp [hag])
    simp [this]
   ·rcases okOf (List.all_eq_true.2 (toFs_ok h8)) with ⟨xs, rfl⟩ | h
    ·cases hagv
    ·exact h
 have hnew : ∀ born, EntryOk hz1 (isAggT P e') (kt :: lty P 20 e') born (.lit kv :: x') ⟨kv, evO tm x, born⟩ := by
  intro born
  refine ⟨.cons (tyF_ty hty) hty1, rfl, hval, fun j y hj => ?_⟩
  cases j with
  | zero =>
   simp at hj
   subst hj
   exact .lit _
  | succ j =>
   have hj' : x'[j]? = some y := by simpa using hj
   have h0 := hry j y hj'
   have hjl := (List.getElem?_eq_some_iff.1 hj').1
   rw [hty1.len] at hjl
   cases hag : isAggT P e' with
   | true =>
    rw [hag] at hval
    obtain ⟨cs, hc, _⟩ := hval
    rw [hc] at h0 ⊢
    exact h0
   | false =>
    rw [hag] at hval
    obtain ⟨h1, h2⟩ : (kt :: lty P 20 e').length = 2 ∧ ∀ cs, evO tm x ≠ .agg cs := hval
    simp only [List.length_cons] at h1
    have hj0 : j = 0 := by omega
    subst hj0
    have hc0 : (evO tm x).cells = #[evO tm x] := by
     generalize evO tm x = z at h2
     cases z <;> first | rfl | exact (h2 _ rfl).elim
    rw [hc0] at h0
    exact h0
 have hlb : blk < w.heap.size := (Array.getElem?_eq_some_iff.1 hw).1
 -- the block is laid anew
 have fin : ∀ (es' : Array MapEntry) (rows' : Rows), mPut (.lit kv) x' rows = rows' → es'.size = rows'.length →
   (∀ (i : Nat) (row : List F) (en : MapEntry), rows'[i]? = some row → es'[i]? = some en → EntryOk hz1 (isAggT P e') (kt :: lty P 20 e') i row en) →
   (Instr.mapUpdate t (.map (some blk)) kv (evO tm x)).run P w = .ok () (putBlk w blk (.map es' rows'.length)) →
   Done A hz hb (applyU (u1 ++ ([] ++ ([] ++ [.rows l (mPut (.lit kv) x' rows)]))) env) tm w none ((execOp (evO tm) o).run P w) := by
  intro es' rows' hput hes' hen' hrun
  have I2 := write_list (w' := putBlk w blk (.map es' rows'.length)) (rows' := rows') I1 hg hl0 hO (fun b hb => by rw [putBlk_get _ _ _ _ hlb, if_neg (Ne.symm hb)]) (putBlk_size _ _ _)
   (.inr (.inl ⟨rfl, _, _, blk, es', rfl, hcv, hO, by rw [putBlk_get _ _ _ _ hlb, if_pos rfl], hes', hen'⟩)) (fun h => by cases h)
  refine ⟨undef, putBlk w blk (.map es' rows'.length), hz1, hb1, O1, e1, ?_, .inr ⟨?_, rfl⟩, putBlk_side _ _ _⟩
  ·simp only [List.nil_append]
   rw [applyU_append, modRows hg, hput]
   exact I2
  ·simp only [execOp, ho, hkc]
   rw [hcv, Sem.run_bind, hrun]
   rfl
 rcases find_rows (ag := isAggT P e') (ts := lty P 20 e') (hz := hz1) hkk hty [] x' rows es.toList 0 (by simp [hsz]) (fun j row en a b => by
  rw [Nat.zero_add]
  exact hent j row en a (by simpa using b)) with ⟨f1, f2, f3, f4⟩ | ⟨j, row, en, g1, g2, g3, g4, g5, g6, g7⟩
 ·refine fin (es.push ⟨kv, evO tm x, rows.length⟩) _ f4 (by simp [hsz]) (fun i row en a b => ?_) ?_
  ·rw [List.getElem?_append] at a
   rw [Array.getElem?_push] at b
   by_cases hi : i < rows.length
   ·rw [if_pos hi] at a
    rw [if_neg (by omega)] at b
    exact hent i row en a b
   ·rw [if_neg hi] at a
    have hi' : i = rows.length := by
     by_cases h : i - rows.length = 0
     ·omega
     ·rw [List.getElem?_eq_none (by simp; omega)] at a; cases a
    subst hi'
    rw [hsz, if_pos rfl] at b
    simp at a
    subst a
    cases b
    exact hnew _
  ·simp [Instr.mapUpdate, run_underlying hu, MapKept.run_getObj_map hw, MapKept.run_checkKey hud hik, MapKept.run_findKey hud f1, MapKept.run_setObj_map _ hw, Result.andThen, putBlk]
 ·have hj : es[j]? = some en := by simpa using g2
  refine fin (es.modify j fun e => { e with key := kv, val := evO tm x }) _ g6 (by simp [hsz]) (fun i row' en' a b => ?_) ?_
  ·rw [List.getElem?_set] at a
   rw [Array.getElem?_modify] at b
   by_cases hi : j = i
   ·subst hi
    rw [if_pos rfl] at a b
    split at a
    ·cases a
     rw [hj] at b
     simp only [Option.map_some, Option.some.injEq] at b
     subst b
     have := (hent j row en g1 hj).2.1
     have h0 := hnew j
     rw [← this] at h0
     rw [this] at h0 ⊢
     exact h0
    ·cases a
   ·rw [if_neg hi] at a b
    exact hent i row' en' a b
  ·rw [Nat.zero_add] at g3
   subst g7
   simp [Instr.mapUpdate, run_underlying hu, MapKept.run_getObj_map hw, MapKept.run_checkKey hud hik, MapKept.run_findKey hud g3, hj, MapKept.run_keyThatStays hik, MapKept.run_setObj_map _ hw, Result.andThen, putBlk]
theorem op_insert (I : Inv A hz hb O env tm w) {t : TypeId} {m k x : Operand} (ho : o.op = .insert t m k x) (h : opM P H me o env = some (cs, us, u)) :
  Done A hz hb (applyU us env) tm w o.dst ((execOp (evO tm) o).run P w) := by
 have e1 : execOp (evO tm) o = execOp (evO tm) { o with op := .mapUpdate t m k x } := by
  unfold execOp
  rw [ho]
 rw [e1]
 refine op_mapUpdate (o := { o with op := .mapUpdate t m k x }) I rfl (cs := cs) (us := us) (u := u) (P := P) (H := H) (me := me) ?_
 unfold opM at h ⊢
 rw [ho] at h
 exact h
end
end Go.Abs
end
section
set_option linter.unusedVariables false
set_option linter.unusedSimpArgs false
set_option linter.unusedSectionVars false
namespace Go.Abs
open Go
variable [Globs]
section
variable {A : Nat → Prop} {hz hb : GH} {O : OM} {env : Env} {tm : Nat → Value} {w : World} {P : Program} {H : Hints} {me : FuncId} {o : Oper} {cs : List Bool} {us : List Upd} {u : Unit}

theorem set_getS {env : Env} {t : Nat} {v : V} (h : getS env t = v) (hv : v ≠ .undef) : env.set t v = env := by
 have hlt := getS_lt h hv
 unfold getS at h
 rw [List.getD_eq_getElem?_getD, List.getElem?_eq_getElem hlt] at h
 simp only [Option.getD_some] at h
 rw [← h]
 exact List.set_getElem_self hlt
theorem set_row {row : List V} {j : Nat} {v : V} (h : row.getD j .undef = v) (hv : v ≠ .undef) : row.set j v = row := by
 obtain ⟨h1, h2⟩ := getD_ne h hv
 have := (List.getElem?_eq_some_iff.1 h1).2
 rw [← this]
 exact List.set_getElem_self h2
theorem chLoc_self {l : Loc} {ts : List LT} {rows : Rows} (h : getLoc env l = .own ts rows) : chLoc env l (.own ts rows) = env := by
 unfold getLoc at h
 unfold chLoc
 cases hl : l.leaf with
 | none => rw [hl] at h; exact set_getS h (by simp)
 | some j =>
  rw [hl] at h
  simp only at h ⊢
  cases hg : getS env l.slot with
  | obj row =>
   rw [hg] at h
   simp only [putLeaf]
   rw [set_row h (by simp)]
   exact set_getS hg (by simp)
  | tup row =>
   rw [hg] at h
   simp only [putLeaf]
   rw [set_row h (by simp)]
   exact set_getS hg (by simp)
  | _ => rw [hg] at h; cases h
theorem clear_rows {ts : List LT} {rows : Rows} {z : List F} {cells arr : Array Value} {off0 off len : Nat} (hl : off + len ≤ rows.length) (hs : off0 + rows.length * ts.length ≤ arr.size) (hcs : cells.size = ts.length) (hty : TyRow ts z) (hrt : ∀ row ∈ rows, TyRow ts row)
  (hzr : ∀ j x, z[j]? = some x → RepF hz x (cells.getD j undef)) (hr : RowsAt hz ts rows arr off0) :
  RowsAt hz ts (rows.take off ++ (List.replicate len z ++ rows.drop (off + len))) (over arr (off0 + off * ts.length) (Builtin.zeroCells cells len).toList) off0 := by
 have hzl : (Builtin.zeroCells cells len).toList.length = len * ts.length := by rw [Array.length_toList, zeroCells_size, hcs]
 have hle : (off + len) * ts.length ≤ rows.length * ts.length := Nat.mul_le_mul_right _ hl
 rw [Nat.add_mul] at hle
 have hz0 := zeroCells_rows hcs hzr hty len
 intro i j row x h1 h2
 rw [over_get _ _ _ _ (by omega), hzl]
 have key : ∀ {a b c : Nat}, a < b → a * c + c ≤ b * c := fun {a b c} h => by
  have := Nat.mul_le_mul_right c (show a + 1 ≤ b from h)
  rw [Nat.add_mul] at this
  omega
 by_cases c1 : i < off
 ·rw [List.getElem?_append_left (by simp; omega), List.getElem?_take_of_lt c1] at h1
  have hj : j < ts.length := by
   have := (List.getElem?_eq_some_iff.1 h2).1
   rw [(hrt row (List.mem_of_getElem? h1)).len] at this
   exact this
  have := key (c := ts.length) c1
  rw [if_neg (by omega)]
  exact hr i j row x h1 h2
 ·rw [List.getElem?_append_right (by simp; omega), List.length_take, Nat.min_eq_left (by omega)] at h1
  by_cases c2 : i < off + len
  ·rw [List.getElem?_append_left (by simp; omega)] at h1
   have hzz := List.eq_of_mem_replicate (List.mem_of_getElem? h1)
   have hj : j < ts.length := by
    have := (List.getElem?_eq_some_iff.1 h2).1
    rw [hzz, hty.len] at this
    exact this
   have k1 := key (c := ts.length) c2
   have k2 := Nat.mul_le_mul_right ts.length (show off ≤ i by omega)
   rw [Nat.add_mul] at k1
   rw [if_pos (by omega)]
   have hz1 := hz0 (i - off) j row x h1 h2
   rw [Nat.zero_add] at hz1
   rw [show off0 + i * ts.length + j - (off0 + off * ts.length) = (i - off) * ts.length + j by rw [Nat.sub_mul]; omega]
   simp only [List.getD_eq_getElem?_getD, Array.getElem?_toList]
   rw [Array.getD_eq_getD_getElem?] at hz1
   exact hz1
  ·rw [List.getElem?_append_right (by simp; omega), List.length_replicate, List.getElem?_drop, show off + len + (i - off - len) = i by omega] at h1
   have k2 := Nat.mul_le_mul_right ts.length (show off + len ≤ i by omega)
   rw [Nat.add_mul] at k2
   rw [if_neg (by omega)]
   exact hr i j row x h1 h2
theorem op_clear (I : Inv A hz hb O env tm w) (hd : o.dst = none) {c : Call} {x : Operand} (ho : o.op = .call c) (hc : c.callee = .builtin .clear) (hx : c.args.toList = [x])
  (h : clearB P c x env = some (cs, us, u)) : Done A hz hb (applyU us env) tm w o.dst ((execOp (evO tm) o).run P w) := by
 obtain ⟨t, h1, hA⟩ := opt_bind h
 obtain ⟨a, h3, hC⟩ := rd_bind hA
 clear h hA
 obtain ⟨_, _, p, h4, _⟩ := rd_ok I h3
 unfold clearM at hC
 obtain ⟨ts, h5, hD⟩ := opt_bind hC
 obtain ⟨e, i, hu, hi, hsz, hby, rfl, _⟩ := elemTs_ok h5
 have hu2 : und P t = some (.slice e) := hu
 rw [hu2] at hD
 simp only at hD
 obtain ⟨z, h6, hE⟩ := opt_bind hD
 clear hC hD
 obtain ⟨l, k, off, len, rfl⟩ : ∃ l k off len, a = .lsub l k off len := by
  cases a <;> first | exact ⟨_, _, _, _, rfl⟩ | exact (bad_inv (env := env) hE).elim
 simp only at hE
 obtain ⟨_, hF⟩ := locM_bind hE
 obtain ⟨ts1, rows1, c', hL, hol, hsub, hk, hnm⟩ := rep_E h4 (.inr (.inl ⟨_, _, _, _, rfl⟩))
 cases hg : getLoc env l with
 | own ts' rows =>
  rw [hg] at hF
  simp only at hF
  rcases bif_inv hF with ⟨he, hG⟩ | ⟨_, hG⟩
  rotate_left
  ·exact (bad_inv hG).elim
  obtain ⟨rfl, rfl⟩ := upd_inv hG
  obtain rfl := eqTs_eq he
  obtain ⟨v, hl, hv⟩ := hL
  obtain rfl : v = .own (lty P 20 e) rows := hl.part.symm.trans hg
  simp only [rowsOf, Option.some.injEq, Prod.mk.injEq] at hv
  obtain ⟨rfl, rfl⟩ := hv
  obtain ⟨a0, n0, cap0, b0, rfl, hn0, hcx, hb0⟩ := hsub
  have ha : c.args = #[x] := by rw [← Array.toList_inj]; simpa using hx
  have ht : c.argTypes[0]? = some t := h1
  have hcx' : evO tm x = .slice b0 len (cap0 - off) := hcx
  rw [modRows hg]
  obtain ⟨i', zv, hi', hz0, hzs, hty, hzr⟩ := zeroRow_ok h6
  rw [hi] at hi'
  cases hi'
  by_cases h0 : len = 0
  ·subst h0
   have hsame : rows.take off ++ (List.replicate 0 z ++ rows.drop (off + 0)) = rows := by simp
   rw [hsame, chLoc_self hg]
   refine ⟨.tuple #[], w, hz, hb, O, FzExt.refl _ _ _, ?_, .inl (run_builtin ho hc ?_), Side.refl _⟩
   ·rw [hd]; exact I
   ·have h7 : (#[x].map (evO tm))[0]? = some (.slice b0 0 (cap0 - off)) := by simp [hcx']
    simp only [builtin, ha, Sem.run_bind, Builtin.clear_, ht, h7, run_underlying hu, Result.andThen_ok]
    cases b0 <;> rfl
  ·have hne : rows ≠ [] := by
    rintro rfl
    simp at hol
    omega
   obtain ⟨blk, off0, cap, arr, ty, fr, hl2, hO, hw, hf, hcap, hs, hrt, hr⟩ := own_cells I hg hne hnm
   obtain ⟨_, hcc⟩ := hl.det hl2
   simp only [Value.slice.injEq] at hcc
   obtain ⟨rfl, rfl, rfl⟩ := hcc
   rcases hb0 with ⟨_, hb0⟩ | hb0
   ·exact (h0 hb0).elim
   obtain rfl : b0 = some ⟨blk, off0 + off * (lty P 20 e).length, none⟩ := by rw [hb0]; simp [shiftA, Addr.add]
   have hle : (off + len) * (lty P 20 e).length ≤ cap0 * (lty P 20 e).length := Nat.mul_le_mul_right _ (by omega)
   rw [Nat.add_mul] at hle
   have hzl : (Builtin.zeroCells zv.cells len).toList.length = len * (lty P 20 e).length := by rw [Array.length_toList, zeroCells_size, hzs]
   have hrs : rows.length * (lty P 20 e).length ≤ cap0 * (lty P 20 e).length := Nat.mul_le_mul_right _ hcap
   have hone : ∀ v ∈ (Builtin.zeroCells zv.cells len).toList, v.oneCell' = true := by
    intro v hv
    simp only [Builtin.zeroCells, Array.toList_map, List.mem_map] at hv
    obtain ⟨j, hj, rfl⟩ := hv
    have hj' : j < len * zv.cells.size := by simpa using hj
    have hpos : 0 < zv.cells.size := by
     rcases Nat.eq_zero_or_pos zv.cells.size with h | h
     ·rw [h] at hj'; omega
     ·exact h
    have hm : j % zv.cells.size < zv.cells.size := Nat.mod_lt _ hpos
    have hzl2 : j % zv.cells.size < z.length := by rw [hty.len, ← hzs]; exact hm
    have hg2 := hzr hz _ _ (List.getElem?_eq_getElem hzl2)
    obtain ⟨t0, _, htf⟩ := hty.get (List.getElem?_eq_getElem hzl2)
    have := one_cell hg2 (by
     cases t0 <;> first
      | (obtain ⟨n, hn⟩ := htf; rw [hn]; rfl)
      | exact htf
      | exact htf.elim)
    rw [Array.getD_eq_getD_getElem?, Array.getElem?_eq_getElem hm] at this
    simpa [hm] using this
   have hty2 : ∀ row ∈ rows.take off ++ (List.replicate len z ++ rows.drop (off + len)), TyRow (lty P 20 e) row := by
    intro row hrow
    rcases List.mem_append.1 hrow with hrow | hrow
    ·exact hrt _ (List.mem_of_mem_take hrow)
    ·rcases List.mem_append.1 hrow with hrow | hrow
     ·rw [List.eq_of_mem_replicate hrow]; exact hty
     ·exact hrt _ (List.mem_of_mem_drop hrow)
   obtain ⟨w', hrun, I', hside⟩ := write_cells (P := P) I hg hl2 hO hw hf hcap hs (at_ := off0 + off * (lty P 20 e).length) (vs := (Builtin.zeroCells zv.cells len).toList) (rows' := rows.take off ++ (List.replicate len z ++ rows.drop (off + len)))
    hone (by omega) (by simp; omega) hty2 (clear_rows (by omega) (by omega) hzs hty hrt (hzr hz) hr) hnm
   refine ⟨.tuple #[], w', hz, hb, O, FzExt.refl _ _ _, ?_, .inl (run_builtin ho hc ?_), hside⟩
   ·rw [hd]; exact I'
   ·have h7 : (#[x].map (evO tm))[0]? = some (.slice (some ⟨blk, off0 + off * (lty P 20 e).length, none⟩) len (cap0 - off)) := by simp [hcx']
    cases len with
    | zero => exact (h0 rfl).elim
    | succ len => simp only [builtin, ha, Sem.run_bind, Builtin.clear_, ht, h7, run_underlying hu, Result.andThen_ok, run_zero hi hz0, hrun, Sem.run_pure]
 | _ => rw [hg] at hF; exact (bad_inv hF).elim
end
end Go.Abs
end
section
set_option linter.unusedVariables false
set_option linter.unusedSimpArgs false
set_option linter.unusedSectionVars false
namespace Go.Abs
open Go
variable [Globs]
section
variable {A : Nat → Prop} {hz hb : GH} {O : OM} {env : Env} {tm : Nat → Value} {w w' : World} {P : Program} {H : Hints} {me : FuncId} {o : Oper} {cs : List Bool} {us : List Upd} {u : Unit}

theorem op_store (I : Inv A hz hb O env tm w) {t : TypeId} {a x : Operand} (ho : o.op = .store t a x) (h : opM P H me o env = some (cs, us, u)) (hcs : ∀ b ∈ cs, b = true) : Done A hz hb (applyU us env) tm w o.dst ((execOp (evO tm) o).run P w) := by
 unfold opM at h
 rw [ho] at h
 simp only at h
 cases hd : o.dst with
 | some d => rw [hd] at h; exact (bad_inv h).elim
 | none =>
  rw [hd] at h
  simp only at h
  obtain ⟨v, h1, hA⟩ := rd_bind h
  have hbad : (∀ s j, v ≠ .ref s j) → (∀ l i j, v ≠ .eref l i j) → False := by
   intro n1 n2
   obtain ⟨c1, u1, y, c2, u2, _, hB, _, _⟩ := bind_inv hA
   cases v <;> first
    | exact n1 _ _ rfl
    | exact n2 _ _ _ rfl
    | (obtain ⟨n, _, hC⟩ := opt_bind hB
       simp only at hC
       split at hC
       ·exact (bad_inv hC).elim
       ·exact (bad_inv hC).elim)
  rw [← hd]
  cases v <;> first
   | exact op_store_r I ho hd h1 hA
   | exact op_store_e I ho hd h1 hA hcs
   | exact (hbad (by simp) (by simp)).elim
theorem op_move (I : Inv A hz hb O env tm w) (hd : ∀ d, o.dst = some d → d < env.length) {x : Operand} (ho : o.op = .move x) (h : opM P H me o env = some (cs, us, u)) : Done A hz hb (applyU us env) tm w o.dst ((execOp (evO tm) o).run P w) := by
 unfold opM at h
 rw [ho] at h
 have := (move_ok I hd h).2
 simp only [execOp, ho]
 exact this
theorem op_builtin (I : Inv A hz hb O env tm w) (hd : ∀ d, o.dst = some d → d < env.length) {c : Call} (ho : o.op = .call c) {b : Builtin} (hc : c.callee = .builtin b) (h : builtinV P c o.dst b c.args.toList env = some (cs, us, u)) (hcs : ∀ b ∈ cs, b = true) :
  Done A hz hb (applyU us env) tm w o.dst ((execOp (evO tm) o).run P w) := by
 generalize hx : c.args.toList = xs at h
 unfold builtinV at h
 split at h
 ·exact op_len I hd ho hc hx h
 ·exact op_append I hd ho hc hx h hcs
 ·exact op_min I hd ho hc hx h
 ·exact op_max I hd ho hc hx h
 ·rename_i x
  cases hdst : o.dst with
  | some d => rw [hdst] at h; exact (bad_inv h).elim
  | none =>
   rw [hdst] at h
   have := op_clear I hdst ho hc hx h
   rw [hdst] at this
   exact this
 ·exact (bad_inv h).elim
/-- - -/
theorem opM_ok (I : Inv A hz hb O env tm w) (hd : ∀ d, o.dst = some d → d < env.length) (h : opM P H me o env = some (cs, us, u)) (hcs : ∀ b ∈ cs, b = true) :
  Done A hz hb (applyU us env) tm w o.dst ((execOp (evO tm) o).run P w) := by
 have h0 := h
 cases ho : o.op with
 | move x => exact op_move I hd ho h0
 | assign x => exact op_assign I hd ho h0
 | pick c a b => exact op_pick I hd ho h0
 | alloc t => exact op_alloc I hd ho h0
 | box t x => exact op_box I hd ho h0
 | build t parts => exact op_build I hd ho h0
 | buildSlice t n parts => exact op_buildSlice I hd ho h0
 | load t a => exact op_load I hd ho h0
 | store t a x => exact op_store I ho h0 hcs
 | nilCheck x => exact op_nilCheck I hd ho h0
 | binOp op t x y z => exact op_binOp I hd ho h0 hcs
 | unOp op t x => exact op_unOp I hd ho h0
 | convert s d x => exact op_convert I hd ho h0
 | makeFunc f first caps =>
  cases f with
  | func f => exact op_makeFunc I hd ho h0
  | _ => unfold opM at h; rw [ho] at h; exact (bad_inv h).elim
 | makeSlice t l c => exact op_makeSlice I hd ho h0 hcs
 | slice t x lo hi mx => exact op_slice I hd ho h0 hcs
 | fieldAddr t x i => exact op_fieldAddr I hd ho h0
 | field t x i => exact op_field I hd ho h0
 | indexAddr t x i => exact op_indexAddr I hd ho h0 hcs
 | index t x i => exact op_index I hd ho h0 hcs
 | extract x i =>
  cases x with
  | tmp t => exact op_extract I hd ho h0
  | _ => unfold opM at h; rw [ho] at h; exact (bad_inv h).elim
 | makeInterface t x => exact op_makeInterface I hd ho h0
 | makeMap t r =>
  cases r with
  | none => exact op_makeMap I hd ho h0
  | some r => unfold opM at h; rw [ho] at h; exact (bad_inv h).elim
 | lookup t m k ok => exact op_lookup I hd ho h0
 | mapUpdate t m k x => exact op_mapUpdate I ho h0
 | insert t m k x => exact op_insert I ho h0
 | call c =>
  unfold opM at h
  rw [ho] at h
  simp only at h
  cases hc : c.callee with
  | builtin b => rw [hc] at h; exact op_builtin I hd ho hc h hcs
  | _ => rw [hc] at h; exact (bad_inv h).elim
 | _ => unfold opM at h; rw [ho] at h; exact (bad_inv h).elim
end
end Go.Abs
end
section
set_option linter.unusedVariables false
set_option linter.unusedSimpArgs false
set_option linter.unusedSectionVars false
namespace Go.Abs
open Go
variable [Globs]
section
variable {A : Nat → Prop} {hz hb : GH} {O : OM} {env : Env} {tm : Nat → Value} {w w' : World} {P : Program} {H : Hints} {me : FuncId} {o : Oper} {cs : List Bool} {us : List Upd} {u : Unit}

/-! ### handing over -/
/-- - -/
structure GOk (A : Nat → Prop) (hz hb : GH) (O : OM) (w : World) : Prop where
 sub : hz.le hb
 agree : ∀ b o, hb b = some o → w.heap[b]? = some o
 owned : ∀ b p, O b = some p → A b ∧ hb b = none ∧ b < w.heap.size
 fresh : ∀ b, w.heap.size ≤ b → A b
 glob : GlobOk hz
theorem Inv.g (I : Inv A hz hb O env tm w) : GOk A hz hb O w := ⟨I.sub, I.agree, I.owned, I.fresh, I.glob⟩
theorem GOk.inv (g : GOk A hz hb O w) (h : ∀ t, RepS hz hb O env tm w [t] (getS env t) (tm t)) : Inv A hz hb O env tm w := ⟨g.sub, g.agree, g.owned, g.fresh, g.glob, h⟩

/-- - -/
structure StepT (A : Nat → Prop) (hz hb : GH) (O : OM) (env : Env) (tm : Nat → Value) (w : World) (hz' hb' : GH) (O' : OM) (env' : Env) : Prop where
 ext : FzExt A hz hb hz' hb'
 inv : Inv A hz' hb' O' env' tm w
 len : env'.length = env.length
 hand : ∀ t r, env.length + 2 < t → Keeps hz hb O w hz' hb' O' w (t :: r)
theorem StepT.refl (I : Inv A hz hb O env tm w) : StepT A hz hb O env tm w hz hb O env := ⟨FzExt.refl _ _ _, I, rfl, fun _ _ _ => Keeps.refl _ _ _ _ _⟩
theorem StepT.trans {hz1 hb1 : GH} {O1 : OM} {env1 : Env} {hz2 hb2 : GH} {O2 : OM} {env2 : Env} (h : StepT A hz hb O env tm w hz1 hb1 O1 env1) (k : StepT A hz1 hb1 O1 env1 tm w hz2 hb2 O2 env2) : StepT A hz hb O env tm w hz2 hb2 O2 env2 :=
 ⟨h.ext.trans k.ext, k.inv, k.len.trans h.len, fun t r e => (h.hand t r e).trans (k.hand t r (by rw [h.len]; exact e))⟩
theorem StepN.t {hz' hb' : GH} {O' : OM} {env' : Env} (S : StepN A hz hb O env tm w hz' hb' O' env') : StepT A hz hb O env tm w hz' hb' O' env' :=
 ⟨S.ext, S.inv, S.gh.len, fun t r e => S.bare t r (getS_ge (by omega)) (by omega)⟩
theorem typed1_C {t : LT} {v : V} {c : Value} {p : List Nat} (h : RepC hz hb O w p v c) : RepC hz hb O w p (typed1 t v) c := by
 by_cases hv : ∃ ts, t = .lst ts ∧ v = .f (.lit (.slice none 0 0))
 ·obtain ⟨ts, rfl, rfl⟩ := hv
  have h0 : RepL hz hb O w p (.f (.lit (.slice none 0 0))) c := h
  have := typed1_ok (t := .lst ts) h0
  simp only [typed1] at this ⊢
  cases hm : isMp ts <;> rw [hm] at this <;> exact this
 ·have : typed1 t v = v := by
   unfold typed1
   split
   ·exact (hv ⟨_, rfl, rfl⟩).elim
   ·rfl
  rw [this]
  exact h
theorem takeArg_ok (I : Inv A hz hb O env tm w) {mode : Mode} {lt : LT} {x : Operand} {y : Option V} (h : takeArg mode lt x env = some (cs, us, y)) {M : Nat} (hM : env.length + 2 < M) :
  cs = [] ∧ ∃ hz' hb' O', StepT A hz hb O env tm w hz' hb' O' (applyU us env) ∧ ∀ v, y = some v → RepC hz' hb' O' w [M] v (evO tm x) := by
 unfold takeArg at h
 split at h
 ·obtain ⟨c1, u1, v, c2, u2, h1, hA, rfl, rfl⟩ := bind_inv h
  split at hA
  ·obtain ⟨rfl, rfl, rfl⟩ := pure_inv hA
   obtain ⟨rfl, hz', hb', O', S, hr⟩ := takeOp_ok I h1 [M]
   rw [List.append_nil u1]
   exact ⟨rfl, hz', hb', O', S.t, fun v e => by cases e; exact typed1_C hr⟩
  ·exact (bad_inv hA).elim
 ·obtain ⟨v0, h0, hA⟩ := raw_bind h
  split at hA
  ·rename_i t ts rows
   obtain ⟨c1, u1, v, c2, u2, h1, hB, rfl, rfl⟩ := bind_inv hA
   obtain ⟨_, _, _, hs⟩ := raw_ok I h0
   rcases hs with ⟨t', ht', hv', hlt, hr⟩ | ⟨hne, _⟩
   ·cases ht'
    have hl : LstAt env tm w ⟨t, none⟩ ts rows (tm t) := ⟨.own ts rows, ⟨hv'.symm, rfl⟩, rfl⟩
    obtain ⟨rfl, hz', hb', O', S, hr⟩ := takeLoc_ok I h1 [M] (.inr hl)
    split at hB
    ·obtain ⟨rfl, rfl, rfl⟩ := pure_inv hB
     rw [List.append_nil u1]
     exact ⟨rfl, hz', hb', O', S.n.t, fun v e => by cases e; exact hr⟩
    ·exact (bad_inv hB).elim
   ·exact (hne t rfl).elim
  ·obtain ⟨c1, u1, v, c2, u2, h1, hB, rfl, rfl⟩ := bind_inv hA
   split at hB
   ·rename_i hok
    obtain ⟨rfl, rfl, rfl⟩ := pure_inv hB
    rw [List.append_nil u1]
    by_cases hv : ∃ xs, v = .agg xs
    ·obtain ⟨xs, rfl⟩ := hv
     obtain ⟨rfl, hz1, hb1, O1, S, vs, hcv, hsz, hl⟩ := takeOp_ok I h1 [env.length + 2]
     have hN : getS (applyU u1 env) (env.length + 2) = .undef := getS_ge (by rw [S.gh.len]; omega)
     obtain ⟨hz2, hb2, O2, e2, I2, k2, hlf⟩ := freeze_leaves (t := env.length + 2) (xs := xs) (k := 0) (g := fun j => vs.getD j undef) S.inv hN (fun j y e => .inl (by
      rw [Nat.zero_add]
      exact hl j y e))
     refine ⟨rfl, hz2, hb2, O2, S.t.trans ⟨e2, I2, rfl, fun t r e => k2 _ fun i _ q h => ?_⟩, fun v e => ?_⟩
     ·have := S.gh.len
      simp at h
      omega
     ·cases e
      have ht : typed1 lt (.agg xs) = .agg xs := by cases lt <;> rfl
      rw [ht]
      refine ⟨vs, hcv, by simpa using hsz, fun j y e => ?_⟩
      have h3 := hlf j y e
      rw [Nat.zero_add] at h3
      rcases h3.2 ([M] ++ [j]) with h4 | h4
      ·exact h4
      ·simp only [List.getElem?_map, Option.map_eq_some_iff] at e
       obtain ⟨z, hz', rfl⟩ := e
       have h5 : okArg1 z = true := List.all_eq_true.1 hok z (List.mem_of_getElem? hz')
       cases z <;> first
        | exact h4.elim
        | (simp [okArg1] at h5; done)
        | (rename_i ts _
           simp only [fzLeaf] at h4
           cases hm : isMp ts <;> rw [hm] at h4 <;> exact h4.elim)
    ·have hlv : okLeaf v = true ∨ ∃ y, v = .f y := by
      cases v <;> first | exact .inr ⟨_, rfl⟩ | exact .inl rfl | (simp [okArg, okArg1] at hok; done) | exact (hv ⟨_, rfl⟩).elim
     obtain ⟨rfl, hz1, hb1, O1, S, hr⟩ := takeOp_ok I h1 [env.length + 2, 0]
     have hrL : RepL hz1 hb1 O1 w [env.length + 2, 0] v (evO tm x) := by
      cases v <;> first | exact hr | (simp [okArg, okArg1] at hok; done) | exact (hv ⟨_, rfl⟩).elim
     have hrT := typed1_ok (t := lt) hrL
     have hN : getS (applyU u1 env) (env.length + 2) = .undef := getS_ge (by rw [S.gh.len]; omega)
     obtain ⟨hz2, hb2, O2, e2, I2, k2, hlf⟩ := freeze_leaves (t := env.length + 2) (xs := [typed1 lt v]) (k := 0) (g := fun _ => evO tm x) S.inv hN (fun j y e => .inl (by
      cases j with
      | zero => simp at e; subst e; exact hrT
      | succ j => simp at e))
     refine ⟨rfl, hz2, hb2, O2, S.t.trans ⟨e2, I2, rfl, fun t r e => k2 _ fun i _ q h => ?_⟩, fun v' e => ?_⟩
     ·have := S.gh.len
      simp at h
      omega
     ·cases e
      have h3 := hlf 0 _ rfl
      have hfa : fzAgg (typed1 lt v) = typed1 lt v := by
       unfold typed1
       split
       ·rename_i ts
        cases isMp ts <;> rfl
       ·cases v <;> first | rfl | exact (hv ⟨_, rfl⟩).elim
      rw [hfa]
      have hnt : okArg1 (typed1 lt v) = true := by
       unfold typed1
       split
       ·rename_i ts
        cases isMp ts <;> rfl
       ·cases v <;> first | exact hok | exact (hv ⟨_, rfl⟩).elim
      rcases h3.2 [M] with h4 | h4
      ·revert h4 hnt
       cases typed1 lt v <;> intro hnt h4 <;> first
        | exact h4
        | (simp [okArg1] at hnt; done)
        | (rename_i ts _
           simp only [fzLeaf] at h4 ⊢
           cases hm : isMp ts <;> rw [hm] at h4 <;> exact h4)
      ·revert h4 hnt
       cases typed1 lt v <;> intro hnt h4 <;> first
        | exact h4.elim
        | (simp [okArg1] at hnt; done)
        | (rename_i ts _
           simp only [fzLeaf] at h4 ⊢
           cases hm : isMp ts <;> rw [hm] at h4 <;> exact h4.elim)
   ·exact (bad_inv hB).elim
 ·obtain ⟨rfl, rfl, rfl⟩ := pure_inv h
  exact ⟨rfl, hz, hb, O, StepT.refl I, fun v e => by cases e⟩
theorem takeArgs_ok {mode : Nat → Mode} : ∀ {xs : List Operand} {j : Nat} {tys : List TypeId} {tk : List (Option V)} {hz hb : GH} {O : OM} {env : Env} {cs : List Bool} {us : List Upd} (_ : Inv A hz hb O env tm w) (_ : takeArgs P mode j tys xs env = some (cs, us, tk)) {M : Nat} (_ : env.length + 2 < M),
  cs = [] ∧ ∃ hz' hb' O', StepT A hz hb O env tm w hz' hb' O' (applyU us env) ∧ tk.length = xs.length ∧ ∀ i v x, tk[i]? = some (some v) → xs[i]? = some x → RepC hz' hb' O' w [M + j + i] v (evO tm x)
 | [], j, tys, tk, hz, hb, O, env, cs, us, I, h, M, hM => by
  obtain ⟨rfl, rfl, rfl⟩ := pure_inv h
  exact ⟨rfl, hz, hb, O, StepT.refl I, rfl, fun i v x e => by simp at e⟩
 | x :: xs, j, tys, tk, hz, hb, O, env, cs, us, I, h, M, hM => by
  obtain ⟨c1, u1, y, c2, u2, h1, hA, rfl, rfl⟩ := bind_inv h
  obtain ⟨c3, u3, ys, c4, u4, h2, hB, rfl, rfl⟩ := bind_inv hA
  obtain ⟨rfl, rfl, rfl⟩ := pure_inv hB
  obtain ⟨rfl, hz1, hb1, O1, S1, hr1⟩ := takeArg_ok I h1 (M := M + j) (by omega)
  obtain ⟨rfl, hz2, hb2, O2, S2, hl, hr2⟩ := takeArgs_ok S1.inv h2 (M := M) (by rw [S1.len]; exact hM)
  rw [List.append_nil u3, applyU_append]
  refine ⟨rfl, hz2, hb2, O2, S1.trans S2, by simp [hl], fun i v x' e ex => ?_⟩
  cases i with
  | zero =>
   simp at e ex
   subst ex
   exact (hr1 v e).keep (S2.hand (M + j) [] (by rw [S1.len]; omega))
  | succ i =>
   have := hr2 i v x' (by simpa using e) (by simpa using ex)
   rw [show M + (j + 1) + i = M + j + (i + 1) by omega] at this
   exact this
end
end Go.Abs
end
section
set_option linter.unusedVariables false
set_option linter.unusedSimpArgs false
set_option linter.unusedSectionVars false
namespace Go.Abs
open Go
variable [Globs]
section
variable {A : Nat → Prop} {hz hb : GH} {O : OM} {env : Env} {tm : Nat → Value} {w w' : World} {P : Program} {H : Hints} {me : FuncId} {o : Oper} {cs : List Bool} {us : List Upd} {u : Unit}

/-- - -/
structure Lends (hz hb : GH) (O : OM) (w : World) (S : List Nat) (hX : GH) : Prop where
 z : hz.le hX
 b : hb.le hX
 own : ∀ b s r, s ∈ S → O b = some (s :: r) → hX b = w.heap[b]?
theorem Own.lend {S : List Nat} {hX : GH} (L : Lends hz hb O w S hX) {s : Nat} {r : List Nat} (hs : s ∈ S) {ts : List LT} {rows : Rows} {c : Value} (h : Own hz O w (s :: r) ts rows c) (hnm : isMp ts = false) : RepB hz hX ts rows c := by
 obtain ⟨hty, a, cap, rfl, hcap, hd⟩ := h.lst hnm
 refine ⟨hty, a, cap, rfl, ?_⟩
 rcases hd with hd | ⟨blk, off, arr, t, fr, rfl, hO, hw, hf, hsz, hc⟩
 ·exact .inl (List.eq_nil_of_length_eq_zero (by omega))
 ·exact .inr ⟨blk, off, arr, t, fr, rfl, (L.own blk s r hs hO).trans hw, hcap, Nat.le_trans (Nat.add_le_add_left (Nat.mul_le_mul_right _ hcap) _) hsz, hc⟩
theorem LstAt.lend (I : Inv A hz hb O env tm w) {S : List Nat} {hX : GH} (L : Lends hz hb O w S hX) {l : Loc} (hs : l.slot ∈ S) {ts : List LT} {rows : Rows} {c : Value} (h : LstAt env tm w l ts rows c) (hnm : isMp ts = false) : RepB hz hX ts rows c := by
 obtain ⟨v, h1, h2⟩ := h
 cases v <;> simp [rowsOf, fail] at h2
 case own ts' rows' =>
  obtain ⟨rfl, rfl⟩ := h2
  obtain ⟨c', h3, h4⟩ := I.own_at h1.part
  obtain ⟨_, rfl⟩ := h1.det h3
  have : ∃ r, locPath l = l.slot :: r := by unfold locPath; cases l.leaf <;> exact ⟨_, rfl⟩
  obtain ⟨r, hr⟩ := this
  rw [hr] at h4
  exact h4.lend L hs hnm
 case f x =>
  cases x with
  | lit v => simp at h2
  | lst ts' rows' =>
   simp at h2
   obtain ⟨rfl, rfl⟩ := h2
   have hf : RepF hz (.lst ts' rows') c := by
    rcases I.leaf_at h1 (by simp) with ⟨_, h3⟩ | ⟨_, h3⟩
    ·rcases h3 with h3 | h3
     ·exact h3
     ·exact h3.elim
    ·exact h3
   exact hf.b L.z
theorem LstAt.lt {l : Loc} {ts : List LT} {rows : Rows} {c : Value} (h : LstAt env tm w l ts rows c) : l.slot < env.length := by
 obtain ⟨v, h1, h2⟩ := h
 have hne : getS env l.slot ≠ .undef := by
  intro h0
  unfold LocIs at h1
  cases hl : l.leaf with
  | none =>
   rw [hl] at h1
   rw [h0] at h1
   obtain ⟨rfl, _⟩ := h1
   simp [rowsOf, fail] at h2
  | some j =>
   rw [hl] at h1
   simp only [h0] at h1
   exact h1.2
 exact getS_lt rfl hne
theorem borLeaf_ok (I : Inv A hz hb O env tm w) {v y : V} {c : Value} {s : Nat} {r : List Nat} (h : borLeaf v env = some (cs, us, y)) (hv : RepA hz hb O env tm w (s :: r) v c) :
  cs = [] ∧ us = [] ∧ (∀ l ∈ mentsV1 v, l.slot < env.length) ∧ ∀ S hX, Lends hz hb O w S hX → (hasOwn v = true → s ∈ S) → (∀ l ∈ mentsV1 v, l.slot ∈ S) → ∀ q O', RepL hz hX O' w q y c := by
 unfold borLeaf at h
 split at h
 ·rename_i l k n
  obtain ⟨c1, u1, ⟨ts, rows⟩, c2, u2, h1, hA, rfl, rfl⟩ := bind_inv h
  obtain ⟨rfl, rfl, h3, h4⟩ := rowsM_inv h1
  obtain ⟨rfl, rfl, rfl⟩ := pure_inv hA
  rcases hv with hv | hv
  ·exact hv.elim
  ·obtain ⟨ts', rows', hl, _, _, hnm⟩ := hv
   obtain ⟨rfl, rfl⟩ := rowsOf_at I hl h3
   refine ⟨rfl, rfl, fun m hm => ?_, fun S hX L _ hm q O' => hl.lend I L (hm _ (by simp [mentsV1])) hnm⟩
   simp only [mentsV1, List.mem_singleton] at hm
   subst hm
   exact hl.lt
 ·rename_i l k a b
  obtain ⟨c1, u1, ⟨ts, rows⟩, c2, u2, h1, hA, rfl, rfl⟩ := bind_inv h
  obtain ⟨rfl, rfl, rfl⟩ := pure_inv hA
  obtain ⟨c3, u3, ⟨ts2, rows2⟩, c4, u4, h5, hB, rfl, rfl⟩ := bind_inv h1
  obtain ⟨rfl, rfl, h3, h4⟩ := rowsM_inv h5
  obtain ⟨rfl, rfl, h6⟩ := pure_inv hB
  cases h6
  rcases hv with hv | hv
  ·exact hv.elim
  ·obtain ⟨ts', rows', c', hl, hle, hs, _, hnm⟩ := hv
   obtain ⟨rfl, rfl⟩ := rowsOf_at I hl h3
   refine ⟨rfl, rfl, fun m hm => ?_, fun S hX L _ hm q O' => RepB.part (hl.lend I L (hm _ (by simp [mentsV1])) hnm) hle hs⟩
   simp only [mentsV1, List.mem_singleton] at hm
   subst hm
   exact hl.lt
 ·split at h
  ·exact (bad_inv h).elim
  rename_i hnm
  obtain ⟨rfl, rfl, rfl⟩ := pure_inv h
  rcases hv with hv | hv
  ·exact ⟨rfl, rfl, by simp [mentsV1], fun S hX L hs _ q O' => Own.lend L (hs rfl) hv (by simpa using hnm)⟩
  ·exact hv.elim
 ·obtain ⟨rfl, rfl, rfl⟩ := pure_inv h
  rcases hv with hv | hv
  ·exact ⟨rfl, rfl, by simp [mentsV1], fun S hX L hs _ q O' => hv⟩
  ·exact hv.elim
 ·obtain ⟨rfl, rfl, rfl⟩ := pure_inv h
  rcases hv with hv | hv
  ·exact ⟨rfl, rfl, by simp [mentsV1], fun S hX L hs _ q O' => RepB.mono (GH.le_refl _) L.b hv⟩
  ·exact hv.elim
 ·exact (bad_inv h).elim
theorem borLeaves_ok (I : Inv A hz hb O env tm w) {s : Nat} {r : List Nat} {g : Nat → Value} : ∀ {xs ys : List V} {k : Nat} {cs : List Bool} {us : List Upd} (_ : borLeaves xs env = some (cs, us, ys)) (_ : ∀ j v, xs[j]? = some v → RepA hz hb O env tm w (s :: r ++ [k + j]) v (g (k + j))),
  cs = [] ∧ us = [] ∧ ys.length = xs.length ∧ (∀ l ∈ xs.flatMap mentsV1, l.slot < env.length) ∧ ∀ S hX, Lends hz hb O w S hX → (xs.any hasOwn = true → s ∈ S) → (∀ l ∈ xs.flatMap mentsV1, l.slot ∈ S) → ∀ q O' j y, ys[j]? = some y → RepL hz hX O' w q y (g (k + j))
 | [], ys, k, cs, us, h, hx => by
  obtain ⟨rfl, rfl, rfl⟩ := pure_inv h
  exact ⟨rfl, rfl, rfl, by simp, fun S hX L hs hm q O' j y e => by simp at e⟩
 | x :: xs, ys, k, cs, us, h, hx => by
  obtain ⟨c1, u1, y, c2, u2, h1, hA, rfl, rfl⟩ := bind_inv h
  obtain ⟨rfl, rfl, hl1, hr1⟩ := borLeaf_ok I h1 (r := r ++ [k]) (by have := hx 0 x rfl; simpa using this)
  obtain ⟨c3, u3, zs, c4, u4, h2, hB, rfl, rfl⟩ := bind_inv hA
  obtain ⟨rfl, rfl, rfl⟩ := pure_inv hB
  obtain ⟨rfl, rfl, hl, hl2, hr2⟩ := borLeaves_ok (k := k + 1) I h2 (fun j v e => by
   have := hx (j + 1) v (by simpa using e)
   rw [show k + 1 + j = k + (j + 1) by omega]
   exact this)
  refine ⟨rfl, rfl, by simp [hl], fun l hm => ?_, fun S hX L hs hm q O' j y' e => ?_⟩
  ·simp only [List.flatMap_cons, List.mem_append] at hm
   exact hm.elim (hl1 l) (hl2 l)
  ·simp only [List.flatMap_cons, List.mem_append] at hm
   cases j with
   | zero => simp at e; subst e; exact hr1 S hX L (fun h => hs (by simp [h])) (fun l h => hm l (.inl h)) q O'
   | succ j =>
    have := hr2 S hX L (fun h => hs (by simp only [List.any_cons, h, Bool.or_true])) (fun l h => hm l (.inr h)) q O' j y' (by simpa using e)
    rw [show k + (j + 1) = k + 1 + j by omega]
    exact this
/-- - -/
def ArgIs (A : Nat → Prop) (hz hb : GH) (O : OM) (env : Env) (tm : Nat → Value) (w : World) (y : V) (b : Back) (S : List Nat) (c : Value) : Prop := match b with
 | .none => (∀ s ∈ S, s < env.length) ∧ ∀ S' hX, (∀ s ∈ S, s ∈ S') → Lends hz hb O w S' hX → ∀ q O', RepC hz hX O' w q y c
 | .slot s n => s < env.length ∧ ∃ row, (y = .obj row ∨ ∃ f caps vs, y = .clos f caps ∧ c = .func (.func f) #[] vs ∧ vs.size = caps.length ∧ (∀ s ∈ S, s < env.length) ∧
   ∀ (j : Nat) (v : V), caps[j]? = some v → (v = .obj row ∧ j = objIdx caps) ∨ ∀ S' hX, (∀ s ∈ S, s ∈ S') → Lends hz hb O w S' hX → RepP hz hX v (vs.getD j undef)) ∧ getS env s = .obj row ∧ row.length = n ∧ tm s = handC y c
 | .lst s ts => s < env.length ∧ ∃ rows, y = .own ts rows ∧ getS env s = .own ts rows ∧ tm s = c
theorem RepL.C {p : List Nat} {v : V} {c : Value} (h : RepL hz hb O w p v c) : RepC hz hb O w p v c := by
 cases v <;> first | exact h | exact h.elim
theorem Lends.sub {S S' : List Nat} {hX : GH} (h : ∀ s ∈ S, s ∈ S') (L : Lends hz hb O w S' hX) : Lends hz hb O w S hX := ⟨L.z, L.b, fun b s r hs e => L.own b s r (h s hs) e⟩
theorem borArg_ok (I : Inv A hz hb O env tm w) {x : Operand} {v y : V} {b : Back} {S : List Nat} (h : borArg x v env = some (cs, us, (y, b, S))) (hx : raw x env = some ([], [], v)) : cs = [] ∧ us = [] ∧ ArgIs A hz hb O env tm w y b S (evO tm x) := by
 obtain ⟨_, _, _, hraw⟩ := raw_ok I hx
 have hop : ∃ s r, (∀ s' ∈ opSlots x, s' < env.length) ∧ (s ∈ opSlots x ∨ (hasOwn v = false ∧ ∀ xs, v = .agg xs → xs.any hasOwn = false)) ∧ RepS hz hb O env tm w (s :: r) v (evO tm x) := by
  rcases hraw with ⟨t, rfl, rfl, hlt, hr⟩ | ⟨hne, hr, hk⟩
  ·exact ⟨t, [], by simpa [opSlots] using hlt, .inl (by simp [opSlots]), hr⟩
  ·refine ⟨0, [], ?_, .inr ?_, hr _⟩
   ·intro s' hs'
    cases x <;> simp [opSlots] at hs'
    exact (hne _ rfl).elim
   ·rcases hk with ⟨c, _, _, rfl⟩ | ⟨cs, _, rfl⟩ | ⟨f, _, rfl⟩ | ⟨g, ts, rows, _, rfl⟩
    ·exact ⟨rfl, fun xs e => by cases e⟩
    ·refine ⟨rfl, fun xs e => ?_⟩
     cases e
     simp [hasOwn]
    ·exact ⟨rfl, fun xs e => by cases e⟩
    ·exact ⟨rfl, fun xs e => by cases e⟩
 obtain ⟨s, r, hlt, hsS, hr⟩ := hop
 unfold borArg at h
 split at h
 ·rename_i xs
  obtain ⟨c1, u1, ys, c2, u2, h1, hA, rfl, rfl⟩ := bind_inv h
  obtain ⟨rfl, rfl, hp⟩ := pure_inv hA
  cases hp
  obtain ⟨vs, hcv, hsz, hl⟩ := hr
  obtain ⟨rfl, rfl, hlen, hm, hy⟩ := borLeaves_ok (k := 0) (g := fun j => vs.getD j undef) I h1 (fun j v e => by rw [Nat.zero_add]; exact hl j v e)
  refine ⟨rfl, rfl, fun s' hs' => ?_, fun S' hX hS L q O' => ⟨vs, hcv, by rw [hlen]; exact hsz, fun j y e => ?_⟩⟩
  ·simp only [List.mem_append, List.mem_map, mentsV] at hs'
   rcases hs' with h | ⟨l, hl, rfl⟩
   ·exact hlt _ h
   ·exact hm l hl
  ·have := hy S' hX L (fun h => by
    rcases hsS with h1 | h1
    ·exact hS _ (by simp [h1])
    ·rw [h1.2 _ rfl] at h; cases h) (fun l hl => hS _ (by
    simp only [List.mem_append, List.mem_map, mentsV]
    exact .inr ⟨l, hl, rfl⟩)) (q ++ [j]) O' j y e
   rw [Nat.zero_add] at this
   exact this
 ·rename_i hna
  obtain ⟨c1, u1, y', c2, u2, h1, hA, rfl, rfl⟩ := bind_inv h
  obtain ⟨rfl, rfl, hp⟩ := pure_inv hA
  cases hp
  have hr' : RepA hz hb O env tm w (s :: r) v (evO tm x) := by
   cases v <;> first | exact hr | exact (hna _ rfl).elim | exact (bad_inv (env := env) h1).elim
  have hmv : mentsV v = mentsV1 v := by
   cases v <;> first | rfl | exact (hna _ rfl).elim | exact (bad_inv (env := env) h1).elim
  obtain ⟨rfl, rfl, hm, hy⟩ := borLeaf_ok I h1 hr'
  refine ⟨rfl, rfl, fun s' hs' => ?_, fun S' hX hS L q O' => RepL.C (hy S' hX L (fun h => ?_) (fun l hl => hS _ ?_) q O')⟩
  ·simp only [List.mem_append, List.mem_map, hmv] at hs'
   rcases hs' with h | ⟨l, hl, rfl⟩
   ·exact hlt _ h
   ·exact hm l hl
  ·rcases hsS with h1 | h1
   ·exact hS _ (by simp [h1])
   ·rw [h1.1] at h; cases h
  ·simp only [List.mem_append, List.mem_map, hmv]
   exact .inr ⟨l, hl, rfl⟩
theorem readOwn_ok {t : Nat} {v y : V} {b : Back} {S : List Nat} {c : Value} (h : readOwn t v env = some (cs, us, (y, b, S))) (hv : getS env t = v) (hc : tm t = c) : cs = [] ∧ us = [] ∧ ArgIs A hz hb O env tm w y b S c := by
 unfold readOwn at h
 split at h
 ·obtain ⟨rfl, rfl, hp⟩ := pure_inv h
  cases hp
  exact ⟨rfl, rfl, getS_lt hv (by simp), _, rfl, hv, hc⟩
 ·exact (bad_inv h).elim
theorem readObj_ok {t : Nat} {v y : V} {b : Back} {S : List Nat} {c : Value} (h : readObj t v env = some (cs, us, (y, b, S))) (hv : getS env t = v) (hc : tm t = c) : cs = [] ∧ us = [] ∧ ArgIs A hz hb O env tm w y b S c := by
 unfold readObj at h
 split at h
 ·obtain ⟨rfl, rfl, hp⟩ := pure_inv h
  cases hp
  exact ⟨rfl, rfl, getS_lt hv (by simp), _, .inl rfl, hv, rfl, hc⟩
 ·exact (bad_inv h).elim
theorem RepP.C {p : List Nat} {v : V} {c : Value} (h : RepP hz hb v c) : RepC hz hb O w p v c := by
 cases v <;> first | exact h | exact h.elim
/-- - -/
def HeldIs (hz hb : GH) (tm : Nat → Value) : V → Value → Prop
 | .ref s j, c => ∃ blk, tm s = .pointer (some ⟨blk, 0, none⟩) ∧ c = .pointer (some ⟨blk, j, none⟩)
 | .f x, c => RepP hz hb (.f x) c
 | .bor ts rows, c => RepP hz hb (.bor ts rows) c
 | .iref ts rows i j, c => RepP hz hb (.iref ts rows i j) c
 | _, _ => True
theorem HeldIs.mono {hz' hb' : GH} (h1 : hz.le hz') (h2 : hb.le hb') {v : V} {c : Value} (h : HeldIs hz hb tm v c) : HeldIs hz' hb' tm v c := by
 cases v with
 | f x => exact RepP.mono (v := .f x) h1 h2 h
 | bor ts rows => exact RepP.mono (v := .bor ts rows) h1 h2 h
 | iref a b i j => exact RepP.mono (v := .iref a b i j) h1 h2 h
 | ref s j => exact h
 | _ => trivial
theorem RepCap.held {p : List Nat} {v : V} {c : Value} (h : RepCap hz hb O env tm w p v c) : HeldIs hz hb tm v c := by
 cases v
 case ref s j =>
  rcases h with h | h
  ·exact h.elim
  ·obtain ⟨row, blk, _, h2, h3⟩ := h
   exact ⟨blk, h2, h3⟩
 case f x =>
  rcases h with h | h
  ·exact h
  ·exact h.elim
 case bor ts rows =>
  rcases h with h | h
  ·exact h
  ·exact h.elim
 case iref ts rows i j =>
  rcases h with h | h
  ·exact h
  ·exact h
 all_goals trivial
theorem kindF_ok {x : F} (h : cellF x = true) : TyF (kindF x) x := by
 unfold kindF
 split
 ·exact ⟨_, rfl⟩
 ·exact ⟨_, rfl⟩
 ·exact ⟨_, rfl⟩
 ·exact ⟨_, rfl⟩
 ·exact h
theorem frozenRow_ok : ∀ {row : List V} {xs : List F}, frozenRow row = some xs → xs.length = row.length ∧ TyRow (xs.map kindF) xs ∧ ∀ (j : Nat) (x : F), xs[j]? = some x → row[j]? = some (.f x)
 | [], xs, h => by
  cases h
  exact ⟨rfl, .nil, fun j x e => by simp at e⟩
 | .f y :: row, xs, h => by
  simp only [frozenRow] at h
  split at h
  ·rename_i ys hc hr
   cases h
   obtain ⟨h1, h2, h3⟩ := frozenRow_ok hr
   refine ⟨by simp [h1], .cons (kindF_ok hc) h2, fun j x e => ?_⟩
   cases j with
   | zero => simp at e; subst e; rfl
   | succ j => simpa using h3 j x (by simpa using e)
  ·cases h
 | .bor _ _ :: _, _, h | .own _ _ :: _, _, h | .lent _ _ _ :: _, _, h | .lsub _ _ _ _ :: _, _, h | .agg _ :: _, _, h | .tup _ :: _, _, h | .obj _ :: _, _, h | .ref _ _ :: _, _, h | .eref _ _ _ :: _, _, h
 | .iref _ _ _ _ :: _, _, h | .clos _ _ :: _, _, h | .cref _ :: _, _, h | .mref _ :: _, _, h | .sit _ _ :: _, _, h | .undef :: _, _, h => by cases h
theorem readCap_ok (I : Inv A hz hb O env tm w) {v y : V} {c : Value} {r : List Nat} (h : readCap v env = some (cs, us, (y, r))) (hv : HeldIs hz hb tm v c) :
  cs = [] ∧ us = [] ∧ (∀ s ∈ r, s < env.length) ∧ ∀ S' hX, (∀ s ∈ r, s ∈ S') → Lends hz hb O w S' hX → RepP hz hX y c := by
 unfold readCap at h
 split at h
 ·rename_i s
  obtain ⟨c1, u1, v1, c2, u2, h1, hA, rfl, rfl⟩ := bind_inv h
  obtain ⟨rfl, rfl, rfl, hne⟩ := slotM_inv h1
  by_cases hob : ∃ row, getS env s = .obj row
  ·obtain ⟨row, hrow⟩ := hob
   simp only [hrow] at hA
   obtain ⟨xs, hx, hB⟩ := opt_bind hA
   obtain ⟨rfl, rfl, hp⟩ := pure_inv hB
   cases hp
   refine ⟨rfl, rfl, fun s' hs' => ?_, fun S' hX hS L => ?_⟩
   ·simp at hs'; subst hs'; exact getS_lt rfl hne
   ·obtain ⟨blk, h2, h3⟩ := hv
    have hr := I.rep s
    rw [hrow, h2] at hr
    obtain ⟨blk', cells, t, fr, h4, hO, hw, hf, hs, hc⟩ := hr
    simp only [Value.pointer.injEq, Option.some.injEq, Addr.mk.injEq, and_true] at h4
    subst h4
    obtain ⟨l1, l2, l3⟩ := frozenRow_ok hx
    refine ⟨blk, 0, 1, 1, ⟨by simpa using l2, some ⟨blk, 0, none⟩, 1, rfl, .inr ⟨blk, 0, cells, t, fr, rfl, (L.own blk s [] (hS s (by simp)) hO).trans hw, by simp, by simp; omega, fun i j row' x e1 e2 => ?_⟩⟩, by simp, by rw [h3]; simp⟩
    have : i = 0 := by
     cases i with
     | zero => rfl
     | succ i => simp at e1
    subst this
    simp at e1
    subst e1
    have : RepF hz x _ := hc j _ (l3 j x e2)
    simpa using this
  ·exfalso
   cases hrow : getS env s <;> simp only [hrow] at hA <;> first | exact (bad_inv hA).elim | exact hob ⟨_, hrow⟩
 ·obtain ⟨rfl, rfl, hp⟩ := pure_inv h
  cases hp
  exact ⟨rfl, rfl, by simp, fun S' hX _ L => RepP.mono (GH.le_refl _) L.b hv⟩
 ·obtain ⟨rfl, rfl, hp⟩ := pure_inv h
  cases hp
  exact ⟨rfl, rfl, by simp, fun S' hX _ L => RepP.mono (GH.le_refl _) L.b hv⟩
 ·obtain ⟨rfl, rfl, hp⟩ := pure_inv h
  cases hp
  exact ⟨rfl, rfl, by simp, fun S' hX _ L => RepP.mono (GH.le_refl _) L.b hv⟩
 ·exact (bad_inv h).elim
theorem readCap_no {v : V} {row : List V} {r : List Nat} (h : readCap v env = some (cs, us, (.obj row, r))) : False := by
 unfold readCap at h
 split at h
 ·obtain ⟨c1, u1, v1, c2, u2, h1, hA, rfl, rfl⟩ := bind_inv h
  split at hA
  ·obtain ⟨xs, hx, hB⟩ := opt_bind hA
   obtain ⟨_, _, hp⟩ := pure_inv hB
   cases hp
  ·exact (bad_inv hA).elim
 ·obtain ⟨_, _, hp⟩ := pure_inv h; cases hp
 ·obtain ⟨_, _, hp⟩ := pure_inv h; cases hp
 ·obtain ⟨_, _, hp⟩ := pure_inv h; cases hp
 ·exact (bad_inv h).elim
theorem readCaps_ok (I : Inv A hz hb O env tm w) {g : Nat → Value} : ∀ {vs ys : List V} {r : List Nat} {k : Nat} {cs : List Bool} {us : List Upd} (_ : readCaps vs env = some (cs, us, (ys, r))) (_ : ∀ j v, vs[j]? = some v → HeldIs hz hb tm v (g (k + j))),
  cs = [] ∧ us = [] ∧ ys.length = vs.length ∧ (∀ s ∈ r, s < env.length) ∧ ∀ S' hX, (∀ s ∈ r, s ∈ S') → Lends hz hb O w S' hX → ∀ j y, ys[j]? = some y → RepP hz hX y (g (k + j))
 | [], ys, r, k, cs, us, h, hv => by
  obtain ⟨rfl, rfl, hp⟩ := pure_inv h
  cases hp
  exact ⟨rfl, rfl, rfl, by simp, fun S' hX _ L j y e => by simp at e⟩
 | v :: vs, ys, r, k, cs, us, h, hv => by
  obtain ⟨c1, u1, ⟨y, r1⟩, c2, u2, h1, hA, rfl, rfl⟩ := bind_inv h
  obtain ⟨rfl, rfl, hl1, hr1⟩ := readCap_ok I h1 (hv 0 v rfl)
  obtain ⟨c3, u3, ⟨zs, r2⟩, c4, u4, h2, hB, rfl, rfl⟩ := bind_inv hA
  obtain ⟨rfl, rfl, hp⟩ := pure_inv hB
  cases hp
  obtain ⟨rfl, rfl, hl, hl2, hr2⟩ := readCaps_ok (k := k + 1) I h2 (fun j v e => by
   have := hv (j + 1) v (by simpa using e)
   rw [show k + 1 + j = k + (j + 1) by omega]
   exact this)
  refine ⟨rfl, rfl, by simp [hl], fun s hs => ?_, fun S' hX hS L j y' e => ?_⟩
  ·simp only [List.mem_append] at hs
   exact hs.elim (hl1 s) (hl2 s)
  ·simp only [List.mem_append] at hS
   cases j with
   | zero => simp at e; subst e; exact hr1 S' hX (fun s h => hS s (.inl h)) L
   | succ j =>
    have := hr2 S' hX (fun s h => hS s (.inr h)) L j y' (by simpa using e)
    rw [show k + (j + 1) = k + 1 + j by omega]
    exact this
theorem readHeld_ok (I : Inv A hz hb O env tm w) {mode : Mode} {v y : V} {b : Back} {c : Value} {r : List Nat} (h : readHeld mode v env = some (cs, us, (y, b, r))) (hv : HeldIs hz hb tm v c) :
  cs = [] ∧ us = [] ∧ ArgIs A hz hb O env tm w y b r c := by
 unfold readHeld at h
 cases hm : mode == .inout with
 | true =>
  rw [hm] at h
  simp only [cond_true] at h
  split at h
  ·rename_i s
   obtain ⟨c1, u1, v1, c2, u2, h1, hA, rfl, rfl⟩ := bind_inv h
   obtain ⟨rfl, rfl, rfl, hne⟩ := slotM_inv h1
   obtain ⟨blk, h2, h3⟩ := hv
   exact readObj_ok hA rfl (h2.trans h3.symm)
  ·exact (bad_inv h).elim
 | false =>
  rw [hm] at h
  simp only [cond_false] at h
  obtain ⟨c1, u1, ⟨z, r1⟩, c2, u2, h1, hA, rfl, rfl⟩ := bind_inv h
  obtain ⟨rfl, rfl, hp⟩ := pure_inv hA
  cases hp
  obtain ⟨rfl, rfl, hl, hr⟩ := readCap_ok I h1 hv
  exact ⟨rfl, rfl, hl, fun S' hX hS L q O' => (hr S' hX hS L).C⟩
theorem readHelds_ok (I : Inv A hz hb O env tm w) {mode : Nat → Mode} {g : Nat → Value} : ∀ {xs ys : List V} {bs : List Back} {rs : List Nat} {j k : Nat} {cs : List Bool} {us : List Upd} (_ : readHelds mode j xs env = some (cs, us, (ys, bs, rs))) (_ : ∀ j v, xs[j]? = some v → HeldIs hz hb tm v (g (k + j))),
  cs = [] ∧ us = [] ∧ ys.length = xs.length ∧ bs.length = xs.length ∧ ∀ (i : Nat) (v : V) (b : Back), ys[i]? = some v → bs[i]? = some b → ∃ S, (∀ s ∈ S, s ∈ rs) ∧ ArgIs A hz hb O env tm w v b S (g (k + i))
 | [], ys, bs, rs, j, k, cs, us, h, hv => by
  obtain ⟨rfl, rfl, hp⟩ := pure_inv h
  cases hp
  exact ⟨rfl, rfl, rfl, rfl, fun i v b e => by simp at e⟩
 | x :: xs, ys, bs, rs, j, k, cs, us, h, hv => by
  obtain ⟨c1, u1, ⟨y, b0, r0⟩, c2, u2, h1, hA, rfl, rfl⟩ := bind_inv h
  obtain ⟨rfl, rfl, hr1⟩ := readHeld_ok I h1 (hv 0 x rfl)
  obtain ⟨c3, u3, ⟨zs, bs1, r2⟩, c4, u4, h2, hB, rfl, rfl⟩ := bind_inv hA
  obtain ⟨rfl, rfl, hp⟩ := pure_inv hB
  cases hp
  obtain ⟨rfl, rfl, hl, hl2, hr2⟩ := readHelds_ok (k := k + 1) I h2 (fun j v e => by
   have := hv (j + 1) v (by simpa using e)
   rw [show k + 1 + j = k + (j + 1) by omega]
   exact this)
  refine ⟨rfl, rfl, by simp [hl], by simp [hl2], fun i v b e1 e2 => ?_⟩
  cases i with
  | zero =>
   simp at e1 e2
   subst e1 e2
   exact ⟨r0, fun s hs => by simp [hs], hr1⟩
  | succ i =>
   obtain ⟨S, h3, h4⟩ := hr2 i v b (by simpa using e1) (by simpa using e2)
   refine ⟨S, fun s hs => by simp [h3 s hs], ?_⟩
   rw [show k + (i + 1) = k + 1 + i by omega]
   exact h4
theorem readCapsO_ok (I : Inv A hz hb O env tm w) {g : Nat → Value} : ∀ {vs ys : List V} {b : Back} {r : List Nat} {k : Nat} {cs : List Bool} {us : List Upd} (_ : readCapsO vs env = some (cs, us, (ys, b, r))) (_ : ∀ j v, vs[j]? = some v → HeldIs hz hb tm v (g (k + j))),
  cs = [] ∧ us = [] ∧ ys.length = vs.length ∧ (∀ s ∈ r, s < env.length) ∧ ∃ s row, b = .slot s row.length ∧ getS env s = .obj row ∧ tm s = g (k + objIdx ys) ∧ s < env.length ∧
   ∀ j y, ys[j]? = some y → (y = .obj row ∧ j = objIdx ys) ∨ ∀ S' hX, (∀ s ∈ r, s ∈ S') → Lends hz hb O w S' hX → RepP hz hX y (g (k + j))
 | [], ys, b, r, k, cs, us, h, hv => (bad_inv h).elim
 | v :: vs, ys, b, r, k, cs, us, h, hv => by
  by_cases hv0 : ∃ s, v = .ref s 0
  ·obtain ⟨s, rfl⟩ := hv0
   simp only [readCapsO] at h
   obtain ⟨c1, u1, v1, c2, u2, h1, hA, rfl, rfl⟩ := bind_inv h
   obtain ⟨rfl, rfl, rfl, hne⟩ := slotM_inv h1
   by_cases hob : ∃ row, getS env s = .obj row
   ·obtain ⟨row, hrow⟩ := hob
    simp only [hrow] at hA
    obtain ⟨c3, u3, ⟨zs, r2⟩, c4, u4, h2, hB, rfl, rfl⟩ := bind_inv hA
    obtain ⟨rfl, rfl, hp⟩ := pure_inv hB
    cases hp
    obtain ⟨rfl, rfl, hl, hl2, hr2⟩ := readCaps_ok (k := k + 1) I h2 (fun j v e => by
     have := hv (j + 1) v (by simpa using e)
     rw [show k + 1 + j = k + (j + 1) by omega]
     exact this)
    obtain ⟨blk, h3, h4⟩ := hv 0 _ rfl
    refine ⟨rfl, rfl, by simp [hl], hl2, s, row, rfl, hrow, h3.trans h4.symm, getS_lt hrow (by simp), fun j y e => ?_⟩
    cases j with
    | zero => simp at e; subst e; exact .inl ⟨rfl, rfl⟩
    | succ j =>
     refine .inr fun S' hX hS L => ?_
     have := hr2 S' hX hS L j y (by simpa using e)
     rw [show k + (j + 1) = k + 1 + j by omega]
     exact this
   ·exfalso
    cases hrow : getS env s <;> simp only [hrow] at hA <;> first | exact (bad_inv hA).elim | exact hob ⟨_, hrow⟩
  ·have hcs : readCapsO (v :: vs) = (do let (y, r) ← readCap v; let (ys, b, rs) ← readCapsO vs; pure (y :: ys, b, r ++ rs)) := by
    cases v <;> first
     | rfl
     | (rename_i s j
        cases j with
        | zero => exact (hv0 ⟨s, rfl⟩).elim
        | succ j => rfl)
   rw [hcs] at h
   obtain ⟨c1, u1, ⟨y, r1⟩, c2, u2, h1, hA, rfl, rfl⟩ := bind_inv h
   obtain ⟨rfl, rfl, hl1, hr1⟩ := readCap_ok I h1 (hv 0 v rfl)
   obtain ⟨c3, u3, ⟨zs, b1, r2⟩, c4, u4, h2, hB, rfl, rfl⟩ := bind_inv hA
   obtain ⟨rfl, rfl, hp⟩ := pure_inv hB
   cases hp
   obtain ⟨rfl, rfl, hl, hl2, s, row, hbk, hg, htm, hslt, hr2⟩ := readCapsO_ok (k := k + 1) I h2 (fun j v e => by
    have := hv (j + 1) v (by simpa using e)
    rw [show k + 1 + j = k + (j + 1) by omega]
    exact this)
   have hno : ∀ row, y ≠ .obj row := by
    rintro row rfl
    exact readCap_no h1
   have hix : objIdx (y :: zs) = objIdx zs + 1 := by
    cases y <;> first | rfl | exact (hno _ rfl).elim
   refine ⟨rfl, rfl, by simp [hl], fun s hs => ?_, s, row, hbk, hg, ?_, hslt, fun j y' e => ?_⟩
   ·simp only [List.mem_append] at hs
    exact hs.elim (hl1 s) (hl2 s)
   ·rw [hix, htm]; congr 1; omega
   ·cases j with
    | zero =>
     simp at e; subst e
     exact .inr fun S' hX hS L => hr1 S' hX (fun s h => hS s (by simp [h])) L
    | succ j =>
     rcases hr2 j y' (by simpa using e) with ⟨h5, h6⟩ | h5
     ·exact .inl ⟨h5, by rw [hix, h6]⟩
     ·refine .inr fun S' hX hS L => ?_
      have := h5 S' hX (fun s h => hS s (by simp [h])) L
      rw [show k + (j + 1) = k + 1 + j by omega]
      exact this
theorem readClos_ok (I : Inv A hz hb O env tm w) {mode : Mode} {f : FuncId} {caps : List V} {y : V} {b : Back} {S : List Nat} {c : Value} {p : List Nat} (h : readClos mode f caps env = some (cs, us, (y, b, S))) (hp : RepClos hz hb O env tm w p f caps c) :
  cs = [] ∧ us = [] ∧ ArgIs A hz hb O env tm w y b S c := by
 obtain ⟨vs, hc, hsz, hl⟩ := hp
 have hl' : ∀ j v, caps[j]? = some v → HeldIs hz hb tm v (vs.getD (0 + j) undef) := fun j v e => by
  rw [Nat.zero_add]
  exact RepCap.held (hl j v e)
 unfold readClos at h
 cases hm : mode == .inout with
 | true =>
  rw [hm] at h
  simp only [cond_true] at h
  obtain ⟨c1, u1, ⟨ys, b1, r1⟩, c2, u2, h1, hB, rfl, rfl⟩ := bind_inv h
  obtain ⟨rfl, rfl, he⟩ := pure_inv hB
  cases he
  obtain ⟨rfl, rfl, hlen, hlt, s, row, rfl, hg, htm, hslt, hr⟩ := readCapsO_ok (k := 0) (g := fun j => vs.getD j undef) I h1 hl'
  refine ⟨rfl, rfl, hslt, row, .inr ⟨f, ys, vs, rfl, hc, by rw [hlen]; exact hsz, hlt, fun j v e => ?_⟩, hg, rfl, ?_⟩
  ·have := hr j v e
   simp only [Nat.zero_add] at this
   exact this
  ·rw [htm, hc, Nat.zero_add]
   rfl
 | false =>
  rw [hm] at h
  simp only [cond_false] at h
  obtain ⟨c1, u1, ⟨ys, r1⟩, c2, u2, h1, hB, rfl, rfl⟩ := bind_inv h
  obtain ⟨rfl, rfl, he⟩ := pure_inv hB
  cases he
  obtain ⟨rfl, rfl, hlen, hlt, hr⟩ := readCaps_ok (k := 0) (g := fun j => vs.getD j undef) I h1 hl'
  refine ⟨rfl, rfl, hlt, fun S' hX hS L q O' => ⟨vs, hc, by rw [hlen]; exact hsz, fun j v e => ?_⟩⟩
  have := hr S' hX hS L j v e
  rw [Nat.zero_add] at this
  exact .inl this
theorem readArg_ok (I : Inv A hz hb O env tm w) {mode : Mode} {lt : LT} {x : Operand} {y : V} {b : Back} {S : List Nat} (h : readArg mode lt x env = some (cs, us, (y, b, S))) : cs = [] ∧ us = [] ∧ ArgIs A hz hb O env tm w y b S (evO tm x) := by
 obtain ⟨v, h0, hA⟩ := raw_bind h
 obtain ⟨_, _, _, hraw⟩ := raw_ok I h0
 clear h
 have ownS : ∀ {t : Nat}, x = .tmp t → getS env t = v := by
  rintro t rfl
  rcases hraw with ⟨t', e, h, _⟩ | ⟨h, _⟩
  ·cases e; exact h.symm
  ·exact (h _ rfl).elim
 have anyS : ∃ p, RepS hz hb O env tm w p v (evO tm x) := by
  rcases hraw with ⟨t', _, _, _, h⟩ | ⟨_, h, _⟩
  ·exact ⟨_, h⟩
  ·exact ⟨[], h []⟩
 obtain ⟨p, hp⟩ := anyS
 split at hA
 ·exact readObj_ok hA (ownS rfl) rfl
 ·rename_i s
  obtain ⟨_, hB⟩ := slotM_bind hA
  obtain ⟨row, blk, h1, h2, h3⟩ := rep_E hp (.inr (.inr (.inl ⟨_, _, rfl⟩)))
  exact readObj_ok hB rfl (h2.trans h3.symm)
 ·obtain ⟨rfl, rfl, he⟩ := pure_inv hA
  cases he
  refine ⟨rfl, rfl, by simp, fun S' hX _ L q O' => typed1_C ?_⟩
  rcases hp with hp | hp
  ·exact hp
  ·exact hp.elim
 ·split at hA
  ·exact readOwn_ok hA (ownS rfl) rfl
  ·exact borArg_ok I hA h0
 ·rename_i l k n _
  unfold readLent at hA
  split at hA
  ·cases hl : l.leaf with
   | none =>
    simp only [hl] at hA
    obtain ⟨_, hB⟩ := slotM_bind hA
    obtain ⟨ts, rows, hL, _⟩ := rep_E hp (.inl ⟨_, _, _, rfl⟩)
    obtain ⟨v, hL1, hL2⟩ := hL
    unfold LocIs at hL1
    rw [hl] at hL1
    exact readOwn_ok hB rfl hL1.2
   | some j => simp only [hl] at hA; exact (bad_inv hA).elim
  ·exact borArg_ok I hA h0
 ·exact readClos_ok I hA hp
 ·split at hA
  ·exact (bad_inv hA).elim
  ·exact borArg_ok I hA h0
end
end Go.Abs
end
section
set_option linter.unusedVariables false
set_option linter.unusedSimpArgs false
set_option linter.unusedSectionVars false
namespace Go.Abs
open Go
variable [Globs]
section
variable {A : Nat → Prop} {hz hb : GH} {O : OM} {env : Env} {tm : Nat → Value} {w w' : World} {P : Program} {H : Hints} {me : FuncId} {o : Oper} {cs : List Bool} {us : List Upd} {u : Unit}

/-! ### the call of a function -/
/-- - -/
def callRun (P : Program) (f : FuncId) (args : Array Value) (w : World) (R : Value → World → Prop) : Prop := match (callFunc f args).run P w with
 | .ok (.value v) w' => R v w'
 | .ok (.enter f args) w' => Calls P f args w' fun e w'' => ∃ v, e = .returned v ∧ R v w''
 | .ok (.row row args) w' => _root_.Go.Rows P row args w' R
 | _ => False
theorem callRun.mono {f : FuncId} {args : Array Value} {R R' : Value → World → Prop} (h : callRun P f args w R) (hr : ∀ v w', R v w' → R' v w') : callRun P f args w R' := by
 unfold callRun at h ⊢
 split at h
 ·exact hr _ _ h
 ·exact Calls.mono h fun e w'' ⟨v, he, h⟩ => ⟨v, he, hr _ _ h⟩
 ·exact h.mono hr
 ·exact h.elim
/-- - -/
def RepR (hz hb : GH) (O : OM) (w : World) (p : List Nat) : V → Value → Prop
 | .tup xs, c => RepTup hz hb O w p xs c
 | v, c => RepC hz hb O w p v c
def okR : V → Bool
 | .tup xs => xs.all okRes
 | v => okRes v
def isHand : V → Bool
 | .obj _ => true
 | .own _ _ => true
 | _ => false
/-- - -/
def FnOk (P : Program) (f : FuncId) (vs : List V) (r : V) (outs : List V) : Prop :=
 okR r = true ∧ ∀ (A : Nat → Prop) (hz hb : GH) (O : OM) (w : World) (args : Array Value), args.size = vs.length → GOk A hz hb O w → (∀ j v, vs[j]? = some v → RepC hz hb O w [j] v (args.getD j undef)) →
  callRun P f args w fun c w' => ∃ hz' hb' O', FzExt A hz hb hz' hb' ∧ GOk A hz' hb' O' w' ∧ Side w w' ∧ RepR hz' hb' O' w' [vs.length] r c ∧
   ∀ j v, outs[j]? = some v → isHand v = true → RepC hz' hb' O' w' [j] v (handC (vs.getD j .undef) (args.getD j undef))

/-- - -/
structure Moves (hz hb : GH) (O : OM) (w : World) (hz' hb' : GH) (O' : OM) (w' : World) (u u' : Nat) : Prop where
 z : hz.le hz'
 own : ∀ b r, O b = some (u :: r) → O' b = some (u' :: r) ∧ w'.heap[b]? = w.heap[b]?
section
variable {hz' hb' : GH} {O' : OM} {u' : Nat}
theorem OwnL.move {v v' : Nat} (k : Moves hz hb O w hz' hb' O' w' v v') {r : List Nat} {ts : List LT} {rows : Rows} {c : Value} (h : OwnL hz O w (v :: r) ts rows c) : OwnL hz' O' w' (v' :: r) ts rows c := by
 obtain ⟨hty, a, cap, rfl, hl, h⟩ := h
 refine ⟨hty, a, cap, rfl, hl, ?_⟩
 rcases h with h | ⟨blk, off, arr, t, fr, rfl, hO, hw, hf, hs, hc⟩
 ·exact .inl h
 ·obtain ⟨h1, h2⟩ := k.own _ _ hO
  exact .inr ⟨blk, off, arr, t, fr, rfl, h1, h2.trans hw, hf, hs, fun i j row x a b => (hc i j row x a b).mono k.z⟩
theorem Own.move {v v' : Nat} (k : Moves hz hb O w hz' hb' O' w' v v') {r : List Nat} {ts : List LT} {rows : Rows} {c : Value} (h : Own hz O w (v :: r) ts rows c) : Own hz' O' w' (v' :: r) ts rows c := by
 rcases h with ⟨hn, h⟩ | ⟨hn, h⟩ | ⟨hn, h⟩
 ·exact .inl ⟨hn, h.move k⟩
 ·obtain ⟨ag, ks, blk, es, rfl, rfl, hO, hw, hs, hc⟩ := h
  obtain ⟨h1, h2⟩ := k.own _ _ hO
  exact .inr (.inl ⟨hn, ag, ks, blk, es, rfl, rfl, h1, h2.trans hw, hs, fun i row e a b => (hc i row e a b).mono k.z⟩)
 ·obtain ⟨h0, mk, ks, sk, rfl, hk, hty, hl, hx⟩ := h
  refine .inr (.inr ⟨hn, h0, mk, ks, sk, rfl, hk, hty, hl.move k, hx.imp fun i j x y h => ?_⟩)
  unfold LeafX at h ⊢
  split
  ·rename_i hm
   rw [if_pos hm] at h
   obtain ⟨v0, rfl, h⟩ := h
   refine ⟨v0, rfl, ?_⟩
   rcases h with h | ⟨ts, rs, rfl, h1, h2⟩
   ·exact .inl h
   ·exact .inr ⟨ts, rs, rfl, h1, OwnL.move k (r := r ++ [i * ks.length + j]) h2⟩
  ·rename_i hm
   rw [if_neg hm] at h
   exact h
def noBor : V → Bool
 | .bor _ _ => false
 | _ => true
theorem RepL.move {v v' : Nat} (k : Moves hz hb O w hz' hb' O' w' v v') {r : List Nat} {x : V} {c : Value} (hb0 : hb.le hb' ∨ noBor x = true) (h : RepL hz hb O w (v :: r) x c) : RepL hz' hb' O' w' (v' :: r) x c := by
 cases x <;> simp only [RepL] at h ⊢
 ·exact h.mono k.z
 ·rcases hb0 with hb0 | hb0
  ·exact h.mono k.z hb0
  ·cases hb0
 ·exact h.move k
theorem RepObj.move {v v' : Nat} (k : Moves hz hb O w hz' hb' O' w' v v') {r : List Nat} {row : List V} {c : Value} (hb0 : hb.le hb' ∨ row.all noBor = true) (h : RepObj hz hb O w (v :: r) row c) : RepObj hz' hb' O' w' (v' :: r) row c := by
 obtain ⟨blk, cells, t, fr, rfl, hO, hw, hf, hs, hc⟩ := h
 obtain ⟨h1, h2⟩ := k.own _ _ hO
 exact ⟨blk, cells, t, fr, rfl, h1, h2.trans hw, hf, hs, fun j x a => RepL.move k (r := r ++ [j]) (hb0.imp id fun h => List.all_eq_true.1 h x (List.mem_of_getElem? a)) (hc j x a)⟩
theorem RepAgg.move {v v' : Nat} (k : Moves hz hb O w hz' hb' O' w' v v') {r : List Nat} {row : List V} {c : Value} (hb0 : hb.le hb' ∨ row.all noBor = true) (h : RepAgg hz hb O w (v :: r) row c) : RepAgg hz' hb' O' w' (v' :: r) row c := by
 obtain ⟨cs, rfl, hs, hc⟩ := h
 exact ⟨cs, rfl, hs, fun j x a => RepL.move k (r := r ++ [j]) (hb0.imp id fun h => List.all_eq_true.1 h x (List.mem_of_getElem? a)) (hc j x a)⟩
def noBors : V → Bool
 | .agg xs => xs.all noBor
 | .obj xs => xs.all noBor
 | .clos _ _ => false
 | .iref _ _ _ _ => false
 | v => noBor v
theorem RepC.move {v v' : Nat} (k : Moves hz hb O w hz' hb' O' w' v v') {r : List Nat} {x : V} {c : Value} (hb0 : hb.le hb' ∨ noBors x = true) (h : RepC hz hb O w (v :: r) x c) : RepC hz' hb' O' w' (v' :: r) x c := by
 cases x <;> simp only [RepC] at h ⊢
 case agg => exact RepAgg.move k hb0 h
 case obj => exact RepObj.move k hb0 h
 case clos =>
  rcases hb0 with hb0 | hb0
  ·obtain ⟨cs, rfl, hs, hc⟩ := h
   refine ⟨cs, rfl, hs, fun j y e => ?_⟩
   rcases hc j y e with h1 | ⟨row, h1, h2⟩
   ·exact .inl (h1.mono k.z hb0)
   ·exact .inr ⟨row, h1, RepObj.move k (.inl hb0) h2⟩
  ·cases hb0
 case iref =>
  rcases hb0 with hb0 | hb0
  ·exact h.mono k.z hb0
  ·cases hb0
 all_goals exact RepL.move k hb0 h
theorem okRes1_nb {v : V} (h : okRes1 v = true) : noBor v = true := by cases v <;> first | rfl | (simp [okRes1] at h)
theorem okRes_nb {v : V} (h : okRes v = true) : noBors v = true := by
 cases v
 case agg xs => exact List.all_eq_true.2 fun x hx => okRes1_nb (List.all_eq_true.1 h x hx)
 case obj xs => exact List.all_eq_true.2 fun x hx => okRes1_nb (List.all_eq_true.1 h x hx)
 all_goals first | rfl | (simp [okRes, okRes1] at h)
theorem okOut1_nb {v : V} (h : okOut1 v = true) : noBor v = true := by cases v <;> first | rfl | (simp [okOut1] at h)
theorem RepR.move {v v' : Nat} (k : Moves hz hb O w hz' hb' O' w' v v') {r : List Nat} {x : V} {c : Value} (hx : okR x = true) (h : RepR hz hb O w (v :: r) x c) : RepR hz' hb' O' w' (v' :: r) x c := by
 by_cases ht : ∃ xs, x = .tup xs
 ·obtain ⟨xs, rfl⟩ := ht
  obtain ⟨cs, rfl, hs, hc⟩ := h
  exact ⟨cs, rfl, hs, fun j y a => RepC.move k (r := r ++ [j]) (.inr (okRes_nb (List.all_eq_true.1 hx y (List.mem_of_getElem? a)))) (hc j y a)⟩
 ·have h1 : ∀ (hz hb : GH) (O : OM) (w : World) (p : List Nat) (c : Value), RepR hz hb O w p x c = RepC hz hb O w p x c := by
   intro hz hb O w p c
   cases x <;> first | rfl | exact (ht ⟨_, rfl⟩).elim
  rw [h1] at h ⊢
  have h2 : okRes x = true := by cases x <;> first | exact hx | exact (ht ⟨_, rfl⟩).elim
  exact RepC.move k (.inr (okRes_nb h2)) h
theorem RepR.S {p : List Nat} {x : V} {c : Value} (hx : okR x = true) (h : RepR hz hb O w p x c) : RepS hz hb O env tm w p x c := by
 cases x
 case tup xs => exact h
 case agg xs => obtain ⟨cs, rfl, hs, hc⟩ := h; exact ⟨cs, rfl, hs, fun j v e => .inl (hc j v e)⟩
 case obj xs => exact h
 all_goals first | exact .inl h | (simp [okR, okRes, okRes1] at hx)
end
/-! the two renamings -/
def hslot : Back → Option Nat
 | .none => none
 | .slot s _ => some s
 | .lst s _ => some s
def findB (s : Nat) : Nat → List Back → Option Nat
 | _, [] => none
 | j, b :: bs => if hslot b = some s then some j else findB s (j + 1) bs
theorem findB_some {s j i : Nat} : ∀ {bs : List Back} {k : Nat}, findB s k bs = some i → ∃ b, k ≤ i ∧ bs[i - k]? = some b ∧ hslot b = some s
 | [], k, h => by cases h
 | b :: bs, k, h => by
  simp only [findB] at h
  split at h
  ·rename_i hb
   cases h
   exact ⟨b, Nat.le_refl _, by simp, hb⟩
  ·obtain ⟨b', h1, h2, h3⟩ := findB_some (j := j) h
   refine ⟨b', by omega, ?_, h3⟩
   rw [show i - k = (i - (k + 1)) + 1 by omega]
   simpa using h2
theorem findB_none {s : Nat} : ∀ {bs : List Back} {k : Nat}, findB s k bs = none ↔ s ∉ handed bs
 | [], k => by simp [findB, handed]
 | b :: bs, k => by
  have ih := findB_none (s := s) (bs := bs) (k := k + 1)
  cases b <;> simp only [findB, hslot, handed, List.mem_cons, not_or]
  ·simpa using ih
  all_goals
   rename_i s' _
   by_cases h : s' = s
   ·subst h; simp
   ·have h' : ¬ s = s' := fun e => h e.symm
    simp [h, h', ih]
theorem findB_at {s : Nat} {b : Back} (hb : hslot b = some s) : ∀ {bs : List Back} {k i : Nat}, distinct (handed bs) = true → bs[i]? = some b → findB s k bs = some (k + i)
 | [], k, i, _, h => by simp at h
 | b' :: bs, k, i, hd, h => by
  simp only [findB]
  cases i with
  | zero => simp at h; subst h; simp [hb]
  | succ i =>
   have h0 : bs[i]? = some b := by simpa using h
   have hmem : s ∈ handed bs := by
    have : findB s 0 bs ≠ none := by
     intro hn
     have hx : ∀ {bs : List Back} {k i : Nat}, bs[i]? = some b → findB s k bs ≠ none := by
      intro bs
      induction bs with
      | nil => intro k i h; simp at h
      | cons b0 bs ih =>
       intro k i h
       simp only [findB]
       split
       ·simp
       ·cases i with
        | zero => simp at h; subst h; contradiction
        | succ i => exact ih (by simpa using h)
     exact hx h0 hn
    rw [Ne, findB_none] at this
    exact Classical.not_not.1 this
   have hne : hslot b' ≠ some s := by
    intro he
    cases b' <;> simp [hslot] at he <;> subst he <;> simp [handed, distinct] at hd <;> exact hd.1 hmem
   rw [if_neg hne]
   have hd' : distinct (handed bs) = true := by
    cases b' <;> simp [handed, distinct] at hd <;> first | exact hd | exact hd.2
   rw [findB_at hb hd' h0]
   congr 1
   omega
theorem readArgs_ok (I : Inv A hz hb O env tm w) {mode : Nat → Mode} : ∀ {xs : List Operand} {j : Nat} {tys : List TypeId} {tk : List (Option V)} {cs : List Bool} {us : List Upd} {vs : List V} {bs : List Back} {rs : List Nat} (_ : readArgs P mode j tys xs tk env = some (cs, us, (vs, bs, rs))) (_ : tk.length = xs.length),
  cs = [] ∧ us = [] ∧ vs.length = xs.length ∧ bs.length = xs.length ∧ ∀ (i : Nat) (v : V) (b : Back) (x : Operand), vs[i]? = some v → bs[i]? = some b → xs[i]? = some x → (tk[i]? = some (some v) ∧ b = .none) ∨ ∃ S, (∀ s ∈ S, s ∈ rs) ∧ ArgIs A hz hb O env tm w v b S (evO tm x)
 | [], j, tys, tk, cs, us, vs, bs, rs, h, hl => by
  simp only [readArgs] at h
  obtain ⟨rfl, rfl, hp⟩ := pure_inv h
  cases hp
  exact ⟨rfl, rfl, rfl, rfl, fun i v b x e => by simp at e⟩
 | x :: xs, j, tys, [], cs, us, vs, bs, rs, h, hl => by simp at hl
 | x :: xs, j, tys, some v0 :: tk, cs, us, vs, bs, rs, h, hl => by
  simp only [readArgs] at h
  obtain ⟨c1, u1, ⟨ys, bs1, rs1⟩, c2, u2, h1, hA, rfl, rfl⟩ := bind_inv h
  simp only at hA
  obtain ⟨rfl, rfl, hp⟩ := pure_inv hA
  cases hp
  obtain ⟨rfl, rfl, l1, l2, hr⟩ := readArgs_ok I h1 (by simpa using hl)
  refine ⟨rfl, rfl, by simp [l1], by simp [l2], fun i v b x' e1 e2 e3 => ?_⟩
  cases i with
  | zero =>
   simp at e1 e2 e3
   subst e1 e2
   exact .inl ⟨rfl, rfl⟩
  | succ i =>
   have := hr i v b x' (by simpa using e1) (by simpa using e2) (by simpa using e3)
   simpa using this
 | x :: xs, j, tys, none :: tk, cs, us, vs, bs, rs, h, hl => by
  simp only [readArgs] at h
  obtain ⟨c1, u1, ⟨y, b0, r0⟩, c2, u2, h1, hA, rfl, rfl⟩ := bind_inv h
  simp only at hA
  obtain ⟨rfl, rfl, hy⟩ := readArg_ok I h1
  obtain ⟨c3, u3, ⟨ys, bs1, rs1⟩, c4, u4, h2, hB, rfl, rfl⟩ := bind_inv hA
  simp only at hB
  obtain ⟨rfl, rfl, hp⟩ := pure_inv hB
  cases hp
  obtain ⟨rfl, rfl, l1, l2, hr⟩ := readArgs_ok I h2 (by simpa using hl)
  refine ⟨rfl, rfl, by simp [l1], by simp [l2], fun i v b x' e1 e2 e3 => ?_⟩
  cases i with
  | zero =>
   simp at e1 e2 e3
   subst e1 e2 e3
   exact .inr ⟨r0, fun s hs => by simp [hs], hy⟩
  | succ i =>
   rcases hr i v b x' (by simpa using e1) (by simpa using e2) (by simpa using e3) with h3 | ⟨S, h3, h4⟩
   ·exact .inl (by simpa using h3)
   ·exact .inr ⟨S, fun s hs => by simp [h3 s hs], h4⟩
/-- - -/
theorem kills_ok : ∀ {bs : List Back} {vs : List V} {env : Env} (_ : Inv A hz hb O env tm w), Inv A hz hb O (applyU (killsB bs vs) env) tm w ∧ (applyU (killsB bs vs) env).length = env.length ∧
  (∀ t row, getS env t = .obj row → getS (applyU (killsB bs vs) env) t = .obj row) ∧ (∀ t ts rows, getS env t = .own ts rows → getS (applyU (killsB bs vs) env) t = .own ts rows) ∧
  (∀ t l, l ∈ mentsV (getS (applyU (killsB bs vs) env) t) → l ∈ mentsV (getS env t) ∧ ∀ (i s n : Nat), bs[i]? = some (.slot s n) → i < vs.length → (KQ.leaves s 0 n).hits l = false)
 | [], vs, env, I => ⟨by simpa [killsB, applyU] using I, by simp [killsB, applyU], by simp [killsB, applyU], by simp [killsB, applyU], fun t l h => ⟨by simpa [killsB, applyU] using h, fun i s n e => by simp at e⟩⟩
 | b :: bs, [], env, I => by
  have : killsB (b :: bs) [] = [] := by cases b <;> rfl
  rw [this]
  exact ⟨by simpa [applyU] using I, by simp [applyU], by simp [applyU], by simp [applyU], fun t l h => ⟨by simpa [applyU] using h, fun i s n e hi => by simp at hi⟩⟩
 | b :: bs, v :: vs, env, I => by
  by_cases hb' : ∃ s n, b = .slot s n
  ·obtain ⟨s, n, rfl⟩ := hb'
   simp only [killsB, applyU, apply1]
   have I1 := I.kill (.leaves s 0 n)
   obtain ⟨I2, hl, ho, hw, hm⟩ := kills_ok (bs := bs) (vs := vs) I1
   refine ⟨I2, by rw [hl]; simp, fun t row e => ho t row (by rw [getS_kill, e]; rfl), fun t ts rows e => hw t ts rows (by rw [getS_kill, e]; rfl), fun t l h => ?_⟩
   obtain ⟨h1, h2⟩ := hm t l h
   rw [getS_kill] at h1
   obtain ⟨h3, h4⟩ := mentsV_kill h1
   refine ⟨h3, fun i s' n' e hi => ?_⟩
   cases i with
   | zero => simp at e; obtain ⟨rfl, rfl⟩ := e; exact h4
   | succ i => exact h2 i s' n' (by simpa using e) (by simpa using hi)
  ·have hk : killsB (b :: bs) (v :: vs) = killsB bs vs := by cases b <;> first | rfl | exact (hb' ⟨_, _, rfl⟩).elim
   rw [hk]
   obtain ⟨I2, hl, ho, hw, hm⟩ := kills_ok (bs := bs) (vs := vs) (env := env) (by assumption)
   refine ⟨I2, hl, ho, hw, fun t l h => ?_⟩
   obtain ⟨h1, h2⟩ := hm t l h
   refine ⟨h1, fun i s' n' e hi => ?_⟩
   cases i with
   | zero => simp at e; exact (hb' ⟨_, _, e⟩).elim
   | succ i => exact h2 i s' n' (by simpa using e) (by simpa using hi)
/-- - -/
theorem back_ok : ∀ {bs : List Back} {outs : List V} {env : Env} {cs : List Bool} {us : List Upd} {u : Unit} (_ : backAll bs outs env = some (cs, us, u)) (_ : distinct (handed bs) = true) (_ : ∀ s n, Back.slot s n ∈ bs → ∃ row, getS env s = .obj row ∧ row.length = n) (_ : ∀ s ts, Back.lst s ts ∈ bs → ∃ rows, getS env s = .own ts rows),
  cs = [] ∧ (applyU us env).length = env.length ∧ (∀ t, t ∉ handed bs → getS (applyU us env) t = getS env t) ∧
   (∀ (i s n : Nat), bs[i]? = some (.slot s n) → ∃ row, outs[i]? = some (.obj row) ∧ row.length = n ∧ row.all okOut1 = true ∧ getS (applyU us env) s = .obj row) ∧
   (∀ (i s : Nat) (ts : List LT), bs[i]? = some (.lst s ts) → ∃ rows, outs[i]? = some (.own ts rows) ∧ getS (applyU us env) s = .own ts rows)
 | [], outs, env, cs, us, u, h, hd, h1, h2 => by
  simp only [backAll] at h
  obtain ⟨rfl, rfl, _⟩ := pure_inv h
  exact ⟨rfl, rfl, fun _ _ => rfl, fun i s n e => by simp at e, fun i s ts e => by simp at e⟩
 | .none :: bs, [], env, cs, us, u, h, hd, h1, h2 => by simp only [backAll] at h; exact (bad_inv h).elim
 | .none :: bs, v :: outs, env, cs, us, u, h, hd, h1, h2 => by
  simp only [backAll] at h
  obtain ⟨rfl, hl, ho, hs, hw⟩ := back_ok h hd (fun s n e => h1 s n (List.mem_cons_of_mem _ e)) (fun s ts e => h2 s ts (List.mem_cons_of_mem _ e))
  refine ⟨rfl, hl, ho, fun i s n e => ?_, fun i s ts e => ?_⟩
  ·cases i with
   | zero => simp at e
   | succ i => exact hs i s n (by simpa using e)
  ·cases i with
   | zero => simp at e
   | succ i => exact hw i s ts (by simpa using e)
 | .slot s0 n0 :: bs, outs, env, cs, us, u, h, hd, h1, h2 => by
  have hd' : s0 ∉ handed bs ∧ distinct (handed bs) = true := by simpa [handed, distinct] using hd
  cases outs with
  | nil => simp only [backAll] at h; exact (bad_inv h).elim
  | cons v outs =>
   by_cases hv : ∃ row, v = .obj row
   ·obtain ⟨row, rfl⟩ := hv
    simp only [backAll] at h
    split at h
    ·rename_i hc
     obtain ⟨c1, u1, _, c2, u2, hA, hB, rfl, rfl⟩ := bind_inv h
     obtain ⟨rfl, rfl⟩ := upd_inv hA
     obtain ⟨row0, hr0, hl0⟩ := h1 s0 n0 (by simp)
     have hset : applyU (leafUs s0 0 row) env = env.set s0 (.obj row) := by
      have := leafUs_apply (s := s0) (xs := row) (j := 0) (env := env) (row := row0) hr0 (by omega)
      rw [this]
      congr 1
      congr 1
      unfold splice
      simp
      omega
     have hlt : s0 < env.length := getS_lt hr0 (by simp)
     have hne : ∀ s, s ∈ handed bs → s0 ≠ s := by rintro s hs rfl; exact hd'.1 hs
     have mem1 : ∀ s n, Back.slot s n ∈ bs → s ∈ handed bs := by
      intro s n hm
      obtain ⟨i, hi⟩ := List.getElem?_of_mem hm
      by_cases hx : s ∈ handed bs
      ·exact hx
      ·exfalso
       have := findB_none (s := s) (bs := bs) (k := 0) |>.2 hx
       rw [findB_at (b := .slot s n) rfl hd'.2 hi] at this
       cases this
     have mem2 : ∀ s ts, Back.lst s ts ∈ bs → s ∈ handed bs := by
      intro s n hm
      obtain ⟨i, hi⟩ := List.getElem?_of_mem hm
      by_cases hx : s ∈ handed bs
      ·exact hx
      ·exfalso
       have := findB_none (s := s) (bs := bs) (k := 0) |>.2 hx
       rw [findB_at (b := .lst s n) rfl hd'.2 hi] at this
       cases this
     rw [applyU_append]
     rw [hset] at hB ⊢
     obtain ⟨rfl, hl, ho, hs, hw⟩ := back_ok hB hd'.2 (fun s n e => by rw [getS_set_ne (hne _ (mem1 s n e))]; exact h1 s n (List.mem_cons_of_mem _ e)) (fun s ts e => by rw [getS_set_ne (hne _ (mem2 s ts e))]; exact h2 s ts (List.mem_cons_of_mem _ e))
     refine ⟨rfl, by rw [hl]; simp, fun t ht => ?_, fun i s n e => ?_, fun i s ts e => ?_⟩
     ·simp only [handed, List.mem_cons, not_or] at ht
      rw [ho t ht.2, getS_set_ne (Ne.symm ht.1)]
     ·cases i with
      | zero =>
       simp at e
       obtain ⟨rfl, rfl⟩ := e
       refine ⟨row, rfl, hc.1, hc.2, ?_⟩
       rw [ho _ hd'.1, getS_set]
       simp [hlt]
      | succ i => exact hs i s n (by simpa using e)
     ·cases i with
      | zero => simp at e
      | succ i => exact hw i s ts (by simpa using e)
    ·exact (bad_inv h).elim
   ·have : (backAll (.slot s0 n0 :: bs) (v :: outs) : M Unit) = bad "back: what" := by cases v <;> first | rfl | exact (hv ⟨_, rfl⟩).elim
    rw [this] at h
    exact (bad_inv h).elim
 | .lst s0 ts0 :: bs, outs, env, cs, us, u, h, hd, h1, h2 => by
  have hd' : s0 ∉ handed bs ∧ distinct (handed bs) = true := by simpa [handed, distinct] using hd
  cases outs with
  | nil => simp only [backAll] at h; exact (bad_inv h).elim
  | cons v outs =>
   by_cases hv : ∃ ts rows, v = .own ts rows
   ·obtain ⟨ts, rows, rfl⟩ := hv
    simp only [backAll] at h
    split at h
    ·rename_i hc
     obtain rfl := eqTs_eq hc
     obtain ⟨c1, u1, _, c2, u2, hA, hB, rfl, rfl⟩ := bind_inv h
     obtain ⟨rfl, rfl⟩ := upd_inv hA
     obtain ⟨rows0, hr0⟩ := h2 s0 ts0 (by simp)
     have hset : applyU [.set s0 (.own ts0 rows)] env = env.set s0 (.own ts0 rows) := rfl
     have hlt : s0 < env.length := getS_lt hr0 (by simp)
     have hne : ∀ s, s ∈ handed bs → s0 ≠ s := by rintro s hs rfl; exact hd'.1 hs
     have mem1 : ∀ s n, Back.slot s n ∈ bs → s ∈ handed bs := by
      intro s n hm
      obtain ⟨i, hi⟩ := List.getElem?_of_mem hm
      by_cases hx : s ∈ handed bs
      ·exact hx
      ·exfalso
       have := findB_none (s := s) (bs := bs) (k := 0) |>.2 hx
       rw [findB_at (b := .slot s n) rfl hd'.2 hi] at this
       cases this
     have mem2 : ∀ s ts, Back.lst s ts ∈ bs → s ∈ handed bs := by
      intro s n hm
      obtain ⟨i, hi⟩ := List.getElem?_of_mem hm
      by_cases hx : s ∈ handed bs
      ·exact hx
      ·exfalso
       have := findB_none (s := s) (bs := bs) (k := 0) |>.2 hx
       rw [findB_at (b := .lst s n) rfl hd'.2 hi] at this
       cases this
     rw [applyU_append]
     rw [hset] at hB ⊢
     obtain ⟨rfl, hl, ho, hs, hw⟩ := back_ok hB hd'.2 (fun s n e => by rw [getS_set_ne (hne _ (mem1 s n e))]; exact h1 s n (List.mem_cons_of_mem _ e)) (fun s ts e => by rw [getS_set_ne (hne _ (mem2 s ts e))]; exact h2 s ts (List.mem_cons_of_mem _ e))
     refine ⟨rfl, by rw [hl]; simp, fun t ht => ?_, fun i s n e => ?_, fun i s ts e => ?_⟩
     ·simp only [handed, List.mem_cons, not_or] at ht
      rw [ho t ht.2, getS_set_ne (Ne.symm ht.1)]
     ·cases i with
      | zero => simp at e
      | succ i => exact hs i s n (by simpa using e)
     ·cases i with
      | zero =>
       simp at e
       obtain ⟨rfl, rfl⟩ := e
       refine ⟨rows, rfl, ?_⟩
       rw [ho _ hd'.1, getS_set]
       simp [hlt]
      | succ i => exact hw i s ts (by simpa using e)
    ·exact (bad_inv h).elim
   ·have : (backAll (.lst s0 ts0 :: bs) (v :: outs) : M Unit) = bad "back: what" := by cases v <;> first | rfl | exact (hv ⟨_, _, rfl⟩).elim
    rw [this] at h
    exact (bad_inv h).elim
end
end Go.Abs
end
section
set_option linter.unusedVariables false
set_option linter.unusedSimpArgs false
set_option linter.unusedSectionVars false
namespace Go.Abs
open Go
variable [Globs]
section
variable {A : Nat → Prop} {hz hb : GH} {O : OM} {env : Env} {tm : Nat → Value} {w w' : World} {P : Program} {H : Hints} {me : FuncId} {o : Oper} {cs : List Bool} {us : List Upd} {u : Unit}

/-- - -/
def toArg (M : Nat) (bs : List Back) : List Nat → Option (List Nat)
 | [] => none
 | v :: r => if M ≤ v ∧ v < M + bs.length then some ((v - M) :: r) else (findB v 0 bs).map (· :: r)
/-- - -/
def fromArg (N : Nat) (bs : List Back) : List Nat → Option (List Nat)
 | [] => none
 | j :: r => if j = bs.length then some (N :: r) else ((bs[j]?).bind hslot).map (· :: r)
/-- - -/
def keptO (nm : List Nat → Option (List Nat)) (O : OM) : OM := fun b => match O b with
 | some p => if nm p = none then some p else none
 | none => none
theorem keptO_some {nm : List Nat → Option (List Nat)} {b : Nat} {p : List Nat} (h : keptO nm O b = some p) : O b = some p ∧ nm p = none := by
 unfold keptO at h
 split at h
 ·split at h
  ·cases h; exact ⟨by assumption, by assumption⟩
  ·cases h
 ·cases h
theorem keptO_of {nm : List Nat → Option (List Nat)} {b : Nat} {p : List Nat} (h : O b = some p) (hn : nm p = none) : keptO nm O b = some p := by
 unfold keptO; simp [h, hn]
theorem keptO_not {nm : List Nat → Option (List Nat)} {b : Nat} {p q : List Nat} (h : O b = some p) (hn : nm p = some q) : keptO nm O b = none := by
 unfold keptO; simp [h, hn]
def inHeap (nm : List Nat → Option (List Nat)) (O : OM) (hb : GH) (w : World) : GH := fun b => if (keptO nm O b).isSome then w.heap[b]? else hb b
def outHeap (nm : List Nat → Option (List Nat)) (O : OM) (hb : GH) : GH := fun b => if (keptO nm O b).isSome then none else hb b
def outO (nm tn : List Nat → Option (List Nat)) (O O2 : OM) : OM := fun b => match keptO nm O b with
 | some p => some p
 | none => (O2 b).bind tn
theorem inHeap_kept {nm : List Nat → Option (List Nat)} {b : Nat} {p : List Nat} (h : keptO nm O b = some p) : inHeap nm O hb w b = w.heap[b]? := by unfold inHeap; simp [h]
theorem inHeap_not {nm : List Nat → Option (List Nat)} {b : Nat} (h : keptO nm O b = none) : inHeap nm O hb w b = hb b := by unfold inHeap; simp [h]
theorem outHeap_not {nm : List Nat → Option (List Nat)} {b : Nat} (h : keptO nm O b = none) : outHeap nm O hb b = hb b := by unfold outHeap; simp [h]
theorem outHeap_kept {nm : List Nat → Option (List Nat)} {b : Nat} {p : List Nat} (h : keptO nm O b = some p) : outHeap nm O hb b = none := by unfold outHeap; simp [h]
/-- - -/
def argA (A : Nat → Prop) (nm : List Nat → Option (List Nat)) (O : OM) (w : World) : Nat → Prop := fun b => A b ∧ ((∃ p q, O b = some p ∧ nm p = some q) ∨ w.heap.size ≤ b)
theorem lendsIn (g : GOk A hz hb O w) (nm : List Nat → Option (List Nat)) : hb.le (inHeap nm O hb w) := by
 intro b o e
 rw [inHeap_not]
 ·exact e
 ·cases h : keptO nm O b with
  | none => rfl
  | some p => rw [(g.owned _ _ (keptO_some h).1).2.1] at e; cases e
theorem gokIn (g : GOk A hz hb O w) (nm : List Nat → Option (List Nat)) : GOk (argA A nm O w) hz (inHeap nm O hb w) (fun b => (O b).bind nm) w := by
 refine ⟨GH.le_trans g.sub (lendsIn g nm), fun b o e => ?_, fun b p e => ?_, fun b e => ⟨g.fresh b e, .inr e⟩, g.glob⟩
 ·cases h : keptO nm O b with
  | none => rw [inHeap_not h] at e; exact g.agree b o e
  | some p => rw [inHeap_kept h] at e; exact e
 ·simp only [Option.bind_eq_some_iff] at e
  obtain ⟨q, h1, h2⟩ := e
  have := g.owned b q h1
  refine ⟨⟨this.1, .inl ⟨q, p, h1, h2⟩⟩, ?_, this.2.2⟩
  rw [inHeap_not (keptO_not h1 h2)]
  exact this.2.1
section
variable {nm tn : List Nat → Option (List Nat)} {hz2 hb2 : GH} {O2 : OM} {w2 : World}
/-- - -/
theorem kept_same (g : GOk A hz hb O w) (g2 : GOk (argA A nm O w) hz2 hb2 O2 w2) (e : FzExt (argA A nm O w) hz (inHeap nm O hb w) hz2 hb2) {b : Nat} {p : List Nat} (h : keptO nm O b = some p) : w2.heap[b]? = w.heap[b]? := by
 have hlt := (g.owned _ _ (keptO_some h).1).2.2
 have h1 : inHeap nm O hb w b = some (w.heap[b]'hlt) := by rw [inHeap_kept h]; exact Array.getElem?_eq_getElem hlt
 have h2 := g2.agree _ _ (e.2.1 _ _ h1)
 rw [h2]
 exact (Array.getElem?_eq_getElem hlt).symm
theorem kept_not (g : GOk A hz hb O w) (g2 : GOk (argA A nm O w) hz2 hb2 O2 w2) (e : FzExt (argA A nm O w) hz (inHeap nm O hb w) hz2 hb2) {b : Nat} {p : List Nat} (h : O2 b = some p) : keptO nm O b = none := by
 cases hk : keptO nm O b with
 | none => rfl
 | some q =>
  have hlt := (g.owned _ _ (keptO_some hk).1).2.2
  have h1 : inHeap nm O hb w b = some (w.heap[b]'hlt) := by rw [inHeap_kept hk]; exact Array.getElem?_eq_getElem hlt
  have h2 := e.2.1 _ _ h1
  rw [(g2.owned _ _ h).2.1] at h2
  cases h2
theorem gokOut (g : GOk A hz hb O w) (g2 : GOk (argA A nm O w) hz2 hb2 O2 w2) (e : FzExt (argA A nm O w) hz (inHeap nm O hb w) hz2 hb2) (hs : w.heap.size ≤ w2.heap.size) :
  GOk A hz2 (outHeap nm O hb2) (outO nm tn O O2) w2 ∧ FzExt A hz hb hz2 (outHeap nm O hb2) := by
 have hzk : ∀ b p, keptO nm O b = some p → hz2 b = none := by
  intro b p h
  cases hx : hz2 b with
  | none => rfl
  | some o =>
   obtain ⟨h1, h2⟩ := keptO_some h
   have h3 := g.owned _ _ h1
   rcases e.2.2.2 b o hx with h4 | ⟨_, h4⟩
   ·rw [g.sub _ _ h4] at h3; cases h3.2.1
   ·rcases h4 with ⟨p', q, h5, h6⟩ | h5
    ·rw [h1] at h5; cases h5; rw [h2] at h6; cases h6
    ·omega
 refine ⟨⟨fun b o h => ?_, fun b o h => ?_, fun b p h => ?_, fun b h => g.fresh b (by omega), g2.glob⟩, e.1, fun b o h => ?_, fun b o h => ?_, fun b o h => ?_⟩
 ·cases hk : keptO nm O b with
  | none => rw [outHeap_not hk]; exact g2.sub _ _ h
  | some p => rw [hzk b p hk] at h; cases h
 ·cases hk : keptO nm O b with
  | none => rw [outHeap_not hk] at h; exact g2.agree _ _ h
  | some p => rw [outHeap_kept hk] at h; cases h
 ·unfold outO at h
  cases hk : keptO nm O b with
  | none =>
   rw [hk] at h
   simp only [Option.bind_eq_some_iff] at h
   obtain ⟨q, h1, h2⟩ := h
   have h3 := g2.owned _ _ h1
   exact ⟨h3.1.1, by rw [outHeap_not hk]; exact h3.2.1, h3.2.2⟩
  | some q =>
   have h3 := g.owned _ _ (keptO_some hk).1
   exact ⟨h3.1, outHeap_kept hk, by omega⟩
 ·have hk : keptO nm O b = none := by
   cases hk : keptO nm O b with
   | none => rfl
   | some p => rw [(g.owned _ _ (keptO_some hk).1).2.1] at h; cases h
  rw [outHeap_not hk]
  exact e.2.1 _ _ (by rw [inHeap_not hk]; exact h)
 ·cases hk : keptO nm O b with
  | none =>
   rw [outHeap_not hk] at h
   rcases e.2.2.1 b o h with h1 | h1
   ·rw [inHeap_not hk] at h1; exact .inl h1
   ·exact .inr ⟨h1.1.1, h1.2⟩
  | some p => rw [outHeap_kept hk] at h; cases h
 ·rcases e.2.2.2 b o h with h1 | h1
  ·exact .inl h1
  ·exact .inr h1.1
end
/-- - -/
def ArgAt (hz hb : GH) (O : OM) (env : Env) (tm : Nat → Value) (w : World) (S : List Nat) (M i : Nat) (y : V) (b : Back) (c : Value) : Prop := match b with
 | .none => RepC hz hb O w [M + i] y c ∨ ∀ hX, Lends hz hb O w S hX → ∀ q O', RepC hz hX O' w q y c
 | .slot s n => ∃ row, (y = .obj row ∨ ∃ f caps vs, y = .clos f caps ∧ c = .func (.func f) #[] vs ∧ vs.size = caps.length ∧
   ∀ (j : Nat) (v : V), caps[j]? = some v → (v = .obj row ∧ j = objIdx caps) ∨ ∀ hX, Lends hz hb O w S hX → RepP hz hX v (vs.getD j undef)) ∧ getS env s = .obj row ∧ row.length = n ∧ tm s = handC y c
 | .lst s ts => ∃ rows, y = .own ts rows ∧ getS env s = .own ts rows ∧ tm s = c
theorem handed_at {bs : List Back} {s : Nat} (h : s ∈ handed bs) : ∃ (i : Nat) (b : Back), bs[i]? = some b ∧ hslot b = some s ∧ findB s 0 bs = some i := by
 cases hf : findB s 0 bs with
 | none => exact (findB_none.1 hf h).elim
 | some i =>
  obtain ⟨b, _, h1, h2⟩ := findB_some (j := 0) hf
  exact ⟨i, b, by simpa using h1, h2, rfl⟩
theorem handed_of {bs : List Back} {i : Nat} {b : Back} {s : Nat} (hd : distinct (handed bs) = true) (h : bs[i]? = some b) (hs : hslot b = some s) : s ∈ handed bs := by
 by_cases hx : s ∈ handed bs
 ·exact hx
 ·have h1 := findB_none (s := s) (bs := bs) (k := 0) |>.2 hx
  rw [findB_at hs hd h] at h1
  cases h1
theorem call_core (I : Inv A hz hb O env tm w) {bs : List Back} {vs outs : List V} {r : V} {f : FuncId} {margs : Array Value} {S : List Nat} {M : Nat} (hM : env.length ≤ M) (hlen : bs.length = vs.length) (hsz : margs.size = vs.length) (hd : distinct (handed bs) = true)
  (hS : ∀ s ∈ S, s < env.length ∧ s ∉ handed bs) (harg : ∀ i v b, vs[i]? = some v → bs[i]? = some b → ArgAt hz hb O env tm w S M i v b (margs.getD i undef))
  (hk : ∀ t l, l ∈ mentsV (getS env t) → ∀ (i s n : Nat), bs[i]? = some (.slot s n) → (KQ.leaves s 0 n).hits l = false) (hF : FnOk P f vs r outs) (hback : backAll bs outs env = some (cs, us, u)) :
  callRun P f margs w fun c w' => ∃ hz' hb' O', FzExt A hz hb hz' hb' ∧ Inv A hz' hb' O' (applyU us env) tm w' ∧ Side w w' ∧ RepS hz' hb' O' (applyU us env) tm w' [env.length] r c := by
 obtain ⟨hok, hrun⟩ := hF
 have vat : ∀ {i b}, bs[i]? = some b → ∃ v, vs[i]? = some v := fun {i b} e => by
  have := (List.getElem?_eq_some_iff.1 e).1
  exact ⟨vs[i]'(by omega), List.getElem?_eq_getElem (by omega)⟩
 -- what is handed over stands in slots
 have hslotlt : ∀ s ∈ handed bs, s < env.length := by
  intro s hs
  obtain ⟨i, b, h1, h2, _⟩ := handed_at hs
  obtain ⟨v, hv⟩ := vat h1
  have := harg i v b hv h1
  cases b with
  | none => cases h2
  | slot s' n => simp [hslot] at h2; subst h2; obtain ⟨row, _, h, _⟩ := this; exact getS_lt h (by simp)
  | lst s' ts => simp [hslot] at h2; subst h2; obtain ⟨rows, _, h, _⟩ := this; exact getS_lt h (by simp)
 let nm := toArg M bs
 let tn := fromArg env.length bs
 have nmSlot : ∀ (t : Nat) (q : List Nat), t < env.length → t ∉ handed bs → nm (t :: q) = none := by
  intro t q h1 h2
  have : ¬ (M ≤ t ∧ t < M + bs.length) := by omega
  simp only [nm, toArg, this, if_false, Option.map_eq_none_iff]
  exact findB_none.2 h2
 have nmHand : ∀ (i : Nat) (q : List Nat), i < bs.length → nm ((M + i) :: q) = some (i :: q) := by
  intro i q h1
  have : M ≤ M + i ∧ M + i < M + bs.length := by omega
  simp only [nm, toArg, this, and_self, if_true]
  simp
 have nmArg : ∀ (i : Nat) (b : Back) (s : Nat) (q : List Nat), bs[i]? = some b → hslot b = some s → nm (s :: q) = some (i :: q) := by
  intro i b s q h1 h2
  have hlt := hslotlt s (handed_of hd h1 h2)
  have : ¬ (M ≤ s ∧ s < M + bs.length) := by omega
  simp only [nm, toArg, this, if_false, findB_at h2 hd h1]
  simp
 have L : Lends hz hb O w S (inHeap nm O hb w) := ⟨GH.le_trans I.sub (lendsIn I.g nm), lendsIn I.g nm, fun b s r hs e => inHeap_kept (keptO_of e (nmSlot s r (hS s hs).1 (hS s hs).2))⟩
 have harg2 : ∀ j v, vs[j]? = some v → RepC hz (inHeap nm O hb w) (fun b => (O b).bind nm) w [j] v (margs.getD j undef) := by
  intro j v hv
  have hj := (List.getElem?_eq_some_iff.1 hv).1
  have hb1 : bs[j]? = some (bs[j]'(by omega)) := List.getElem?_eq_getElem (by omega)
  have h := harg j v _ hv hb1
  revert h
  generalize bs[j]'(by omega) = b at hb1
  intro h
  have mv : ∀ s, (∀ q, nm (s :: q) = some (j :: q)) → Moves hz hb O w hz (inHeap nm O hb w) (fun b => (O b).bind nm) w s j := fun s hs => ⟨GH.le_refl _, fun b r e => ⟨by simp only [e, Option.bind_some]; exact hs r, rfl⟩⟩
  cases b with
  | none =>
   rcases h with h | h
   ·exact RepC.move (mv (M + j) fun q => nmHand j q (by omega)) (.inl (lendsIn I.g nm)) h
   ·exact h _ L _ _
  | slot s n =>
   obtain ⟨row, hy, h1, h2, h3⟩ := h
   have hr := I.rep s
   rw [h1, h3] at hr
   rcases hy with rfl | ⟨f, caps, cs0, rfl, hc0, hs0, hl0⟩
   ·exact RepC.move (x := .obj row) (mv s fun q => nmArg j _ s q hb1 rfl) (.inl (lendsIn I.g nm)) hr
   ·refine ⟨cs0, hc0, hs0, fun i y e => ?_⟩
    rcases hl0 i y e with ⟨h4, h5⟩ | h4
    ·refine .inr ⟨row, h4, ?_⟩
     rw [hc0] at hr
     rw [h5]
     exact RepObj.move (mv s fun q => nmArg j _ s q hb1 rfl) (.inl (lendsIn I.g nm)) hr
    ·exact .inl (h4 _ L)
  | lst s ts =>
   obtain ⟨rows, rfl, h1, h3⟩ := h
   have hr := I.rep s
   rw [h1, h3] at hr
   rcases hr with hr | hr
   ·exact RepC.move (x := .own ts rows) (mv s fun q => nmArg j _ s q hb1 rfl) (.inl (lendsIn I.g nm)) hr
   ·exact hr.elim
 have hcall := hrun (argA A nm O w) hz (inHeap nm O hb w) (fun b => (O b).bind nm) w margs hsz (gokIn I.g nm) harg2
 refine hcall.mono fun c w2 ⟨hz2, hb2, O2, e, g2, hside, hres, houts⟩ => ?_
 obtain ⟨g3, e3⟩ := gokOut (tn := tn) I.g g2 e hside.size
 refine ⟨hz2, outHeap nm O hb2, outO nm tn O O2, e3, ?_, hside, ?_⟩
 ·have hback1 : ∀ s n, Back.slot s n ∈ bs → ∃ row, getS env s = .obj row ∧ row.length = n := by
   intro s n hm
   obtain ⟨i, hi⟩ := List.getElem?_of_mem hm
   obtain ⟨v, hv⟩ := vat hi
   obtain ⟨row, _, h1, h2, _⟩ := harg i v _ hv hi
   exact ⟨row, h1, h2⟩
  have hback2 : ∀ s ts, Back.lst s ts ∈ bs → ∃ rows, getS env s = .own ts rows := by
   intro s n hm
   obtain ⟨i, hi⟩ := List.getElem?_of_mem hm
   obtain ⟨v, hv⟩ := vat hi
   obtain ⟨rows, _, h1, _⟩ := harg i v _ hv hi
   exact ⟨rows, h1⟩
  obtain ⟨_, hlen3, hsame, hobj, hlst⟩ := back_ok hback hd hback1 hback2
  -- the blocks of a slot that stays
  have stay : ∀ t b q, t < env.length → t ∉ handed bs → O b = some (t :: q) → outO nm tn O O2 b = some (t :: q) ∧ w2.heap[b]? = w.heap[b]? := by
   intro t b q h1 h2 h3
   have h4 := keptO_of h3 (nmSlot t q h1 h2)
   exact ⟨by unfold outO; rw [h4], kept_same I.g g2 e h4⟩
  have come : ∀ i b s, bs[i]? = some b → hslot b = some s → Moves hz2 hb2 O2 w2 hz2 (outHeap nm O hb2) (outO nm tn O O2) w2 i s := by
   intro i b s h1 h2
   refine ⟨GH.le_refl _, fun k q e2 => ⟨?_, rfl⟩⟩
   unfold outO
   rw [kept_not I.g g2 e e2]
   have hi := (List.getElem?_eq_some_iff.1 h1).1
   have hne : ¬ i = bs.length := by omega
   simp only [e2, Option.bind_some, tn, fromArg, hne, if_false, h1, h2, Option.map_some]
  refine g3.inv fun t => ?_
  by_cases ht : t ∈ handed bs
  ·obtain ⟨i, b, h1, h2, _⟩ := handed_at ht
   obtain ⟨v, hv⟩ := vat h1
   have ha := harg i v b hv h1
   cases b with
   | none => cases h2
   | slot s n =>
    simp only [hslot, Option.some.injEq] at h2
    subst h2
    obtain ⟨row0, _, _, _, hc⟩ := ha
    obtain ⟨row, ho, hl, hok1, hg⟩ := hobj i s n h1
    rw [hg, hc]
    have h9 := houts i _ ho rfl
    rw [List.getD_eq_getElem?_getD, hv] at h9
    exact RepC.move (x := .obj row) (come i _ s h1 rfl) (.inr (List.all_eq_true.2 fun x hx => okOut1_nb (List.all_eq_true.1 hok1 x hx))) h9
   | lst s ts =>
    simp only [hslot, Option.some.injEq] at h2
    subst h2
    obtain ⟨rows0, rfl, _, hc⟩ := ha
    obtain ⟨rows, ho, hg⟩ := hlst i s ts h1
    rw [hg, hc]
    have h9 := houts i _ ho rfl
    rw [List.getD_eq_getElem?_getD, hv] at h9
    exact .inl (RepC.move (x := .own ts rows) (come i _ s h1 rfl) (.inr rfl) h9)
  ·rw [hsame t ht]
   by_cases htl : t < env.length
   ·refine (I.rep t).keep ⟨e.1, e3.2.1, fun b q e2 => stay t b q htl ht e2⟩ fun l hl => ?_
    -- what it speaks of is there still
    have hll : ∀ v, getS env l.slot = v → v ≠ .undef → l.slot < env.length := fun v h1 h2 => getS_lt h1 h2
    refine ⟨fun ts rows c' ⟨v, h1, h2⟩ => ?_, fun hl0 row h1 => ?_, fun hl0 f' caps h1 => ?_⟩
    ·by_cases hls : l.slot ∈ handed bs
     ·obtain ⟨i, b, h3, h4, _⟩ := handed_at hls
      obtain ⟨v', hv'⟩ := vat h3
      have ha := harg i v' b hv' h3
      cases b with
      | none => cases h4
      | slot s n =>
       simp only [hslot, Option.some.injEq] at h4
       obtain ⟨row, _, h5, h6, _⟩ := ha
       subst h4
       unfold LocIs at h1
       cases hlf : l.leaf with
       | none =>
        rw [hlf] at h1
        rw [h5] at h1
        obtain ⟨rfl, _⟩ := h1
        simp [rowsOf, fail] at h2
       | some j =>
        rw [hlf] at h1
        simp only [h5] at h1
        have hvu : v ≠ .undef := by rintro rfl; simp [rowsOf, fail] at h2
        obtain ⟨_, hj⟩ := getD_ne h1.1 hvu
        have := hk t l hl i l.slot n h3
        simp only [KQ.hits, hlf, beq_self_eq_true, Bool.true_and, Nat.zero_le, decide_true, Bool.true_and, Nat.zero_add, decide_eq_false_iff_not] at this
        omega
      | lst s ts0 =>
       simp only [hslot, Option.some.injEq] at h4
       obtain ⟨rows0, ha0, h5, h6⟩ := ha
       subst h4
       unfold LocIs at h1
       cases hlf : l.leaf with
       | none =>
        rw [hlf] at h1
        rw [h5] at h1
        obtain ⟨rfl, hc1⟩ := h1
        simp only [rowsOf, Option.some.injEq, Prod.mk.injEq] at h2
        obtain ⟨rfl, rfl⟩ := h2
        obtain ⟨rows, ho, hg⟩ := hlst i l.slot _ h3
        have hr1 := I.rep l.slot
        rw [h5] at hr1
        rcases hr1 with hr1 | hr1
        ·have h9 := houts i _ ho rfl
         rw [List.getD_eq_getElem?_getD, hv', ha0] at h9
         have hr2 : Own hz2 O2 w2 [i] _ rows (margs.getD i undef) := h9
         refine ⟨_, rows, ⟨.own _ rows, ?_, rfl⟩, Like.refl _, fun hnm => ?_⟩
         ·unfold LocIs
          rw [hlf]
          exact ⟨hg, hc1⟩
         ·obtain ⟨a1, cap1, hc2⟩ := Own.len hr1 hnm
          obtain ⟨a2, cap2, hc3⟩ := hr2.len hnm
          rw [← h6, hc2] at hc3
          simp only [Value.slice.injEq] at hc3
          exact hc3.2.1.symm
        ·exact hr1.elim
       | some j =>
        rw [hlf] at h1
        simp only [h5] at h1
        exact h1.2.elim
     ·refine ⟨ts, rows, ⟨v, ?_, h2⟩, Like.refl _, fun _ => rfl⟩
      have hvu : v ≠ .undef := by rintro rfl; simp [rowsOf, fail] at h2
      unfold LocIs at h1 ⊢
      cases hlf : l.leaf with
      | none => rw [hlf] at h1; rw [hsame _ hls]; exact h1
      | some j =>
       rw [hlf] at h1
       simp only [hsame _ hls] at h1 ⊢
       refine ⟨h1.1, ?_⟩
       have h3 := h1.2
       cases hg : getS env l.slot with
       | obj row =>
        rw [hg] at h3
        simp only at h3 ⊢
        obtain ⟨blk, cells, t', fr, h4, h5, h6⟩ := h3
        have hr1 := I.rep l.slot
        rw [hg] at hr1
        obtain ⟨blk', _, _, _, h7, h8, _⟩ := hr1
        rw [h4] at h7
        simp only [Value.pointer.injEq, Option.some.injEq, Addr.mk.injEq] at h7
        obtain ⟨rfl, _⟩ := h7
        exact ⟨blk, cells, t', fr, h4, by rw [(stay l.slot blk [] (getS_lt hg (by simp)) hls h8).2]; exact h5, h6⟩
       | tup row => rw [hg] at h3; exact h3
       | _ => rw [hg] at h3; exact h3.elim
    ·by_cases hls : l.slot ∈ handed bs
     ·obtain ⟨i, b, h3, h4, _⟩ := handed_at hls
      obtain ⟨v', hv'⟩ := vat h3
      have ha := harg i v' b hv' h3
      cases b with
      | none => cases h4
      | slot s n =>
       simp only [hslot, Option.some.injEq] at h4
       subst h4
       obtain ⟨row0, _, h5, h6, _⟩ := ha
       rw [h1] at h5
       cases h5
       obtain ⟨row', ho, hl', _, hg⟩ := hobj i l.slot n h3
       exact ⟨row', hg, by omega, rfl⟩
      | lst s ts0 =>
       simp only [hslot, Option.some.injEq] at h4
       subst h4
       obtain ⟨rows0, _, h5, h6⟩ := ha
       rw [h1] at h5
       cases h5
     ·exact ⟨row, by rw [hsame _ hls]; exact h1, rfl, rfl⟩
    ·have hls : l.slot ∉ handed bs := by
      intro hls
      obtain ⟨i, b, h3, h4, _⟩ := handed_at hls
      obtain ⟨v', hv'⟩ := vat h3
      have ha := harg i v' b hv' h3
      cases b with
      | none => cases h4
      | slot s n =>
       simp only [hslot, Option.some.injEq] at h4
       subst h4
       obtain ⟨row0, _, h5, h6, _⟩ := ha
       rw [h1] at h5
       cases h5
      | lst s ts0 =>
       simp only [hslot, Option.some.injEq] at h4
       subst h4
       obtain ⟨rows0, _, h5, h6⟩ := ha
       rw [h1] at h5
       cases h5
     exact ⟨f', caps, by rw [hsame _ hls]; exact h1, rfl⟩
   ·rw [getS_ge (Nat.le_of_not_lt htl)]
    exact .inl trivial
 ·refine RepR.S hok (RepR.move (v := vs.length) ⟨GH.le_refl _, fun b r e2 => ⟨?_, rfl⟩⟩ hok hres)
  unfold outO
  rw [kept_not I.g g2 e e2]
  simp only [e2, Option.bind_some, tn, fromArg, hlen, if_true]
end
end Go.Abs
end
section
set_option linter.unusedVariables false
set_option linter.unusedSimpArgs false
set_option linter.unusedSectionVars false
namespace Go.Abs
open Go
variable [Globs]

/-! ### who sees more does the same -/
structure SubE (E0 E : Env) : Prop where
 len : E0.length = E.length
 at_ : ∀ t, getS E0 t = .undef ∨ getS E0 t = getS E t
def Mono {α : Type} (m : M α) : Prop := ∀ E0 E r, SubE E0 E → m E0 = some r → m E = some r
theorem SubE.set {E0 E : Env} (h : SubE E0 E) (t : Nat) (v : V) : SubE (E0.set t v) (E.set t v) := by
 refine ⟨by simp [h.len], fun u => ?_⟩
 rw [getS_set, getS_set, h.len]
 split
 ·exact .inr rfl
 ·exact h.at_ u
theorem SubE.setU {E0 E : Env} (h : SubE E0 E) (t : Nat) {v v' : V} (hv : v = .undef ∨ v = v') : SubE (E0.set t v) (E.set t v') := by
 refine ⟨by simp [h.len], fun u => ?_⟩
 rw [getS_set, getS_set, h.len]
 split
 ·exact hv
 ·exact h.at_ u
theorem SubE.apply1 {E0 E : Env} (h : SubE E0 E) (u : Upd) : SubE (Abs.apply1 E0 u) (Abs.apply1 E u) := by
 have hm : ∀ (l : Loc) (g : V → V), g .undef = .undef → SubE (modLoc E0 l g) (modLoc E l g) := by
  intro l g hg
  unfold modLoc
  cases l.leaf with
  | none =>
   simp only
   refine h.setU _ ?_
   rcases h.at_ l.slot with h1 | h1
   ·left; rw [h1, hg]
   ·right; rw [h1]
  | some j =>
   simp only
   refine h.setU _ ?_
   rcases h.at_ l.slot with h1 | h1
   ·left; rw [h1]; rfl
   ·right; rw [h1]
 cases u with
 | set t v => exact h.set t v
 | leaf s j v =>
  refine h.setU _ ?_
  rcases h.at_ s with h1 | h1
  ·left; rw [h1]; rfl
  ·right; rw [h1]
 | rows l rows => exact hm l (putRows · rows) rfl
 | kill q =>
  refine ⟨by simp [Abs.apply1, h.len], fun t => ?_⟩
  simp only [Abs.apply1, getS_kill]
  rcases h.at_ t with h1 | h1
  ·left; rw [h1]; rfl
  ·right; rw [h1]
theorem SubE.applyU {E0 E : Env} (h : SubE E0 E) : ∀ (us : List Upd), SubE (Abs.applyU us E0) (Abs.applyU us E)
 | [] => h
 | u :: us => (h.apply1 u).applyU us
section
variable {α β : Type}
theorem mono_pure (a : α) : Mono (pure a : M α) := fun _ _ _ _ h => h
theorem mono_bad (s : String) : Mono (bad s : M α) := fun E0 _ _ _ h => (bad_inv (s := s) (α := α) (env := E0) h).elim
theorem mono_chk (b : Bool) : Mono (chk b) := fun _ _ _ _ h => h
theorem mono_upd (us : List Upd) : Mono (upd us) := fun _ _ _ _ h => h
theorem mono_opt (x : Option α) : Mono (opt x) := fun _ _ _ _ h => h
theorem mono_checks (cs : List Bool) : Mono (checks cs) := fun _ _ _ _ h => h
theorem mono_bind {m : M α} {f : α → M β} (hm : Mono m) (hf : ∀ a, Mono (f a)) : Mono (m >>= f) := by
 intro E0 E r hs h
 obtain ⟨cs, us, b⟩ := r
 obtain ⟨c1, u1, a, c2, u2, h1, h2, rfl, rfl⟩ := bind_inv h
 have h3 := hm E0 E _ hs h1
 have h4 := hf a _ _ _ (hs.applyU u1) h2
 show (M.bind m f) E = _
 unfold M.bind
 rw [h3]
 simp only
 rw [h4]
theorem mono_cond {c : Bool} {a b : M α} (ha : Mono a) (hb : Mono b) : Mono (bif c then a else b) := by cases c <;> assumption
theorem mono_slotM (t : Nat) : Mono (slotM t) := by
 intro E0 E r hs h
 obtain ⟨cs, us, v⟩ := r
 obtain ⟨rfl, rfl, rfl, hv⟩ := slotM_inv h
 rcases hs.at_ t with h1 | h1
 ·exact (hv h1).elim
 ·unfold slotM at h ⊢
  rw [← h1]
  exact h
end
theorem mono_locM (l : Loc) : Mono (locM l) := by
 unfold locM
 split
 ·exact mono_slotM _
 ·exact mono_bind (mono_slotM _) fun v => mono_cond (mono_bad _) (mono_pure _)
theorem mono_setLoc (l : Loc) (v : V) : Mono (setLoc l v) := by unfold setLoc; split <;> exact mono_upd _
theorem mono_goneLoc (l : Loc) : Mono (goneLoc l) := mono_bind (mono_upd _) fun _ => mono_setLoc _ _
theorem mono_goneSlot (t : Nat) : Mono (goneSlot t) := mono_upd _
theorem mono_put (t : Nat) (v : V) : Mono (put t v) := mono_cond (mono_bad _) (mono_upd _)
theorem mono_putD (d : Option Tmp) (v : V) : Mono (putD d v) := by unfold putD; split; exact mono_put _ _; exact mono_upd _
theorem mono_raw (x : Operand) : Mono (raw x) := by
 unfold raw
 split <;> first | exact mono_slotM _ | exact mono_pure _ | exact mono_bad _ | (split <;> first | exact mono_pure _ | exact mono_bad _)
theorem mono_rd (x : Operand) : Mono (rd x) := by
 unfold rd
 split
 ·exact mono_bind (mono_slotM _) fun v => mono_pure _
 ·exact mono_raw _
theorem mono_raws : ∀ xs, Mono (raws xs)
 | [] => mono_pure _
 | x :: xs => mono_bind (mono_raw x) fun _ => mono_bind (mono_raws xs) fun _ => mono_pure _
theorem mono_rds : ∀ xs, Mono (rds xs)
 | [] => mono_pure _
 | x :: xs => mono_bind (mono_rd x) fun _ => mono_bind (mono_rds xs) fun _ => mono_pure _
theorem mono_rowsM (l : Loc) : Mono (rowsM l) := mono_bind (mono_locM l) fun _ => mono_opt _
theorem mono_viewM (v : V) : Mono (viewM v) := by
 unfold viewM
 split <;> first | exact mono_pure _ | exact mono_rowsM _ | exact mono_bad _ | exact mono_bind (mono_rowsM _) fun _ => mono_pure _ | (split; exact mono_bad _; exact mono_pure _)
theorem mono_takeLoc (mv : Bool) (l : Loc) : Mono (takeLoc mv l) := by
 unfold takeLoc
 refine mono_bind (mono_locM l) fun v => ?_
 split
 ·refine mono_bind (mono_slotM _) fun v => ?_
  split
  ·exact mono_bind (mono_goneLoc _) fun _ => mono_pure _
  ·split
   ·exact mono_bad _
   ·exact mono_bind (mono_setLoc _ _) fun _ => mono_pure _
 ·exact mono_pure _
 ·exact mono_bad _
theorem mono_takeSub (mv : Bool) (l : Loc) (off len : Nat) : Mono (takeSub mv l off len) := by
 unfold takeSub
 refine mono_bind (mono_locM l) fun v => ?_
 split
 ·split
  ·exact mono_bind (mono_goneLoc _) fun _ => mono_pure _
  ·exact mono_bind (mono_setLoc _ _) fun _ => mono_pure _
 ·exact mono_pure _
 ·exact mono_bad _
theorem mono_takeLeaf (mv : Bool) (v : V) : Mono (takeLeaf mv v) := by
 unfold takeLeaf
 split <;> first | exact mono_takeLoc _ _ | exact mono_takeSub _ _ _ _ | exact mono_pure _ | exact mono_bad _
theorem mono_takeLeaves (mv : Bool) : ∀ xs, Mono (takeLeaves mv xs)
 | [] => mono_pure _
 | x :: xs => mono_bind (mono_takeLeaf mv x) fun _ => mono_bind (mono_takeLeaves mv xs) fun _ => mono_pure _
theorem mono_takeOp (mv : Bool) (x : Operand) : Mono (takeOp mv x) := by
 unfold takeOp
 refine mono_bind (mono_raw x) fun v => ?_
 split
 ·exact mono_bind (mono_goneSlot _) fun _ => mono_pure _
 ·exact mono_bind (mono_goneSlot _) fun _ => mono_pure _
 ·split
  ·exact mono_bind (mono_goneSlot _) fun _ => mono_bind (mono_takeLeaves _ _) fun _ => mono_pure _
  ·exact mono_bind (mono_takeLeaves _ _) fun _ => mono_pure _
 ·exact mono_pure _
 ·exact mono_takeLeaf _ _
theorem mono_bound (x : Option Operand) (d top : Nat) : Mono (bound x d top) := by
 unfold bound
 split
 ·exact mono_pure _
 ·exact mono_bind (mono_raw _) fun _ => mono_bind (mono_opt _) fun _ => mono_bind (mono_chk _) fun _ => mono_pure _
theorem mono_noMax (mx : Option Operand) : Mono (noMax mx) := by unfold noMax; split; exact mono_pure _; exact mono_bad _
theorem mono_sameK (a b : Nat) : Mono (sameK a b) := by unfold sameK; split; exact mono_pure _; exact mono_bad _
theorem mono_sliceV (k : Option Nat) (x : V) (lo hi mx : Option Operand) : Mono (sliceV k x lo hi mx) := by
 unfold sliceV
 refine mono_cond (by unfold sliceN; split <;> first | exact mono_bad _ | (split; exact mono_bad _; exact mono_pure _)) ?_
 split <;> first
  | exact mono_bad _
  | exact mono_bind (mono_noMax _) fun _ => mono_bind (mono_sameK _ _) fun _ => mono_bind (mono_bound _ _ _) fun _ => mono_bind (mono_bound _ _ _) fun _ => mono_pure _
  | exact mono_bind (mono_noMax _) fun _ => mono_bind (mono_bound _ _ _) fun _ => mono_bind (mono_bound _ _ _) fun _ => mono_pure _
theorem mono_convV (P : Program) (s d : TypeId) (a : V) : Mono (convV P s d a) := by
 unfold convV
 split
 ·unfold convInt; split; exact mono_pure _; exact mono_bad _
 ·unfold convIntStr; split; exact mono_pure _; exact mono_bad _
 ·unfold convStrStr; split; exact mono_pure _; exact mono_bad _
 ·unfold convStrBytes; split; exact mono_pure _; exact mono_bad _
 ·unfold convBytes
  split
  ·refine mono_bind (mono_viewM _) fun v => ?_
   obtain ⟨ts, rows⟩ := v
   simp only
   split
   ·exact mono_pure _
   ·exact mono_bad _
  ·exact mono_bad _
 ·unfold convSame
  split
  ·refine mono_bind (mono_slotM _) fun v => ?_
   split
   ·split; exact mono_pure _; exact mono_bad _
   ·exact mono_bad _
  ·exact mono_bad _
 ·exact mono_bad _
theorem mono_loadV (P : Program) (t : TypeId) (a : V) : Mono (loadV P t a) := by
 unfold loadV
 refine mono_bind (mono_opt _) fun n => ?_
 split
 ·refine mono_bind (mono_slotM _) fun v => ?_
  split
  ·exact mono_opt _
  ·exact mono_bad _
 ·refine mono_bind (mono_rowsM _) fun v => ?_
  obtain ⟨ts, rows⟩ := v
  exact mono_cond (mono_bad _) (mono_opt _)
 ·exact mono_opt _
 ·exact mono_bad _
theorem mono_loadX (P : Program) (t : TypeId) (a : V) : Mono (loadX P t a) := by
 unfold loadX
 split
 ·refine mono_bind (mono_locM _) fun v => ?_
  split
  ·unfold loadNx
   split
   ·refine mono_cond ?_ (mono_loadV _ _ _)
    unfold takeNx
    split
    ·split
     ·exact mono_bind (mono_setLoc _ _) fun _ => mono_pure _
     ·exact mono_bad _
    ·exact mono_bad _
   ·exact mono_loadV _ _ _
  ·exact mono_loadV _ _ _
 ·exact mono_loadV _ _ _
theorem mono_fillNx (l : Loc) (h : Option (Nat × Nat)) (mk : List Nat) (ks : List LT) (rows : Rows) (i j : Nat) (xs : List V) : Mono (fillNx l h mk ks rows i j xs) := by
 unfold fillNx
 split
 ·refine mono_cond ?_ (mono_bad _)
  split
  ·exact mono_cond (mono_bind (mono_chk _) fun _ => mono_setLoc _ _) (mono_bad _)
  ·exact mono_bad _
 ·exact mono_bad _
theorem mono_storeNx (l : Loc) (ts : List LT) (rows : Rows) (i j n : Nat) (xs : List V) : Mono (storeNx l ts rows i j n xs) := by
 unfold storeNx
 split
 ·refine mono_cond (mono_cond (mono_fillNx _ _ _ _ _ _ _ _) (mono_bad _)) (mono_cond (mono_bad _) ?_)
  refine mono_bind (mono_opt _) fun ys => ?_
  split
  ·exact mono_bad _
  ·exact mono_upd _
 ·exact mono_bad _
theorem mono_storeV (P : Program) (t : TypeId) (a v : V) : Mono (storeV P t a v) := by
 unfold storeV
 refine mono_bind (mono_opt _) fun n => ?_
 simp only
 split
 ·exact mono_bad _
 ·split
  ·refine mono_bind (mono_slotM _) fun v => ?_
   split
   ·split
    ·exact mono_bad _
    ·split
     ·exact mono_bad _
     ·exact mono_upd _
   ·exact mono_bad _
  ·refine mono_bind (mono_locM _) fun v => ?_
   split
   ·refine mono_cond (mono_storeNx _ _ _ _ _ _ _) ?_
    refine mono_bind (mono_opt _) fun ys => ?_
    split
    ·exact mono_bad _
    ·exact mono_upd _
   ·exact mono_bad _
  ·exact mono_bad _
theorem mono_indexAddrV (P : Program) (t : TypeId) (x i : V) : Mono (indexAddrV P t x i) := by
 unfold indexAddrV
 refine mono_bind (mono_opt _) fun n => ?_
 split
 ·refine mono_bind (mono_opt _) fun k => ?_
  split <;> first
   | exact mono_bad _
   | exact mono_bind (mono_sameK _ _) fun _ => mono_bind (mono_chk _) fun _ => mono_pure _
 ·refine mono_bind (mono_opt _) fun k => mono_bind (mono_chk _) fun _ => ?_
  split <;> first | exact mono_bad _ | exact mono_pure _ | exact mono_cond (mono_pure _) (mono_pure _)
 ·exact mono_bad _
theorem mono_indexV (P : Program) (t : TypeId) (x i : V) : Mono (indexV P t x i) := by
 unfold indexV
 refine mono_bind (mono_opt _) fun n => ?_
 split
 ·exact mono_bind (mono_chk _) fun _ => mono_pure _
 ·exact mono_bind (mono_opt _) fun _ => mono_bind (mono_chk _) fun _ => mono_opt _
 ·exact mono_bad _
theorem mono_lenV (k : Option Nat) (x : V) : Mono (lenV k x) := by
 unfold lenV
 split <;> first | exact mono_pure _ | exact mono_bad _ | exact mono_bind (mono_viewM _) fun _ => mono_pure _
theorem mono_spread (ts : List LT) (v : V) : Mono (spread ts v) := by
 unfold spread
 split
 ·split; exact mono_pure _; exact mono_bad _
 ·exact mono_pure _
 ·exact mono_pure _
 ·refine mono_bind (mono_viewM _) fun v => ?_
  simp only
  split
  ·exact mono_pure _
  ·exact mono_bad _
theorem mono_moreOf (ts : List LT) (zs : Option (List F)) (x : Operand) : Mono (moreOf ts zs x) := by
 unfold moreOf
 split
 ·exact mono_bind (mono_raw _) fun _ => mono_bind (mono_opt _) fun _ => mono_bind (mono_chk _) fun _ => mono_pure _
 ·exact mono_bind (mono_rd _) fun _ => mono_spread _ _
theorem mono_consume (ts : List LT) (x : Operand) : Mono (consume ts x) := by
 unfold consume
 refine mono_bind (mono_takeOp _ _) fun v => ?_
 split <;> first | exact mono_pure _ | exact mono_bad _
theorem mono_appendV (P : Program) (t : TypeId) (zs : Option (List F)) (s x : Operand) : Mono (appendV P t zs s x) := by
 unfold appendV
 refine mono_bind (mono_opt _) fun ts => mono_bind (mono_moreOf _ _ _) fun more => mono_bind (mono_consume _ _) fun y => ?_
 simp only
 split
 ·exact mono_bind (mono_chk _) fun _ => mono_pure _
 ·exact mono_bad _
theorem mono_consumeNx (mk : List Nat) (ts : List LT) (x : Operand) : Mono (consumeNx mk ts x) := by
 unfold consumeNx
 refine mono_bind (mono_takeOp _ _) fun v => ?_
 split
 ·split; exact mono_pure _; exact mono_bad _
 ·exact mono_pure _
 ·exact mono_bad _
theorem mono_appendNx (P : Program) (t : TypeId) (mk : List Nat) (s x : Operand) : Mono (appendNx P t mk s x) :=
 mono_bind (mono_opt _) fun _ => mono_bind (mono_consumeNx _ _ _) fun _ => mono_bind (mono_consumeNx _ _ _) fun _ => mono_bind (mono_chk _) fun _ => mono_pure _
theorem mono_mapAtM (mts : List LT) (m : V) : Mono (mapAtM mts m) := by
 unfold mapAtM
 split
 ·refine mono_bind (mono_locM _) fun v => ?_
  split
  ·split; exact mono_pure _; exact mono_bad _
  ·exact mono_bad _
 ·exact mono_bad _
theorem mono_lookupV (P : Program) (t : TypeId) (m k : V) (ok : Bool) : Mono (lookupV P t m k ok) :=
 mono_bind (mono_opt _) fun _ => mono_bind (mono_opt _) fun _ => mono_bind (mono_mapAtM _ _) fun _ => mono_bind (mono_opt _) fun _ => mono_cond (mono_bind (mono_opt _) fun _ => mono_bind (mono_opt _) fun _ => mono_pure _) (mono_bad _)
theorem mono_mapSet (P : Program) (t : TypeId) (m k v : V) : Mono (mapSet P t m k v) :=
 mono_bind (mono_opt _) fun _ => mono_bind (mono_opt _) fun _ => mono_bind (mono_mapAtM _ _) fun _ => mono_bind (mono_opt _) fun _ => mono_bind (mono_opt _) fun _ => mono_cond (mono_bind (mono_chk _) fun _ => mono_upd _) (mono_bad _)
theorem mono_lenMap (P : Program) (t : TypeId) (d : Option Tmp) (x : Operand) : Mono (lenMap P t d x) :=
 mono_bind (mono_opt _) fun _ => mono_bind (mono_rd _) fun _ => mono_bind (mono_mapAtM _ _) fun _ => mono_putD _ _
theorem mono_clearB (P : Program) (c : Call) (x : Operand) : Mono (clearB P c x) := by
 unfold clearB
 refine mono_bind (mono_opt _) fun t => mono_bind (mono_rd _) fun v => ?_
 unfold clearM
 refine mono_bind (mono_opt _) fun ts => ?_
 split
 ·refine mono_bind (mono_opt _) fun z => ?_
  split
  ·refine mono_bind (mono_locM _) fun y => ?_
   split
   ·exact mono_cond (mono_upd _) (mono_bad _)
   ·exact mono_bad _
  ·exact mono_bad _
 ·exact mono_bad _
theorem mono_builtinV (P : Program) (c : Call) (d : Option Tmp) (b : Builtin) (xs : List Operand) : Mono (builtinV P c d b xs) := by
 unfold builtinV
 split
 ·exact mono_bind (mono_opt _) fun _ => mono_cond (mono_lenMap _ _ _ _) (mono_bind (mono_opt _) fun _ => mono_bind (mono_rd _) fun _ => mono_bind (mono_lenV _ _) fun _ => mono_putD _ _)
 ·exact mono_bind (mono_opt _) fun _ => mono_bind (mono_opt _) fun _ => mono_bind (mono_opt _) fun _ => mono_bind (mono_opt _) fun _ => mono_bind (mono_raw _) fun _ => by
   split
   ·exact mono_bind (mono_appendNx _ _ _ _ _) fun _ => mono_putD _ _
   ·exact mono_bind (mono_appendV _ _ _ _ _) fun _ => mono_putD _ _
 ·exact mono_bind (mono_raws _) fun _ => mono_bind (mono_opt _) fun _ => mono_putD _ _
 ·exact mono_bind (mono_raws _) fun _ => mono_bind (mono_opt _) fun _ => mono_putD _ _
 ·split; exact mono_bad _; exact mono_clearB _ _ _
 ·exact mono_bad _
theorem mono_moveM (x : Operand) (d : Option Tmp) : Mono (moveM x d) := by
 unfold moveM
 refine mono_bind (mono_raw _) fun v => ?_
 split
 ·exact mono_bind (mono_goneSlot _) fun _ => mono_putD _ _
 ·refine mono_bind (mono_cond (mono_goneSlot _) (mono_pure _)) fun _ => mono_putD _ _
 ·exact mono_cond (mono_putD _ _) (mono_bad _)
 ·exact mono_putD _ _
 ·exact mono_putD _ _
theorem mono_assignLoc (mv : Bool) (d : Nat) (l : Loc) : Mono (assignLoc mv d l) := mono_cond (mono_pure _) (mono_bind (mono_takeLoc _ _) fun _ => mono_put _ _)
theorem mono_assignV (P : Program) (H : Hints) (me : FuncId) (d : Nat) (x : Operand) (t : TypeId) : Mono (assignV P H me d x t) := by
 unfold assignV
 refine mono_bind (mono_raw _) fun v => ?_
 split <;> first
  | exact mono_assignLoc _ _ _
  | exact mono_cond (mono_put _ _) (mono_assignLoc _ _ _)
  | exact mono_cond (mono_put _ _) (mono_bind (mono_takeSub _ _ _ _) fun _ => mono_put _ _)
  | exact mono_bind (mono_takeSub _ _ _ _) fun _ => mono_put _ _
  | exact mono_put _ _
  | exact mono_cond (mono_put _ _) (mono_bad _)
  | exact mono_bind (mono_takeOp _ _) fun _ => mono_put _ _
theorem mono_buildParts (places : Nat → Option (Nat × Nat × List LT)) : ∀ (parts : List (Nat × Operand)) (row : List V), Mono (buildParts places row parts)
 | [], row => mono_pure _
 | (i, x) :: rest, row => by
  simp only [buildParts]
  refine mono_bind (mono_takeOp _ _) fun v => mono_bind (mono_opt _) fun y => ?_
  obtain ⟨off, n, ts⟩ := y
  simp only
  split
  ·exact mono_bad _
  ·exact mono_buildParts places rest _
theorem mono_sliceParts (ts : List LT) : ∀ (parts : List (Nat × Operand)) (rows : Rows), Mono (sliceParts ts rows parts)
 | [], row => mono_pure _
 | (i, x) :: rest, row => by
  simp only [sliceParts]
  refine mono_bind (mono_takeOp _ _) fun v => mono_bind (mono_opt _) fun y => ?_
  split
  ·exact mono_bad _
  ·exact mono_sliceParts ts rest _
theorem mono_rows1 (mk : List Nat) (ts : List LT) (n : Nat) (parts : List (Nat × Operand)) : Mono (rows1 mk ts n parts) := by
 unfold rows1
 refine mono_cond ?_ (mono_bad _)
 unfold slicePart1
 split
 ·refine mono_bind (mono_takeOp _ _) fun v => mono_bind (mono_opt _) fun ys => ?_
  split; exact mono_bad _; exact mono_pure _
 ·exact mono_bad _
theorem mono_opM (P : Program) (H : Hints) (me : FuncId) (o : Oper) : Mono (opM P H me o) := by
 unfold opM
 split
 ·exact mono_moveM _ _
 ·split; exact mono_assignV _ _ _ _ _ _; exact mono_bad _
 ·refine mono_bind (mono_raw _) fun _ => mono_bind (mono_opt _) fun _ => mono_bind (mono_rd _) fun _ => ?_
  split; exact mono_putD _ _; exact mono_bad _
 ·exact mono_bind (mono_opt _) fun _ => mono_putD _ _
 ·refine mono_bind (mono_takeOp _ _) fun v => ?_
  simp only
  split; exact mono_putD _ _; exact mono_bad _
 ·split
  ·exact mono_bad _
  ·exact mono_bind (mono_opt _) fun _ => mono_bind (mono_buildParts _ _ _) fun _ => mono_putD _ _
 ·split
  ·refine mono_bind (mono_opt _) fun _ => mono_bind (mono_opt _) fun _ => ?_
   split
   ·exact mono_bad _
   ·split
    ·exact mono_bind (mono_rows1 _ _ _ _) fun _ => mono_putD _ _
    ·exact mono_bind (mono_sliceParts _ _ _) fun _ => mono_putD _ _
  ·exact mono_bad _
 ·exact mono_bind (mono_rd _) fun _ => mono_bind (mono_loadX _ _ _) fun _ => mono_putD _ _
 ·split
  ·exact mono_bad _
  ·exact mono_bind (mono_rd _) fun _ => mono_bind (mono_takeOp _ _) fun _ => mono_storeV _ _ _ _
 ·refine mono_bind (mono_rd _) fun _ => ?_
  split; exact mono_putD _ _; exact mono_bad _
 ·exact mono_bind (mono_rd _) fun _ => mono_bind (mono_rd _) fun _ => mono_bind (mono_opt _) fun _ => mono_bind (mono_checks _) fun _ => mono_putD _ _
 ·exact mono_bind (mono_rd _) fun _ => mono_bind (mono_opt _) fun _ => mono_putD _ _
 ·exact mono_bind (mono_rd _) fun _ => mono_bind (mono_convV _ _ _ _) fun _ => mono_putD _ _
 ·split
  ·exact mono_bad _
  ·refine mono_bind (mono_rds _) fun _ => ?_
   split; exact mono_putD _ _; exact mono_bad _
 ·split
  ·exact mono_bind (mono_opt _) fun _ => mono_bind (mono_opt _) fun _ => mono_bind (mono_raw _) fun _ => mono_bind (mono_opt _) fun _ => mono_bind (mono_raw _) fun _ => mono_bind (mono_opt _) fun _ => mono_bind (mono_chk _) fun _ => mono_putD _ _
  ·exact mono_bad _
 ·exact mono_bind (mono_opt _) fun _ => mono_bind (mono_rd _) fun _ => mono_bind (mono_sliceV _ _ _ _ _) fun _ => mono_putD _ _
 ·refine mono_bind (mono_opt _) fun y => ?_
  obtain ⟨off, ft⟩ := y
  simp only
  split
  ·exact mono_bad _
  ·exact mono_bind (mono_rd _) fun _ => mono_bind (mono_opt _) fun _ => mono_putD _ _
 ·refine mono_bind (mono_opt _) fun y => ?_
  obtain ⟨off, ft⟩ := y
  simp only
  refine mono_bind (mono_raw _) fun _ => ?_
  split
  ·exact mono_bind (mono_cond (mono_goneSlot _) (mono_pure _)) fun _ => mono_bind (mono_opt _) fun _ => mono_cond (mono_putD _ _) (mono_bad _)
  ·exact mono_bind (mono_opt _) fun _ => mono_cond (mono_putD _ _) (mono_bad _)
  ·exact mono_bad _
 ·exact mono_bind (mono_rd _) fun _ => mono_bind (mono_raw _) fun _ => mono_bind (mono_indexAddrV _ _ _ _) fun _ => mono_putD _ _
 ·exact mono_bind (mono_rd _) fun _ => mono_bind (mono_raw _) fun _ => mono_bind (mono_indexV _ _ _ _) fun _ => mono_cond (mono_putD _ _) (mono_bad _)
 ·refine mono_bind (mono_slotM _) fun v => ?_
  split
  ·split
   ·exact mono_putD _ _
   ·exact mono_bind (mono_cond (mono_upd _) (mono_pure _)) fun _ => mono_putD _ _
   ·exact mono_bind (mono_upd _) fun _ => mono_putD _ _
   ·exact mono_putD _ _
   ·exact mono_bad _
  ·exact mono_bad _
 ·exact mono_bind (mono_opt _) fun _ => mono_putD _ _
 ·exact mono_bind (mono_rd _) fun _ => mono_bind (mono_raw _) fun _ => mono_bind (mono_lookupV _ _ _ _ _) fun _ => mono_putD _ _
 ·split
  ·exact mono_bad _
  ·exact mono_bind (mono_rd _) fun _ => mono_bind (mono_raw _) fun _ => mono_bind (mono_takeOp _ _) fun _ => mono_mapSet _ _ _ _ _
 ·split
  ·exact mono_bad _
  ·exact mono_bind (mono_rd _) fun _ => mono_bind (mono_raw _) fun _ => mono_bind (mono_takeOp _ _) fun _ => mono_mapSet _ _ _ _ _
 ·refine mono_bind (mono_raw _) fun v => ?_
  split
  ·split; exact mono_putD _ _; exact mono_bad _
  ·exact mono_bad _
 ·split
  ·exact mono_builtinV _ _ _ _ _
  ·exact mono_bad _
 ·exact mono_bad _
theorem mono_takeArg (mode : Mode) (lt : LT) (x : Operand) : Mono (takeArg mode lt x) := by
 unfold takeArg
 split
 ·refine mono_bind (mono_takeOp _ _) fun _ => ?_
  split; exact mono_pure _; exact mono_bad _
 ·refine mono_bind (mono_raw _) fun _ => ?_
  split
  ·refine mono_bind (mono_takeLoc _ _) fun _ => ?_
   split; exact mono_pure _; exact mono_bad _
  ·refine mono_bind (mono_takeOp _ _) fun _ => ?_
   split; exact mono_pure _; exact mono_bad _
 ·exact mono_pure _
theorem mono_takeArgs (P : Program) (mode : Nat → Mode) : ∀ (xs : List Operand) (j : Nat) (tys : List TypeId), Mono (takeArgs P mode j tys xs)
 | [], _, _ => mono_pure _
 | x :: xs, j, tys => mono_bind (mono_takeArg _ _ _) fun _ => mono_bind (mono_takeArgs P mode xs _ _) fun _ => mono_pure _
theorem mono_borLeaf (v : V) : Mono (borLeaf v) := by
 unfold borLeaf
 split <;> first
  | exact mono_pure _
  | exact mono_bad _
  | exact mono_bind (mono_rowsM _) fun _ => mono_pure _
  | exact mono_bind (mono_viewM _) fun _ => mono_pure _
  | (split; exact mono_bad _; exact mono_pure _)
theorem mono_borLeaves : ∀ xs, Mono (borLeaves xs)
 | [] => mono_pure _
 | x :: xs => mono_bind (mono_borLeaf x) fun _ => mono_bind (mono_borLeaves xs) fun _ => mono_pure _
theorem mono_borArg (x : Operand) (v : V) : Mono (borArg x v) := by
 unfold borArg
 split
 ·exact mono_bind (mono_borLeaves _) fun _ => mono_pure _
 ·exact mono_bind (mono_borLeaf _) fun _ => mono_pure _
theorem mono_readOwn (t : Nat) (v : V) : Mono (readOwn t v) := by unfold readOwn; split; exact mono_pure _; exact mono_bad _
theorem mono_readObj (t : Nat) (v : V) : Mono (readObj t v) := by unfold readObj; split; exact mono_pure _; exact mono_bad _
theorem mono_readLent (mode : Mode) (x : Operand) (l : Loc) (k n : Nat) : Mono (readLent mode x l k n) := by
 unfold readLent
 split
 ·split
  ·exact mono_bind (mono_slotM _) fun _ => mono_readOwn _ _
  ·exact mono_bad _
 ·exact mono_borArg _ _
theorem mono_readCap (v : V) : Mono (readCap v) := by
 unfold readCap
 split <;> first | exact mono_pure _ | exact mono_bad _ | skip
 refine mono_bind (mono_slotM _) fun v => ?_
 split
 ·exact mono_bind (mono_opt _) fun _ => mono_pure _
 ·exact mono_bad _
theorem mono_readCaps : ∀ xs, Mono (readCaps xs)
 | [] => mono_pure _
 | x :: xs => mono_bind (mono_readCap x) fun _ => mono_bind (mono_readCaps xs) fun _ => mono_pure _
theorem mono_readCapsO : ∀ xs, Mono (readCapsO xs)
 | [] => mono_bad _
 | x :: xs => by
  unfold readCapsO
  split
  ·exact mono_bad _
  ·refine mono_bind (mono_slotM _) fun v => ?_
   split
   ·exact mono_bind (mono_readCaps _) fun _ => mono_pure _
   ·exact mono_bad _
  ·rename_i h0
   cases h0
   exact mono_bind (mono_readCap _) fun _ => mono_bind (mono_readCapsO xs) fun _ => mono_pure _
theorem mono_readClos (mode : Mode) (f : FuncId) (caps : List V) : Mono (readClos mode f caps) :=
 mono_cond (mono_bind (mono_readCapsO _) fun _ => mono_pure _) (mono_bind (mono_readCaps _) fun _ => mono_pure _)
theorem mono_readHeld (mode : Mode) (v : V) : Mono (readHeld mode v) := by
 unfold readHeld
 refine mono_cond ?_ (mono_bind (mono_readCap _) fun _ => mono_pure _)
 split
 ·exact mono_bind (mono_slotM _) fun _ => mono_readObj _ _
 ·exact mono_bad _
theorem mono_readHelds (mode : Nat → Mode) : ∀ (xs : List V) (j : Nat), Mono (readHelds mode j xs)
 | [], _ => mono_pure _
 | x :: xs, j => mono_bind (mono_readHeld _ x) fun _ => mono_bind (mono_readHelds mode xs _) fun _ => mono_pure _
theorem mono_readArg (mode : Mode) (lt : LT) (x : Operand) : Mono (readArg mode lt x) := by
 unfold readArg
 refine mono_bind (mono_raw _) fun v => ?_
 split
 ·exact mono_readObj _ _
 ·exact mono_bind (mono_slotM _) fun _ => mono_readObj _ _
 ·exact mono_pure _
 ·split; exact mono_readOwn _ _; exact mono_borArg _ _
 ·exact mono_readLent _ _ _ _ _
 ·exact mono_readClos _ _ _
 ·split; exact mono_bad _; exact mono_borArg _ _
theorem mono_readArgs (P : Program) (mode : Nat → Mode) : ∀ (xs : List Operand) (j : Nat) (tys : List TypeId) (tk : List (Option V)), Mono (readArgs P mode j tys xs tk)
 | [], _, _, _ => by simp only [readArgs]; exact mono_pure _
 | _ :: _, _, _, [] => by simp only [readArgs]; exact mono_pure _
 | x :: xs, j, tys, some v :: tk => by
  simp only [readArgs]
  exact mono_bind (mono_readArgs P mode xs _ _ _) fun _ => mono_pure _
 | x :: xs, j, tys, none :: tk => by
  simp only [readArgs]
  exact mono_bind (mono_readArg _ _ _) fun _ => mono_bind (mono_readArgs P mode xs _ _ _) fun _ => mono_pure _
theorem mono_prepM (P : Program) (H : Hints) (fo : Operand) (args : List Operand) : Mono (prepM P H fo args) := by
 unfold prepM
 refine mono_bind (mono_raw _) fun v => ?_
 split
 ·refine mono_bind (mono_opt _) fun fn => mono_bind (mono_takeArgs _ _ _ _ _) fun tk => mono_bind (mono_readArgs _ _ _ _ _ _) fun y => ?_
  obtain ⟨vs, bs, rs⟩ := y
  refine mono_bind (mono_readHelds _ _ _) fun z => ?_
  obtain ⟨ws, ds, ss⟩ := z
  simp only
  split
  ·exact mono_bind (mono_upd _) fun _ => mono_pure _
  ·exact mono_bad _
 ·exact mono_bad _
 ·exact mono_bad _
theorem mono_backAll : ∀ (bs : List Back) (vs : List V), Mono (backAll bs vs)
 | [], _ => by simp only [backAll]; exact mono_pure _
 | .none :: bs, [] => by simp only [backAll]; exact mono_bad _
 | .none :: bs, v :: vs => by simp only [backAll]; exact mono_backAll bs vs
 | .slot s n :: bs, [] => by simp only [backAll]; exact mono_bad _
 | .lst s n :: bs, [] => by simp only [backAll]; exact mono_bad _
 | .slot s n :: bs, v :: vs => by
  cases v <;> simp only [backAll] <;> try exact mono_bad _
  split
  ·exact mono_bind (mono_upd _) fun _ => mono_backAll bs vs
  ·exact mono_bad _
 | .lst s n :: bs, v :: vs => by
  cases v <;> simp only [backAll] <;> try exact mono_bad _
  split
  ·exact mono_bind (mono_upd _) fun _ => mono_backAll bs vs
  ·exact mono_bad _
theorem mono_finM (d : Option Tmp) (bs : List Back) (r : V) (outs : List V) : Mono (finM d bs r outs) := mono_bind (mono_backAll _ _) fun _ => mono_putD _ _
end Go.Abs
end
section
set_option linter.unusedVariables false
set_option linter.unusedSimpArgs false
set_option linter.unusedSectionVars false
namespace Go.Abs
open Go
variable [Globs]
section
variable {A : Nat → Prop} {hz hb : GH} {O : OM} {env env' : Env} {tm : Nat → Value} {w w' : World} {P : Program} {H : Hints} {me : FuncId} {o : Oper} {cs : List Bool} {us : List Upd} {u : Unit}

/-! ### an operation where the machine stands -/
theorem ltN_lt {a b : Nat} (h : ltN a b = true) : a < b := of_decide_eq_true h
/-- - -/
def tmA (a : Act) (hid : Nat → Value) : Nat → Value := fun t => if t < a.tmps.size then a.tmps.getD t undef else hid t
theorem evO_tmA {a : Act} {hid : Nat → Value} {n : Nat} {x : Operand} (hn : a.tmps.size = n) (hx : okOpnd n x = true) : evO (tmA a hid) x = a.eval x := by
 cases x with
 | tmp t =>
  have hx := ltN_lt hx
  simp only [evO, tmA, Act.eval]
  rw [if_pos (by rw [hn]; exact hx)]
 | _ => rfl
theorem put_size (a : Act) (d : Option Tmp) (c : Value) : (a.put d c).tmps.size = a.tmps.size := by cases d <;> simp [Act.put]
theorem put_defers (a : Act) (d : Option Tmp) (c : Value) : (a.put d c).defers = a.defers := by cases d <;> simp [Act.put]
theorem tmA_put {a : Act} {hid : Nat → Value} {n : Nat} {d : Option Tmp} {c : Value} (hn : a.tmps.size = n) (hd : okDst n d = true) : tmA (a.put d c) hid = tmPut (tmA a hid) d c := by
 cases d with
 | none => rfl
 | some d =>
  have hd := ltN_lt hd
  rw [← hn] at hd
  funext t
  simp only [tmA, put_size, tmPut, setT]
  by_cases ht : t = d
  ·subst ht
   rw [if_pos hd, if_pos rfl]
   simp [Act.put, Array.getD_eq_getD_getElem?, hd]
  ·rw [if_neg ht]
   by_cases h1 : t < a.tmps.size
   ·rw [if_pos h1, if_pos h1]
    show (a.tmps.setIfInBounds d c).getD t undef = a.tmps.getD t undef
    rw [Array.getD_eq_getD_getElem?, Array.getD_eq_getD_getElem?, Array.getElem?_setIfInBounds_ne (Ne.symm ht)]
   ·rw [if_neg h1, if_neg h1]
/-- - -/
def Fut (A : Nat → Prop) (hz hb : GH) (env' : Env) (a : Act) (hid : Nat → Value) (w : World) (dst : Option Tmp) (next : Act → World → Prop) : Prop :=
 ∀ c w' hz' hb' O', FzExt A hz hb hz' hb' → Inv A hz' hb' O' env' (tmA (a.put dst c) hid) w' → Side w w' → next (a.put dst c) w'
/-- - -/
def Does (P : Program) (n : Nat) (o : Oper) (env env' : Env) : Prop :=
 ∀ (A : Nat → Prop) (hz hb : GH) (O : OM) (a : Act) (hid : Nat → Value) (w : World) (next : Act → World → Prop) (Q : Exit → Act → World → Prop), a.tmps.size = n → Inv A hz hb O env (tmA a hid) w → Fut A hz hb env' a hid w o.dst next → o.wp P a w next Q
theorem opM_not_select (h : opM P H me o env = some (cs, us, u)) : ∀ cs b, o.op ≠ .select cs b := by
 intro cs b e
 unfold opM at h
 rw [e] at h
 exact (bad_inv h).elim
theorem okOper_ops {n : Nat} (h : okOper n o = true) : ∀ x ∈ o.op.operands, okOpnd n x = true := by
 intro x hx
 simp only [okOper, Bool.and_eq_true, List.all_eq_true] at h
 exact h.1 x (by simpa using hx)
theorem okOper_dst {n : Nat} (h : okOper n o = true) : okDst n o.dst = true := by
 simp only [okOper, Bool.and_eq_true] at h
 exact h.2
theorem dst_lt {n : Nat} {dst : Option Tmp} (h : okDst n dst = true) (hn : n ≤ env.length) : ∀ d, dst = some d → d < env.length := by
 rintro d rfl
 exact Nat.lt_of_lt_of_le (ltN_lt h) hn
theorem does_op {n : Nat} (hn : n ≤ env.length) (hk : okOper n o = true) (h : opM P H me o env = some (cs, us, u)) (hcs : ∀ b ∈ cs, b = true) : Does P n o env (applyU us env) := by
 intro A hz hb O a hid w next Q ha I hf
 unfold Oper.wp
 rw [← execOp_congr (ρ := evO (tmA a hid)) o (opM_not_select h) (fun x hx => evO_tmA ha (okOper_ops hk x hx))]
 obtain ⟨c, w', hz', hb', O', e, I', hr, hs⟩ := opM_ok I (dst_lt (okOper_dst hk) hn) h hcs
 rw [← tmA_put ha (okOper_dst hk)] at I'
 have := hf c w' hz' hb' O' e I' hs
 rcases hr with hr | ⟨hr, rfl⟩
 ·rw [hr]; exact this
 ·rw [hr]; exact this
theorem argAt_mono {S S' : List Nat} {M i : Nat} {y : V} {b : Back} {c : Value} (h : ArgAt hz hb O env tm w S M i y b c) (hs : ∀ s ∈ S, s ∈ S') : ArgAt hz hb O env tm w S' M i y b c := by
 cases b with
 | none => exact h.imp id fun h hX L => h hX (L.sub hs)
 | slot s n =>
  obtain ⟨row, h1, h2⟩ := h
  refine ⟨row, h1.imp id ?_, h2⟩
  rintro ⟨f, caps, vs, e1, e2, e3, e4⟩
  exact ⟨f, caps, vs, e1, e2, e3, fun j v e => (e4 j v e).imp id fun h hX L => h hX (L.sub hs)⟩
 | lst s ts => exact h
theorem prep_inv {fo : Operand} {args : List Operand} {f : FuncId} {vs : List V} {bs : List Back} (h : prepM P H fo args env = some (cs, us, (f, vs, bs))) : ∃ caps fn c1 u1 tk c2 u2 vs1 bs1 rs c3 u3 ws ds ss, raw fo env = some ([], [], .clos f caps) ∧ P.funcs[f]? = some fn ∧
  takeArgs P (H.mode f) 0 fn.params.toList args env = some (c1, u1, tk) ∧ readArgs P (H.mode f) 0 fn.params.toList args tk (applyU u1 env) = some (c2, u2, (vs1, bs1, rs)) ∧ readHelds (H.mode f) args.length caps (applyU u2 (applyU u1 env)) = some (c3, u3, (ws, ds, ss)) ∧
  vs = vs1 ++ ws ∧ bs = bs1 ++ ds ∧ distinct (handed bs) = true ∧ (∀ s ∈ rs ++ ss, s ∉ handed bs) ∧ cs = c1 ++ (c2 ++ c3) ∧ us = u1 ++ (u2 ++ (u3 ++ killsB bs vs)) := by
 obtain ⟨v, h0, hA⟩ := raw_bind h
 clear h
 split at hA
 ·rename_i g caps
  obtain ⟨fn, h1, hB⟩ := opt_bind hA
  obtain ⟨c1, u1, tk, c2, u2, h2, hC, rfl, rfl⟩ := bind_inv hB
  obtain ⟨c3, u3, ⟨vs', bs', rs⟩, c4, u4, h3, hD, rfl, rfl⟩ := bind_inv hC
  obtain ⟨c5, u5, ⟨ws, ds, ss⟩, c6, u6, h5, hE, rfl, rfl⟩ := bind_inv hD
  simp only at hE
  split at hE
  ·rename_i hc
   obtain ⟨c7, u7, _, c8, u8, h4, hF, rfl, rfl⟩ := bind_inv hE
   obtain ⟨rfl, rfl⟩ := upd_inv h4
   obtain ⟨rfl, rfl, hp⟩ := pure_inv hF
   cases hp
   simp only [Bool.and_eq_true, List.all_eq_true] at hc
   refine ⟨caps, fn, c1, u1, tk, c3, u3, vs', bs', rs, c5, u5, ws, ds, ss, h0, h1, h2, h3, h5, rfl, rfl, hc.1, fun s hs => ?_, by simp, by simp⟩
   have := hc.2 s hs
   simpa using this
  ·exact (bad_inv hE).elim
 ·exact (bad_inv hA).elim
 ·exact (bad_inv hA).elim
theorem call_ok (I : Inv A hz hb O env tm w) {fo : Operand} {args : List Operand} {f : FuncId} {vs outs : List V} {bs : List Back} {r : V} {dst : Option Tmp} (hd : ∀ d, dst = some d → d < env.length) (h : prepM P H fo args env = some (cs, us, (f, vs, bs)))
  (hF : FnOk P f vs r outs) {cs' : List Bool} {us' : List Upd} (h2 : finM dst bs r outs (applyU us env) = some (cs', us', u)) :
  ∃ held, evO tm fo = .func (.func f) #[] held ∧ callRun P f ((args.map (evO tm)).toArray ++ held) w fun c w' => ∃ hz' hb' O', FzExt A hz hb hz' hb' ∧ Inv A hz' hb' O' (applyU (us ++ us') env) (tmPut tm dst c) w' ∧ Side w w' := by
 obtain ⟨caps, fn, c1, u1, tk, c2, u2, vs1, bs1, rs, c3, u3, ws, ds, ss, h0, hfn, hA, hB, hC, hvs, hbs, hdis, hrs, rfl, rfl⟩ := prep_inv h
 have hfo : ∃ held : Array Value, evO tm fo = .func (.func f) #[] held ∧ held.size = caps.length ∧ ∀ j v, caps[j]? = some v → HeldIs hz hb tm v (held.getD j undef) := by
  obtain ⟨_, _, _, hraw⟩ := raw_ok I h0
  have : ∃ p, RepS hz hb O env tm w p (.clos f caps) (evO tm fo) := by
   rcases hraw with ⟨t, _, _, _, h⟩ | ⟨_, h, _⟩
   ·exact ⟨_, h⟩
   ·exact ⟨[], h []⟩
  obtain ⟨p, vs', h1, h3, h4⟩ := this
  exact ⟨vs', h1, h3, fun j v e => RepCap.held (h4 j v e)⟩
 obtain ⟨held, hfo, hhs, hheld⟩ := hfo
 refine ⟨held, hfo, ?_⟩
 obtain ⟨rfl, hz1, hb1, O1, S1, htl, htk⟩ := takeArgs_ok I hA (M := env.length + 3) (by omega)
 obtain ⟨rfl, rfl, hvl1, hbl1, harg1⟩ := readArgs_ok S1.inv hB htl
 obtain ⟨rfl, rfl, hwl, hdl, harg2⟩ := readHelds_ok (k := 0) (g := fun j => held.getD j undef) S1.inv hC (fun j v e => by
  rw [Nat.zero_add]
  exact (hheld j v e).mono S1.ext.1 S1.ext.2.1)
 have hvl : vs.length = args.length + caps.length := by rw [hvs, List.length_append, hvl1, hwl]
 have hbl : bs.length = args.length + caps.length := by rw [hbs, List.length_append, hbl1, hdl]
 obtain ⟨I2, hl2, hobj, hown, hment⟩ := kills_ok (bs := bs) (vs := vs) S1.inv
 simp only [List.nil_append] at h2 ⊢
 rw [applyU_append] at h2
 obtain ⟨c3, u3, _, c4, u4, hK, hL, rfl, rfl⟩ := bind_inv h2
 have hlen1 : (applyU (killsB bs vs) (applyU u1 env)).length = env.length := by rw [hl2, S1.len]
 -- each argument: taken, or read
 have harg : ∀ i v b, vs[i]? = some v → bs[i]? = some b → (b = .none ∧ RepC hz1 hb1 O1 w [env.length + 3 + i] v (((args.map (evO tm)).toArray ++ held).getD i undef)) ∨
   ∃ S, (∀ s ∈ S, s ∈ rs ++ ss) ∧ ArgIs A hz1 hb1 O1 (applyU u1 env) tm w v b S (((args.map (evO tm)).toArray ++ held).getD i undef) := by
  intro i v b e1 e2
  by_cases hi : i < args.length
  ·have hx : args[i]? = some (args[i]'hi) := List.getElem?_eq_getElem hi
   have hm : ((args.map (evO tm)).toArray ++ held).getD i undef = evO tm (args[i]'hi) := by
    rw [Array.getD_eq_getD_getElem?, Array.getElem?_append_left (by simpa using hi)]
    simp [hx]
   rw [hm]
   rw [hvs, List.getElem?_append_left (by omega)] at e1
   rw [hbs, List.getElem?_append_left (by omega)] at e2
   rcases harg1 i v b _ e1 e2 hx with ⟨h3, rfl⟩ | ⟨S, h3, h4⟩
   ·left
    have := htk i v _ h3 hx
    exact ⟨rfl, by simpa using this⟩
   ·exact .inr ⟨S, fun s hs => List.mem_append_left _ (h3 s hs), h4⟩
  ·have hm : ((args.map (evO tm)).toArray ++ held).getD i undef = held.getD (i - args.length) undef := by
    rw [Array.getD_eq_getD_getElem?, Array.getElem?_append_right (by simpa using hi), ← Array.getD_eq_getD_getElem?]
    simp
   rw [hm]
   rw [hvs, List.getElem?_append_right (by omega), hvl1] at e1
   rw [hbs, List.getElem?_append_right (by omega), hbl1] at e2
   obtain ⟨S, h3, h4⟩ := harg2 (i - args.length) v b e1 e2
   rw [Nat.zero_add] at h4
   exact .inr ⟨S, fun s hs => List.mem_append_right _ (h3 s hs), h4⟩
 have hargs : ∀ i v b, vs[i]? = some v → bs[i]? = some b → ArgAt hz1 hb1 O1 (applyU (killsB bs vs) (applyU u1 env)) tm w ((rs ++ ss).filter fun s => decide (s < env.length)) (env.length + 3) i v b (((args.map (evO tm)).toArray ++ held).getD i undef) := by
  intro i v b e1 e2
  rcases harg i v b e1 e2 with ⟨rfl, h3⟩ | ⟨S, h3, h4⟩
  ·exact .inl h3
  ·cases b with
   | none =>
    right
    intro hX L q O'
    refine h4.2 S hX (fun s hs => hs) (L.sub fun s hs => ?_) q O'
    simp only [List.mem_filter, decide_eq_true_eq]
    have := h4.1 s hs
    rw [S1.len] at this
    exact ⟨h3 s hs, this⟩
   | slot s n =>
    obtain ⟨_, row, h5, h6, h7, h8⟩ := h4
    refine ⟨row, ?_, hobj _ _ h6, h7, h8⟩
    rcases h5 with h5 | ⟨f', caps', cs', e3, e4, e5, e6, e7⟩
    ·exact .inl h5
    ·refine .inr ⟨f', caps', cs', e3, e4, e5, fun j v e => ?_⟩
     rcases e7 j v e with e8 | e8
     ·exact .inl e8
     ·refine .inr fun hX L => e8 S hX (fun s hs => hs) (L.sub fun s hs => ?_)
      simp only [List.mem_filter, decide_eq_true_eq]
      have := e6 s hs
      rw [S1.len] at this
      exact ⟨h3 s hs, this⟩
   | lst s ts =>
    obtain ⟨_, rows, h5, h6, h7⟩ := h4
    exact ⟨rows, h5, hown _ _ _ h6, h7⟩
 have core := call_core (S := (rs ++ ss).filter fun s => decide (s < env.length)) (margs := (args.map (evO tm)).toArray ++ held) (M := env.length + 3) I2 (by omega) (by omega) (by simp [hvl, hhs]) hdis (fun s hs => by
   simp only [List.mem_filter, decide_eq_true_eq] at hs
   exact ⟨by omega, hrs s hs.1⟩) hargs (fun t l hl i s n e => (hment t l hl).2 i s n e (by have := (List.getElem?_eq_some_iff.1 e).1; omega)) hF hK
 refine core.mono fun c w2 ⟨hz2, hb2, O2, e2, I3, hs, hr⟩ => ?_
 rw [applyU_append, applyU_append, applyU_append]
 have hl3 : (applyU u3 (applyU (killsB bs vs) (applyU u1 env))).length = env.length := by
  have hq := back_ok hK hdis (fun s n hm => ?_) (fun s ts hm => ?_)
  ·rw [hq.2.1, hlen1]
  ·obtain ⟨i, hi⟩ := List.getElem?_of_mem hm
   have hi' := (List.getElem?_eq_some_iff.1 hi).1
   obtain ⟨row, _, h1, h2, _⟩ := hargs i (vs[i]'(by omega)) _ (List.getElem?_eq_getElem (by omega)) hi
   exact ⟨row, h1, h2⟩
  ·obtain ⟨i, hi⟩ := List.getElem?_of_mem hm
   have hi' := (List.getElem?_eq_some_iff.1 hi).1
   obtain ⟨rows, _, h1, _⟩ := hargs i (vs[i]'(by omega)) _ (List.getElem?_eq_getElem (by omega)) hi
   exact ⟨rows, h1⟩
 cases dst with
 | none =>
  obtain ⟨rfl, rfl⟩ := upd_inv (env := applyU u3 (applyU (killsB bs vs) (applyU u1 env))) hL
  exact ⟨hz2, hb2, O2, S1.ext.trans e2, I3, hs⟩
 | some d =>
  obtain ⟨rfl, I4⟩ := put_ok I3 hL (by rw [hl3]; exact hd d rfl) (by rw [hl3, hlen1]; exact Nat.le_refl _) hr
  exact ⟨hz2, hb2, _, S1.ext.trans e2, I4, hs⟩
theorem does_call {n : Nat} (hn : n ≤ env.length) (hk : okOper n o = true) {fo : Operand} {args : Array Operand} {ats : Array TypeId} (ho : o.op = .call ⟨.value fo, args, ats⟩) {f : FuncId} {vs outs : List V} {bs : List Back} {r : V} (h : prepM P H fo args.toList env = some (cs, us, (f, vs, bs)))
  (hF : FnOk P f vs r outs) {cs' : List Bool} {us' : List Upd} (h2 : finM o.dst bs r outs (applyU us env) = some (cs', us', u)) : Does P n o env (applyU (us ++ us') env) := by
 intro A hz hb O a hid w next Q ha I hf
 unfold Oper.wp
 rw [← execOp_congr (ρ := evO (tmA a hid)) o (by rw [ho]; intro cs b e; cases e) (fun x hx => evO_tmA ha (okOper_ops hk x hx))]
 obtain ⟨held, hfo, hr⟩ := call_ok I (dst_lt (okOper_dst hk) hn) h hF h2
 have hex : (execOp (evO (tmA a hid)) o).run P w = (callFunc f ((args.toList.map (evO (tmA a hid))).toArray ++ held)).run P w := by
  have hm : (args.toList.map (evO (tmA a hid))).toArray = args.map (evO (tmA a hid)) := by
   rw [← Array.toList_inj]; simp
  rw [hm]
  simp only [execOp, ho, resolve, hfo, Deferred.ofValue, Sem.run_bind, Sem.run_pure, Result.andThen_ok, invoke]
  simp
 rw [hex]
 unfold callRun at hr
 have fin : ∀ c w', (∃ hz' hb' O', FzExt A hz hb hz' hb' ∧ Inv A hz' hb' O' (applyU (us ++ us') env) (tmPut (tmA a hid) o.dst c) w' ∧ Side w w') → next (a.put o.dst c) w' := by
  rintro c w' ⟨hz', hb', O', e, I', hs⟩
  rw [← tmA_put ha (okOper_dst hk)] at I'
  exact hf c w' hz' hb' O' e I' hs
 generalize (callFunc f ((args.toList.map (evO (tmA a hid))).toArray ++ held)).run P w = rr at hr ⊢
 cases rr with
 | ok n w' =>
  cases n <;> simp only [Oper.upon] at hr ⊢ <;> try exact hr.elim
  ·exact fin _ _ hr
  ·exact Calls.mono hr fun e w'' ⟨v, he, h⟩ => by subst he; exact fin _ _ h
  ·exact hr.mono fun v w'' h => fin _ _ h
 | halt x w' => exact hr.elim
end
end Go.Abs
end
section
set_option linter.unusedVariables false
set_option linter.unusedSimpArgs false
set_option linter.unusedSectionVars false
namespace Go.Abs
open Go
variable [Globs]
section
variable {A : Nat → Prop} {hz hb : GH} {O : OM} {env env' : Env} {tm : Nat → Value} {w w' : World} {P : Program} {H : Hints} {tbl : Tbl} {me : FuncId} {o : Oper} {cs : List Bool} {us : List Upd} {u : Unit} {n : Nat} {all : Array Oper} {R : Type} {x : R}

/-! ### regions -/
def TblOk (P : Program) (tbl : Tbl) : Prop := ∀ (R : Type) (f : FuncId) (vs : List V) (k : V → List V → Option R) (x : R), tbl R f vs k = some x → ∃ r outs, FnOk P f vs r outs ∧ k r outs = some x
theorem runChecks_some : ∀ {cs : List Bool} {k : Option R}, runChecks cs k = some x → (∀ b ∈ cs, b = true) ∧ k = some x
 | [], k, h => ⟨by simp, h⟩
 | c :: cs, k, h => by
  cases c with
  | false => cases h
  | true =>
   obtain ⟨h1, h2⟩ := runChecks_some (cs := cs) (k := k) h
   exact ⟨by simpa using h1, h2⟩
theorem apply1_len (env : Env) (u : Upd) : (apply1 env u).length = env.length := by
 have hm : ∀ (l : Loc) (g : V → V), (modLoc env l g).length = env.length := by
  intro l g
  unfold modLoc
  split <;> simp
 cases u with
 | set t v => simp [apply1]
 | leaf s j v => simp [apply1]
 | rows l rows => exact hm l (putRows · rows)
 | kill q => simp [apply1]
theorem applyU_len : ∀ (us : List Upd) (env : Env), (applyU us env).length = env.length
 | [], env => rfl
 | u :: us, env => by simp only [applyU]; rw [applyU_len us, apply1_len]
/-- - -/
def DoesW (P : Program) (n : Nat) (all : Array Oper) (i : Nat) (o : Oper) (env env' : Env) : Prop :=
 ∀ (A : Nat → Prop) (hz hb : GH) (O : OM) (a : Act) (hid : Nat → Value) (w : World) (K : Act → World → Prop) (Q : Exit → Act → World → Prop), a.tmps.size = n → Inv A hz hb O env (tmA a hid) w → Fut A hz hb env' a hid w o.dst K → wpOp P all Q i K a w
theorem wanted_ok {a : Act} {hid : Nat → Value} (hk : ∀ o ∈ all, okDst n o.dst = true) (ha : a.tmps.size = n) (I : Inv A hz hb O env (tmA a hid) w) {b : Bool} (h : wantedV all env o = some b) : Region.wanted o (yielded all a.tmps) = b := by
 unfold wantedV at h
 unfold Region.wanted
 cases hg : o.guard with
 | none => rw [hg] at h; cases h; rfl
 | some p =>
  obtain ⟨j, want⟩ := p
  rw [hg] at h
  simp only at h ⊢
  cases hd : (all[j]?).bind (·.dst) with
  | none => rw [hd] at h; cases h
  | some t =>
   rw [hd] at h
   simp only at h
   have ht : t < a.tmps.size := by
    simp only [Option.bind_eq_some_iff] at hd
    obtain ⟨o', h1, h2⟩ := hd
    have := hk o' (Array.mem_of_getElem? h1)
    rw [h2] at this
    rw [ha]
    exact ltN_lt this
   have hv : ∀ v, getS env t = .f (.lit v) → a.tmps[t]? = some v := by
    intro v hv
    have h1 := lit_c (by have := I.rep t; rw [hv] at this; exact this)
    rw [tmA, if_pos ht] at h1
    rw [← h1]
    simp [Array.getD_eq_getD_getElem?, ht]
   unfold yielded
   rw [hd]
   simp only [Option.bind_some]
   split at h
   ·rename_i v b' hv'
    cases h
    rw [hv _ hv']
    simp
   ·rename_i hv'
    cases h
    rw [hv _ hv']
    rfl
   ·cases h
theorem does_wanted (hk : ∀ o ∈ all, okDst n o.dst = true) {i : Nat} (ho : all[i]? = some o) (hw : wantedV all env o = some true) (h : Does P n o env env') : DoesW P n all i o env env' := by
 intro A hz hb O a hid w K Q ha I hf
 unfold wpOp
 simp only [ho, wanted_ok hk ha I hw, if_true]
 exact .inl (h A hz hb O a hid w K Q ha I hf)
theorem does_skip (hk : ∀ o ∈ all, okDst n o.dst = true) (hn : n ≤ env.length) {i : Nat} (ho : all[i]? = some o) (hw : wantedV all env o = some false) (h : putD o.dst passed env = some (cs, us, u)) : DoesW P n all i o env (applyU us env) := by
 intro A hz hb O a hid w K Q ha I hf
 have hdst := hk o (Array.mem_of_getElem? ho)
 unfold wpOp
 simp only [ho, wanted_ok hk ha I hw, Bool.false_eq_true, if_false]
 have hI : Inv A hz hb (match o.dst with | some d => renH env.length [d] O | none => O) (applyU us env) (tmPut (tmA a hid) o.dst undef) w := by
  cases hd : o.dst with
  | none =>
   rw [hd] at h
   obtain ⟨rfl, rfl⟩ := upd_inv (env := env) h
   exact I
  | some d =>
   rw [hd] at h hdst
   exact (put_ok I h (dst_lt hdst hn d rfl) (Nat.le_refl _) (.inl (.lit _))).2
 rw [← tmA_put ha hdst] at hI
 exact hf undef w hz hb _ (FzExt.refl _ _ _) hI (Side.refl _)
/-- - -/
def FutA (A : Nat → Prop) (hz hb : GH) (env' : Env) (n : Nat) (ds : List Deferred) (hid : Nat → Value) (w : World) (K : Act → World → Prop) : Prop :=
 ∀ a' w' hz' hb' O', FzExt A hz hb hz' hb' → Inv A hz' hb' O' env' (tmA a' hid) w' → Side w w' → a'.tmps.size = n → a'.defers = ds → K a' w'
def RegDoes (P : Program) (n : Nat) (all : Array Oper) (is : List Nat) (env env' : Env) : Prop :=
 ∀ (A : Nat → Prop) (hz hb : GH) (O : OM) (a : Act) (hid : Nat → Value) (w : World) (Q : Exit → Act → World → Prop), a.tmps.size = n → Inv A hz hb O env (tmA a hid) w → FutA A hz hb env' n a.defers hid w (Q .normal) → wpOps P all Q is a w
theorem reg_nil : RegDoes P n all [] env env := fun A hz hb O a hid w Q ha I hf => hf a w hz hb O (FzExt.refl _ _ _) I (Side.refl _) ha rfl
theorem reg_cons {i : Nat} {is : List Nat} {env1 env2 : Env} (h1 : DoesW P n all i o env env1) (h2 : RegDoes P n all is env1 env2) : RegDoes P n all (i :: is) env env2 := by
 intro A hz hb O a hid w Q ha I hf
 rw [wpOps_cons]
 refine h1 A hz hb O a hid w _ Q ha I fun c w1 hz1 hb1 O1 e1 I1 s1 => ?_
 refine h2 A hz1 hb1 O1 _ hid w1 Q (by rw [put_size]; exact ha) I1 fun a' w2 hz2 hb2 O2 e2 I2 s2 h3 h4 => ?_
 exact hf a' w2 hz2 hb2 O2 (e1.trans e2) I2 (s1.trans s2) h3 (by rw [h4, put_defers])
theorem seekK_some {gs : List Nat} {d : Option Tmp} {k : Env → Option R} (h : seeK gs d env k = some x) : k env = some x := by
 unfold seeK at h
 cases d with
 | none => exact h
 | some t =>
  simp only at h
  split at h
  ·split at h
   ·rename_i b hb
    have : env.set t (vBool b) = env := set_same hb (by simp [vBool])
    cases b with
    | true => simpa [this] using h
    | false => simpa [this] using h
   ·exact h
  ·exact h
theorem stepK_some (hT : TblOk P tbl) (hn : n ≤ env.length) (hk : okOper n o = true) {k : Env → Option R} (h : stepK P H tbl me o env k = some x) : ∃ us, k (applyU us env) = some x ∧ Does P n o env (applyU us env) := by
 unfold stepK at h
 split at h
 ·rename_i fo args ats ho
  split at h
  ·cases h
  ·rename_i cs us f vs p hp
   obtain ⟨_, h1⟩ := runChecks_some h
   obtain ⟨r, outs, hF, h2⟩ := hT _ _ _ _ _ h1
   split at h2
   ·cases h2
   ·rename_i cs' us' u' hfin
    obtain ⟨_, h3⟩ := runChecks_some h2
    exact ⟨us ++ us', by rw [applyU_append]; exact h3, does_call hn hk ho hp hF hfin⟩
 ·split at h
  ·cases h
  ·rename_i cs us u' hop
   obtain ⟨hcs, h1⟩ := runChecks_some h
   exact ⟨us, h1, does_op hn hk hop hcs⟩
theorem opsK_some (hT : TblOk P tbl) (hall : ∀ o ∈ all, okOper n o = true) : ∀ {rest : List Oper} {i : Nat} {env : Env} {k : Env → Option R} (_ : n ≤ env.length) (_ : ∀ j o, rest[j]? = some o → all[i + j]? = some o) (_ : opsK P H tbl me all rest env k = some x),
  ∃ env', k env' = some x ∧ env'.length = env.length ∧ RegDoes P n all ((List.range rest.length).map (i + ·)) env env'
 | [], i, env, k, hn, hr, h => ⟨env, h, rfl, reg_nil⟩
 | o :: rest, i, env, k, hn, hr, h => by
  have ho : all[i]? = some o := hr 0 o rfl
  have hrest : ∀ j o', rest[j]? = some o' → all[i + 1 + j]? = some o' := fun j o' e => by
   have := hr (j + 1) o' (by simpa using e)
   rwa [show i + (j + 1) = i + 1 + j by omega] at this
  have hkd : ∀ o ∈ all, okDst n o.dst = true := fun o h => okOper_dst (hall o h)
  have hlist : (List.range (o :: rest).length).map (i + ·) = i :: (List.range rest.length).map (i + 1 + ·) := by
   rw [List.length_cons, List.range_succ_eq_map, List.map_cons, List.map_map]
   simp only [Nat.add_zero, List.cons.injEq, true_and]
   congr 1
   funext j
   simp only [Function.comp]
   omega
  rw [hlist]
  simp only [opsK] at h
  split at h
  ·rename_i hw
   obtain ⟨us, h1, h2⟩ := stepK_some hT hn (hall o (Array.mem_of_getElem? ho)) h
   have h3 := seekK_some h1
   obtain ⟨env', h4, h5, h6⟩ := opsK_some (i := i + 1) hT hall (by rw [applyU_len]; exact hn) hrest h3
   exact ⟨env', h4, by rw [h5, applyU_len], reg_cons (does_wanted hkd ho hw h2) h6⟩
  ·rename_i hw
   split at h
   ·rename_i cs us u' hp
    obtain ⟨env', h4, h5, h6⟩ := opsK_some (i := i + 1) hT hall (by rw [applyU_len]; exact hn) hrest h
    exact ⟨env', h4, by rw [h5, applyU_len], reg_cons (does_skip hkd hn ho hw hp) h6⟩
   ·cases h
  ·cases h
end
end Go.Abs
end
section
set_option linter.unusedVariables false
set_option linter.unusedSimpArgs false
set_option linter.unusedSectionVars false
namespace Go.Abs
open Go
variable [Globs]

/-! ### in whatever order -/
def shapeSim (v v' : V) : Prop := v = v' ∨ (∃ ts rows rows', v = .own ts rows ∧ v' = .own ts rows' ∧ rows'.length = rows.length) ∨ (∃ row row', v = .obj row ∧ v' = .obj row' ∧ row'.length = row.length)
theorem shapeSim.trans {a b c : V} (h : shapeSim a b) (k : shapeSim b c) : shapeSim a c := by
 rcases h with rfl | ⟨ts, r, r', rfl, rfl, hl⟩ | ⟨r, r', rfl, rfl, hl⟩
 ·exact k
 ·rcases k with rfl | ⟨ts', q, q', h1, rfl, hl'⟩ | ⟨q, q', h1, _, _⟩
  ·exact .inr (.inl ⟨ts, r, r', rfl, rfl, hl⟩)
  ·cases h1; exact .inr (.inl ⟨ts, r, q', rfl, rfl, hl'.trans hl⟩)
  ·cases h1
 ·rcases k with rfl | ⟨ts', q, q', h1, _, _⟩ | ⟨q, q', h1, rfl, hl'⟩
  ·exact .inr (.inr ⟨r, r', rfl, rfl, hl⟩)
  ·cases h1
  ·cases h1; exact .inr (.inr ⟨r, q', rfl, rfl, hl'.trans hl⟩)
/-- - -/
structure Look (bare : Bool) (e0 E : Env) : Prop where
 len : e0.length = E.length
 at_ : ∀ t, getS e0 t = .undef ∨ getS e0 t = getS E t ∨ (bare = true ∧ shapeSim (getS e0 t) (getS E t))
theorem Look.sub {e0 E : Env} (h : Look false e0 E) : SubE e0 E := ⟨h.len, fun t => by
 rcases h.at_ t with h | h | ⟨h, _⟩
 ·exact .inl h
 ·exact .inr h
 ·cases h⟩
theorem killV1_none {q : KQ} {v : V} (h : ∀ l ∈ mentsV1 v, q.hits l = false) : killV1 q v = v := by
 cases v <;> simp only [killV1, mentsV1, List.mem_singleton, forall_eq] at h ⊢ <;> rw [h] <;> rfl
theorem map_same {f : V → V} {xs : List V} (h : ∀ x ∈ xs, f x = x) : xs.map f = xs := (List.map_congr_left h).trans (List.map_id'' (fun _ => rfl) xs)
theorem v_cases (v : V) : (∃ xs, v = .agg xs) ∨ (∃ f xs, v = .clos f xs) ∨ ((∀ q, killV q v = killV1 q v) ∧ mentsV v = mentsV1 v) := by
 cases v <;> first
  | exact .inl ⟨_, rfl⟩
  | exact .inr (.inl ⟨_, _, rfl⟩)
  | exact .inr (.inr ⟨fun _ => rfl, rfl⟩)
theorem killV_none {q : KQ} {v : V} (h : ∀ l ∈ mentsV v, q.hits l = false) : killV q v = v := by
 rcases v_cases v with ⟨xs, rfl⟩ | ⟨f, xs, rfl⟩ | ⟨h1, h2⟩
 ·simp only [killV, V.agg.injEq]
  exact map_same fun x hx => killV1_none fun l hl => h l (by simp only [mentsV, List.mem_flatMap]; exact ⟨x, hx, hl⟩)
 ·simp only [killV, V.clos.injEq, true_and]
  exact map_same fun x hx => killV1_none fun l hl => h l (by simp only [mentsV, List.mem_flatMap]; exact ⟨x, hx, hl⟩)
 ·rw [h1]; rw [h2] at h; exact killV1_none h
theorem kill_hole {q : KQ} {xs : List V} (h : (xs.map (killV1 q)).any isUndef = false) : xs.map (killV1 q) = xs := by
 refine map_same fun x hx => ?_
 rcases killV1_cases q x with h1 | ⟨h1, _⟩
 ·have := List.any_eq_false.1 h _ (List.mem_map.2 ⟨x, hx, rfl⟩)
  rw [h1] at this
  exact (this rfl).elim
 ·exact h1
theorem killV_hole {q : KQ} {v : V} (hu : killV q v ≠ .undef) (h : noHole (killV q v) = true) : killV q v = v := by
 rcases v_cases v with ⟨xs, rfl⟩ | ⟨f, xs, rfl⟩ | ⟨h1, h2⟩
 ·simp only [killV, noHole, Bool.not_eq_true', V.agg.injEq] at h ⊢; exact kill_hole h
 ·simp only [killV, noHole, Bool.not_eq_true', V.clos.injEq, true_and] at h ⊢; exact kill_hole h
 ·rw [h1] at hu ⊢
  rcases killV1_cases q v with h3 | ⟨h3, _⟩
  ·exact (hu h3).elim
  ·exact h3
theorem killV1_comm (p q : KQ) (v : V) : killV1 p (killV1 q v) = killV1 q (killV1 p v) := by
 rcases killV1_cases q v with h1 | ⟨h1, h2⟩
 ·rw [h1]
  rcases killV1_cases p v with h3 | ⟨h3, _⟩
  ·rw [h3]; rfl
  ·rw [h3, h1]; rfl
 ·rw [h1]
  rcases killV1_cases p v with h3 | ⟨h3, h4⟩
  ·rw [h3]; rfl
  ·rw [h3, h1]
theorem killV_comm (p q : KQ) (v : V) : killV p (killV q v) = killV q (killV p v) := by
 rcases v_cases v with ⟨xs, rfl⟩ | ⟨f, xs, rfl⟩ | ⟨h1, h2⟩
 ·simp only [killV, List.map_map, V.agg.injEq]; congr 1; funext x; exact killV1_comm p q x
 ·simp only [killV, List.map_map, V.clos.injEq, true_and]; congr 1; funext x; exact killV1_comm p q x
 ·rw [h1, h1]
  have hk : ∀ (r : KQ) (q : KQ), killV r (killV1 q v) = killV1 r (killV1 q v) := by
   intro r q
   rcases killV1_cases q v with h3 | ⟨h3, _⟩
   ·rw [h3]; rfl
   ·rw [h3]; exact h1 r
  rw [hk, hk]
  exact killV1_comm p q v
theorem killV_own {q : KQ} {v : V} {ts : List LT} {rows : Rows} (h : killV q v = .own ts rows) : v = .own ts rows := by
 rcases v_cases v with ⟨xs, rfl⟩ | ⟨f, xs, rfl⟩ | ⟨h1, h2⟩
 ·cases h
 ·cases h
 ·rw [h1] at h
  rcases killV1_cases q v with h3 | ⟨h3, _⟩
  ·rw [h3] at h; cases h
  ·rw [h3] at h; exact h
theorem killV_obj {q : KQ} {v : V} {row : List V} (h : killV q v = .obj row) : v = .obj row := by
 rcases v_cases v with ⟨xs, rfl⟩ | ⟨f, xs, rfl⟩ | ⟨h1, h2⟩
 ·cases h
 ·cases h
 ·rw [h1] at h
  rcases killV1_cases q v with h3 | ⟨h3, _⟩
  ·rw [h3] at h; cases h
  ·rw [h3] at h; exact h
theorem killV_tup {q : KQ} {v : V} {row : List V} (h : killV q v = .tup row) : v = .tup row := by
 rcases v_cases v with ⟨xs, rfl⟩ | ⟨f, xs, rfl⟩ | ⟨h1, h2⟩
 ·cases h
 ·cases h
 ·rw [h1] at h
  rcases killV1_cases q v with h3 | ⟨h3, _⟩
  ·rw [h3] at h; cases h
  ·rw [h3] at h; exact h

/-! writes -/
def wslot : Upd → Option Nat
 | .set t _ => some t
 | .leaf s _ _ => some s
 | .rows l _ => some l.slot
 | .kill _ => none
def modV (lf : Option Nat) (g : V → V) (v : V) : V := match lf with
 | none => g v
 | some j => putLeaf v j (g (partOf v j))
def wfun : Upd → V → V
 | .set _ v, _ => v
 | .leaf _ j v, x => putLeaf x j v
 | .rows l rows, x => modV l.leaf (putRows · rows) x
 | .kill _, x => x
theorem apply1_w {E : Env} {u : Upd} {s : Nat} (h : wslot u = some s) : apply1 E u = E.set s (wfun u (getS E s)) := by
 cases u with
 | set t v => cases h; rfl
 | leaf t j v => cases h; rfl
 | rows l rows => cases h; simp only [apply1, modLoc, wfun, modV]; cases l.leaf <;> rfl
 | kill q => cases h
/-- - -/
theorem wfun_kill {u : Upd} {q : KQ} (hl : ∀ l ∈ layOf [u], q.hits l = false) (hu : ∃ s, wslot u = some s) (v : V) : killV q (wfun u v) = wfun u (killV q v) := by
 have hput : ∀ (v : V) (j : Nat) (f : V → V), killV q (putLeaf v j (f (partOf v j))) = putLeaf (killV q v) j (f (partOf (killV q v) j)) := by
  intro v j f
  by_cases ho : ∃ row, v = .obj row
  ·obtain ⟨row, rfl⟩ := ho; rfl
  by_cases ht : ∃ row, v = .tup row
  ·obtain ⟨row, rfl⟩ := ht; rfl
  have id1 : ∀ (w : V) (x : V), (¬ ∃ row, w = .obj row) → (¬ ∃ row, w = .tup row) → putLeaf w j x = w := by
   intro w x h1 h2
   cases w <;> first | rfl | exact (h1 ⟨_, rfl⟩).elim | exact (h2 ⟨_, rfl⟩).elim
  rw [id1 v _ ho ht, id1 (killV q v) _ (fun ⟨row, h⟩ => ho ⟨row, killV_obj h⟩) (fun ⟨row, h⟩ => ht ⟨row, killV_tup h⟩)]
 cases u with
 | set t w =>
  simp only [wfun]
  refine killV_none fun l hm => hl l ?_
  simp only [layOf, List.append_nil]
  exact hm
 | leaf s j w =>
  simp only [wfun]
  exact hput v j (fun _ => w)
 | rows l rows =>
  simp only [wfun, modV]
  cases l.leaf with
  | none =>
   simp only
   by_cases ho : ∃ ts old, v = .own ts old
   ·obtain ⟨ts, old, rfl⟩ := ho; rfl
   have id1 : ∀ w : V, (¬ ∃ ts old, w = .own ts old) → putRows w rows = w := by
    intro w h1
    cases w <;> first | rfl | exact (h1 ⟨_, _, rfl⟩).elim
   rw [id1 v ho, id1 (killV q v) (fun ⟨ts, old, h⟩ => ho ⟨ts, old, killV_own h⟩)]
  | some j => exact hput v j (putRows · rows)
 | kill q' => obtain ⟨s, hs⟩ := hu; cases hs
theorem apply1_kill (E : Env) (q : KQ) : apply1 E (.kill q) = E.map (killV q) := rfl
theorem comm_wk {E : Env} {u : Upd} {q : KQ} {s : Nat} (hs : wslot u = some s) (hl : ∀ l ∈ layOf [u], q.hits l = false) : apply1 (apply1 E (.kill q)) u = apply1 (apply1 E u) (.kill q) := by
 rw [apply1_w hs, apply1_w hs, apply1_kill, apply1_kill, List.map_set, getS_kill, wfun_kill hl ⟨s, hs⟩]
theorem comm_kk {E : Env} (p q : KQ) : apply1 (apply1 E (.kill q)) (.kill p) = apply1 (apply1 E (.kill p)) (.kill q) := by
 simp only [apply1_kill, List.map_map]
 congr 1
 funext v
 exact killV_comm p q v
theorem comm_ww {E : Env} {u v : Upd} {s t : Nat} (hs : wslot u = some s) (ht : wslot v = some t) (hne : s ≠ t) : apply1 (apply1 E u) v = apply1 (apply1 E v) u := by
 rw [apply1_w hs, apply1_w ht, apply1_w ht, apply1_w hs, getS_set_ne hne, getS_set_ne (Ne.symm hne)]
 rw [List.set_comm _ _ hne]
/-- - -/
structure Free2 (u v : Upd) : Prop where
 w : ∀ s t, wslot u = some s → wslot v = some t → s ≠ t
 uk : ∀ q, u = .kill q → ∀ l ∈ layOf [v], q.hits l = false
 vk : ∀ q, v = .kill q → ∀ l ∈ layOf [u], q.hits l = false
theorem comm1 {E : Env} {u v : Upd} (h : Free2 u v) : apply1 (apply1 E u) v = apply1 (apply1 E v) u := by
 cases hu : wslot u with
 | none =>
  have : ∃ q, u = .kill q := by cases u <;> first | exact ⟨_, rfl⟩ | cases hu
  obtain ⟨q, rfl⟩ := this
  cases hv : wslot v with
  | none =>
   have : ∃ p, v = .kill p := by cases v <;> first | exact ⟨_, rfl⟩ | cases hv
   obtain ⟨p, rfl⟩ := this
   exact comm_kk p q
  | some t => exact comm_wk hv (h.uk q rfl)
 | some s =>
  cases hv : wslot v with
  | none =>
   have : ∃ p, v = .kill p := by cases v <;> first | exact ⟨_, rfl⟩ | cases hv
   obtain ⟨p, rfl⟩ := this
   exact (comm_wk hu (h.vk p rfl)).symm
  | some t => exact comm_ww hu hv (h.w s t hu hv)
theorem comm_1n {u : Upd} : ∀ {vs : List Upd} {E : Env}, (∀ v ∈ vs, Free2 u v) → applyU vs (apply1 E u) = apply1 (applyU vs E) u
 | [], E, h => rfl
 | v :: vs, E, h => by
  simp only [applyU]
  rw [comm1 (h v List.mem_cons_self)]
  exact comm_1n fun v' hv => h v' (List.mem_cons_of_mem _ hv)
theorem comm_nn : ∀ {us vs : List Upd} {E : Env}, (∀ u ∈ us, ∀ v ∈ vs, Free2 u v) → applyU vs (applyU us E) = applyU us (applyU vs E)
 | [], vs, E, h => rfl
 | u :: us, vs, E, h => by
  simp only [applyU]
  rw [comm_nn fun u' hu => h u' (List.mem_cons_of_mem _ hu), comm_1n (h u List.mem_cons_self)]
end Go.Abs
end
section
set_option linter.unusedVariables false
set_option linter.unusedSimpArgs false
set_option linter.unusedSectionVars false
namespace Go.Abs
open Go
variable [Globs]

/-- - -/
structure St where
 i : Nat
 o : Oper
 e0 : Env
 store : Bool
 bare : Bool
 us : List Upd
/-- - -/
def RowsLen (us : List Upd) (E : Env) : Prop := ∀ us' l rs us'', us = us' ++ .rows l rs :: us'' → l.leaf = none → ∀ ts old, getS (applyU us' E) l.slot = .own ts old → rs.length = old.length
/-- - -/
def Spares (bare : Bool) (e0 : Env) (E : Env) : Upd → Prop
 | .set t _ => getS e0 t = .undef
 | .leaf s _ _ => getS e0 s = .undef ∨ (bare = true ∧ isTup (getS e0 s) = false)
 | .rows l rs => getS e0 l.slot = .undef ∨ (bare = true ∧ isTup (getS e0 l.slot) = false ∧ (l.leaf = none → ∀ ts old, getS E l.slot = .own ts old → rs.length = old.length))
 | .kill q => ∀ t, ∀ l ∈ mentsV (getS e0 t), q.hits l = false
def SparesL (bare : Bool) (e0 : Env) : Env → List Upd → Prop
 | _, [] => True
 | E, u :: us => Spares bare e0 E u ∧ SparesL bare e0 (apply1 E u) us
theorem sim_ments {v v' : V} (h : shapeSim v v') (l : Loc) (hl : l ∈ mentsV v') : l ∈ mentsV v := by
 rcases h with rfl | ⟨ts, r, r', rfl, rfl, _⟩ | ⟨r, r', rfl, rfl, _⟩
 ·exact hl
 ·exact hl
 ·exact hl
theorem put_sim {v : V} {j : Nat} {x : V} (ht : isTup v = false) : shapeSim v (putLeaf v j x) := by
 cases v <;> first | exact .inl rfl | (simp [isTup] at ht; done) | skip
 exact .inr (.inr ⟨_, _, rfl, rfl, by simp⟩)
/-- - -/
theorem look_fwd {bare : Bool} {e0 E : Env} {u : Upd} (h : Look bare e0 E) (hs : Spares bare e0 E u) : Look bare e0 (apply1 E u) := by
 refine ⟨by rw [apply1_len]; exact h.len, fun t => ?_⟩
 -- a write into another slot
 have other : ∀ s, wslot u = some s → s ≠ t → getS e0 t = .undef ∨ getS e0 t = getS (apply1 E u) t ∨ (bare = true ∧ shapeSim (getS e0 t) (getS (apply1 E u) t)) := by
  intro s h1 h2
  rw [apply1_w h1, getS_set_ne h2]
  exact h.at_ t
 have here : ∀ s, wslot u = some s → s = t → bare = true → isTup (getS e0 t) = false → (isTup (getS E t) = false → shapeSim (getS E t) (wfun u (getS E t))) → getS e0 t = .undef ∨ getS e0 t = getS (apply1 E u) t ∨ (bare = true ∧ shapeSim (getS e0 t) (getS (apply1 E u) t)) := by
  rintro s h1 rfl hb ht hw
  rcases h.at_ s with h3 | h3
  ·exact .inl h3
  ·have hsim : shapeSim (getS e0 s) (getS E s) := by
    rcases h3 with h3 | h3
    ·exact .inl h3
    ·exact h3.2
   have ht2 : isTup (getS E s) = false := by
    rcases hsim with h4 | ⟨ts, r, r', _, h4, _⟩ | ⟨r, r', _, h4, _⟩
    ·rw [← h4]; exact ht
    ·rw [h4]; rfl
    ·rw [h4]; rfl
   refine .inr (.inr ⟨hb, hsim.trans ?_⟩)
   rw [apply1_w h1, getS_set]
   split
   ·exact hw ht2
   ·exact .inl rfl
 cases u with
 | set s v =>
  by_cases he : s = t
  ·subst he; exact .inl hs
  ·exact other s rfl he
 | leaf s j v =>
  by_cases he : s = t
  ·subst he
   rcases hs with hs | ⟨hb, ht⟩
   ·exact .inl hs
   ·exact here s rfl rfl hb ht fun h => put_sim h
  ·exact other s rfl he
 | rows l rs =>
  by_cases he : l.slot = t
  ·subst he
   rcases hs with hs | ⟨hb, ht, hl⟩
   ·exact .inl hs
   ·refine here _ rfl rfl hb ht fun h => ?_
    simp only [wfun, modV]
    cases hlf : l.leaf with
    | none =>
     simp only
     by_cases ho : ∃ ts old, getS E l.slot = .own ts old
     ·obtain ⟨ts, old, ho⟩ := ho
      rw [ho]
      exact .inr (.inl ⟨ts, old, rs, rfl, rfl, hl hlf ts old ho⟩)
     ·have : putRows (getS E l.slot) rs = getS E l.slot := by
       cases hg : getS E l.slot <;> first | rfl | exact (ho ⟨_, _, hg⟩).elim
      rw [this]; exact .inl rfl
    | some j => exact put_sim h
  ·exact other _ rfl he
 | kill q =>
  rw [apply1_kill, getS_kill]
  have hq := hs t
  rcases h.at_ t with h1 | h1 | ⟨hb, h1⟩
  ·exact .inl h1
  ·right; left
   rw [← h1, killV_none hq]
  ·right; right
   refine ⟨hb, ?_⟩
   rw [killV_none fun l hl => hq l (sim_ments h1 l hl)]
   exact h1
/-- - -/
theorem look_back {bare : Bool} {e0 E : Env} {u : Upd} (hh : ∀ t, noHole (getS e0 t) = true) (h : Look bare e0 (apply1 E u)) (hs : Spares bare e0 E u) : Look bare e0 E := by
 refine ⟨by rw [h.len, apply1_len], fun t => ?_⟩
 have other : ∀ s, wslot u = some s → s ≠ t → getS e0 t = .undef ∨ getS e0 t = getS E t ∨ (bare = true ∧ shapeSim (getS e0 t) (getS E t)) := by
  intro s h1 h2
  have := h.at_ t
  rw [apply1_w h1, getS_set_ne h2] at this
  exact this
 have back : ∀ {a v : V} {j : Nat} {x : V}, isTup a = false → shapeSim a (putLeaf v j x) → shapeSim a v := by
  intro a v j x ht hsim
  by_cases ho : ∃ row, v = .obj row
  ·obtain ⟨row, rfl⟩ := ho
   rcases hsim with rfl | ⟨_, _, _, _, h4, _⟩ | ⟨r, r', rfl, h4, h5⟩
   ·exact .inr (.inr ⟨_, _, rfl, rfl, by simp⟩)
   ·cases h4
   ·simp only [putLeaf, V.obj.injEq] at h4
    subst h4
    exact .inr (.inr ⟨_, _, rfl, rfl, by simpa using h5⟩)
  ·by_cases ht2 : ∃ row, v = .tup row
   ·obtain ⟨row, rfl⟩ := ht2
    rcases hsim with rfl | ⟨_, _, _, _, h4, _⟩ | ⟨r, r', rfl, h4, h5⟩
    ·simp [putLeaf, isTup] at ht
    ·cases h4
    ·cases h4
   ·have : putLeaf v j x = v := by cases v <;> first | rfl | exact (ho ⟨_, rfl⟩).elim | exact (ht2 ⟨_, rfl⟩).elim
    rwa [this] at hsim
 have here : ∀ s, wslot u = some s → s = t → bare = true → isTup (getS e0 t) = false → (shapeSim (getS e0 t) (wfun u (getS E t)) → shapeSim (getS e0 t) (getS E t)) → getS e0 t = .undef ∨ getS e0 t = getS E t ∨ (bare = true ∧ shapeSim (getS e0 t) (getS E t)) := by
  rintro s h1 rfl hb ht hw
  rcases h.at_ s with h3 | h3
  ·exact .inl h3
  ·have hsim : shapeSim (getS e0 s) (getS (apply1 E u) s) := by
    rcases h3 with h3 | h3
    ·exact .inl h3
    ·exact h3.2
   rw [apply1_w h1, getS_set] at hsim
   right; right
   split at hsim
   ·exact ⟨hb, hw hsim⟩
   ·exact ⟨hb, hsim⟩
 cases u with
 | set s v =>
  by_cases he : s = t
  ·subst he; exact .inl hs
  ·exact other s rfl he
 | leaf s j v =>
  by_cases he : s = t
  ·subst he
   rcases hs with hs | ⟨hb, ht⟩
   ·exact .inl hs
   ·exact here s rfl rfl hb ht fun h => back ht h
  ·exact other s rfl he
 | rows l rs =>
  by_cases he : l.slot = t
  ·subst he
   rcases hs with hs | ⟨hb, ht, hl⟩
   ·exact .inl hs
   ·refine here _ rfl rfl hb ht fun h => ?_
    simp only [wfun, modV] at h
    cases hlf : l.leaf with
    | none =>
     simp only [hlf] at h
     by_cases ho : ∃ ts old, getS E l.slot = .own ts old
     ·obtain ⟨ts, old, ho⟩ := ho
      rw [ho] at h ⊢
      have h5 := hl hlf ts old ho
      exact h.trans (.inr (.inl ⟨ts, rs, old, rfl, rfl, h5.symm⟩))
     ·have : putRows (getS E l.slot) rs = getS E l.slot := by
       cases hg : getS E l.slot <;> first | rfl | exact (ho ⟨_, _, hg⟩).elim
      rwa [this] at h
    | some j => simp only [hlf] at h; exact back ht h
  ·exact other _ rfl he
 | kill q =>
  have h1 := h.at_ t
  rw [apply1_kill, getS_kill] at h1
  have hole := hh t
  by_cases hu : getS e0 t = .undef
  ·exact .inl hu
  ·right
   rcases h1 with h1 | h1 | ⟨hb, h1⟩
   ·exact (hu h1).elim
   ·left
    rw [h1] at hole hu ⊢
    exact killV_hole hu hole
   ·right
    refine ⟨hb, ?_⟩
    rcases h1 with h2 | ⟨ts, r, r', h2, h3, h4⟩ | ⟨r, r', h2, h3, h4⟩
    ·rw [h2] at hole hu ⊢
     rw [killV_hole hu hole]
     exact .inl rfl
    ·exact .inr (.inl ⟨ts, r, r', h2, killV_own h3, h4⟩)
    ·exact .inr (.inr ⟨r, r', h2, killV_obj h3, h4⟩)
theorem look_fwdL {bare : Bool} {e0 : Env} : ∀ {us : List Upd} {E : Env}, Look bare e0 E → SparesL bare e0 E us → Look bare e0 (applyU us E)
 | [], E, h, _ => h
 | u :: us, E, h, hs => look_fwdL (us := us) (E := apply1 E u) (look_fwd h hs.1) hs.2
theorem look_backL {bare : Bool} {e0 : Env} (hh : ∀ t, noHole (getS e0 t) = true) : ∀ {us : List Upd} {E : Env}, Look bare e0 (applyU us E) → SparesL bare e0 E us → Look bare e0 E
 | [], E, h, _ => h
 | u :: us, E, h, hs => look_back hh (look_backL hh h hs.2) hs.1
/-- - -/
structure Sep (a b : St) : Prop where
 turn : ∀ t ∈ turnsOf a.store a.us, getS b.e0 t = .undef
 fill : ∀ t ∈ fillsOf a.store a.us, getS b.e0 t = .undef ∨ (b.bare = true ∧ isTup (getS b.e0 t) = false)
 kill : ∀ q ∈ killsOf a.us, (∀ t, ∀ l ∈ mentsV (getS b.e0 t), q.hits l = false) ∧ ∀ l ∈ layOf b.us, q.hits l = false
structure Ap (a b : St) : Prop where
 ab : Sep a b
 ba : Sep b a
 disj : ∀ t, t ∈ turnsOf a.store a.us ∨ t ∈ fillsOf a.store a.us → t ∉ turnsOf b.store b.us ∧ t ∉ fillsOf b.store b.us
theorem spares_of {bare : Bool} {e0 : Env} {st : Bool} : ∀ {us : List Upd} {E : Env}, (∀ t ∈ turnsOf st us, getS e0 t = .undef) → (∀ t ∈ fillsOf st us, getS e0 t = .undef ∨ (bare = true ∧ isTup (getS e0 t) = false)) →
  (∀ q ∈ killsOf us, ∀ t, ∀ l ∈ mentsV (getS e0 t), q.hits l = false) → (st = true → RowsLen us E) → SparesL bare e0 E us
 | [], E, _, _, _, _ => trivial
 | u :: us, E, h1, h2, h3, h4 => by
  have hr : st = true → RowsLen us (apply1 E u) := fun hs us' l rs us'' e => h4 hs (u :: us') l rs us'' (by rw [e]; rfl)
  cases u with
  | set t v => exact ⟨h1 t (by simp [turnsOf]), spares_of (fun t h => h1 t (by simp [turnsOf, h])) (fun t h => h2 t (by simp [fillsOf, h])) (fun q h => h3 q (by simp [killsOf, h])) hr⟩
  | leaf t j v => exact ⟨h2 t (by simp [fillsOf]), spares_of (fun t h => h1 t (by simp [turnsOf, h])) (fun t h => h2 t (by simp [fillsOf, h])) (fun q h => h3 q (by simp [killsOf, h])) hr⟩
  | rows l rs =>
   cases st with
   | false => exact ⟨.inl (h1 _ (by simp [turnsOf])), spares_of (fun t h => h1 t (by simp [turnsOf, h])) (fun t h => h2 t (by simp [fillsOf, h])) (fun q h => h3 q (by simp [killsOf, h])) hr⟩
   | true =>
    refine ⟨?_, spares_of (fun t h => h1 t (by simp [turnsOf, h])) (fun t h => h2 t (by simp [fillsOf, h])) (fun q h => h3 q (by simp [killsOf, h])) hr⟩
    rcases h2 l.slot (by simp [fillsOf]) with h | h
    ·exact .inl h
    ·exact .inr ⟨h.1, h.2, fun hl ts old ho => h4 rfl [] l rs us rfl hl ts old ho⟩
  | kill q => exact ⟨h3 q (by simp [killsOf]), spares_of (fun t h => h1 t (by simp [turnsOf, h])) (fun t h => h2 t (by simp [fillsOf, h])) (fun q h => h3 q (by simp [killsOf, h])) hr⟩
theorem wslot_in {st : Bool} {u : Upd} {s : Nat} (hs : wslot u = some s) : ∀ {us : List Upd}, u ∈ us → s ∈ turnsOf st us ∨ s ∈ fillsOf st us
 | [], h => by cases h
 | v :: us, h => by
  rcases List.mem_cons.1 h with rfl | h
  ·cases u with
   | set t v => cases hs; exact .inl (by simp [turnsOf])
   | leaf t j v => cases hs; exact .inr (by simp [fillsOf])
   | rows l rs => cases hs; cases st with
    | false => exact .inl (by simp [turnsOf])
    | true => exact .inr (by simp [fillsOf])
   | kill q => cases hs
  ·have ih := wslot_in hs h (st := st)
   cases v <;> cases st <;> simp only [turnsOf, fillsOf, cond_true, cond_false, List.mem_cons] <;> first
    | exact ih
    | exact ih.imp .inr id
    | exact ih.imp id .inr
theorem lay_in {u : Upd} {l : Loc} (hl : l ∈ layOf [u]) : ∀ {us : List Upd}, u ∈ us → l ∈ layOf us
 | [], h => by cases h
 | v :: us, h => by
  rcases List.mem_cons.1 h with rfl | h
  ·cases u <;> simp [layOf] at hl ⊢ <;> exact .inl hl
  ·have ih := lay_in hl h
   cases v <;> simp only [layOf, List.mem_append] <;> first | exact ih | exact .inr ih
theorem kill_in {q : KQ} : ∀ {us : List Upd}, Upd.kill q ∈ us → q ∈ killsOf us
 | [], h => by cases h
 | v :: us, h => by
  rcases List.mem_cons.1 h with h | h
  ·subst h; simp [killsOf]
  ·have ih := kill_in h
   cases v <;> simp only [killsOf, List.mem_cons] <;> first | exact ih | exact .inr ih
theorem Ap.free {a b : St} (h : Ap a b) : ∀ u ∈ a.us, ∀ v ∈ b.us, Free2 u v := by
 intro u hu v hv
 refine ⟨fun s t h1 h2 he => ?_, fun q hq l hl => ?_, fun q hq l hl => ?_⟩
 ·subst he
  have h3 := h.disj s (wslot_in h1 hu)
  rcases wslot_in (st := b.store) h2 hv with h4 | h4
  ·exact h3.1 h4
  ·exact h3.2 h4
 ·subst hq
  exact (h.ab.kill q (kill_in hu)).2 l (lay_in hl hv)
 ·subst hq
  exact (h.ba.kill q (kill_in hv)).2 l (lay_in hl hu)
/-- - -/
theorem swap2 {a b : St} {E : Env} (h : Ap a b) (hb : ∀ t, noHole (getS b.e0 t) = true) (ra : a.store = true → ∀ E, Look a.bare a.e0 E → RowsLen a.us E) (rb : b.store = true → ∀ E, Look b.bare b.e0 E → RowsLen b.us E)
  (va : Look a.bare a.e0 E) (vb : Look b.bare b.e0 (applyU a.us E)) :
  Look b.bare b.e0 E ∧ Look a.bare a.e0 (applyU b.us E) ∧ applyU a.us (applyU b.us E) = applyU b.us (applyU a.us E) := by
 have v1 := look_backL hb vb (spares_of h.ab.turn h.ab.fill (fun q hq => (h.ab.kill q hq).1) fun hs => ra hs E va)
 have v2 := look_fwdL va (spares_of h.ba.turn h.ba.fill (fun q hq => (h.ba.kill q hq).1) fun hs => rb hs E v1)
 exact ⟨v1, v2, (comm_nn h.free).symm⟩
end Go.Abs
end
section
set_option linter.unusedVariables false
set_option linter.unusedSimpArgs false
set_option linter.unusedSectionVars false
namespace Go.Abs
open Go
variable [Globs]

/-! ### who looks at shapes alone -/
def EnvFree {α : Type} (m : M α) : Prop := ∀ e e' : Env, m e = m e'
def BareM {α : Type} (m : M α) : Prop := ∀ e0 E r, Look true e0 E → m e0 = some r → m E = some r
def Still {α : Type} (m : M α) : Prop := ∀ e cs us a, m e = some (cs, us, a) → us = []
section
variable {α β : Type}
theorem ef_bind {m : M α} {f : α → M β} (h : EnvFree m) (hf : ∀ a, EnvFree (f a)) : EnvFree (m >>= f) := by
 intro e e'
 show M.bind m f e = M.bind m f e'
 unfold M.bind
 rw [h e e']
 cases m e' with
 | none => rfl
 | some r =>
  obtain ⟨cs, us, a⟩ := r
  simp only
  rw [hf a (applyU us e) (applyU us e')]
theorem ef_pure (a : α) : EnvFree (pure a : M α) := fun _ _ => rfl
theorem ef_bad (s : String) : EnvFree (bad s : M α) := fun _ _ => rfl
theorem ef_opt (x : Option α) : EnvFree (opt x) := fun _ _ => rfl
theorem ef_chk (b : Bool) : EnvFree (chk b) := fun _ _ => rfl
theorem ef_upd (us : List Upd) : EnvFree (upd us) := fun _ _ => rfl
theorem ef_cond {c : Bool} {a b : M α} (ha : EnvFree a) (hb : EnvFree b) : EnvFree (bif c then a else b) := by cases c <;> assumption
theorem ef_put (t : Nat) (v : V) : EnvFree (put t v) := ef_cond (ef_bad _) (ef_upd _)
theorem ef_putD (d : Option Tmp) (v : V) : EnvFree (putD d v) := by unfold putD; split; exact ef_put _ _; exact ef_upd _
theorem EnvFree.bare {m : M α} (h : EnvFree m) : BareM m := fun e0 E r _ hr => by rw [h E e0]; exact hr
theorem bare_bind {m : M α} {f : α → M β} (hm : BareM m) (hs : Still m) (hf : ∀ a, BareM (f a)) : BareM (m >>= f) := by
 intro e0 E r hl h
 obtain ⟨cs, us, b⟩ := r
 obtain ⟨c1, u1, a, c2, u2, h1, h2, rfl, rfl⟩ := bind_inv h
 have := hs _ _ _ _ h1
 subst this
 have h3 := hm e0 E _ hl h1
 have h4 := hf a _ _ _ hl h2
 show M.bind m f E = _
 unfold M.bind
 rw [h3]
 simp only
 rw [show applyU [] E = E from rfl, h4]
theorem still_opt (x : Option α) : Still (opt x) := fun e cs us a h => (opt_inv h).2.1
theorem still_pure (a : α) : Still (pure a : M α) := fun e cs us a h => (pure_inv h).2.1
theorem still_chk (b : Bool) : Still (chk b) := fun e cs us a h => (chk_inv h).2
theorem still_bad (s : String) : Still (bad s : M α) := fun e cs us a h => (bad_inv (env := e) h).elim
theorem still_bind' {m : M α} {f : α → M β} (hm : Still m) (hf : ∀ a, Still (f a)) : Still (m >>= f) := by
 intro e cs us b h
 obtain ⟨c1, u1, a, c2, u2, h1, h2, rfl, rfl⟩ := bind_inv h
 rw [hm _ _ _ _ h1, hf _ _ _ _ _ h2]
 rfl
theorem still_rd (x : Operand) : Still (rd x) := fun e cs us a h => (rd_still h).2
theorem still_raw (x : Operand) : Still (raw x) := fun e cs us a h => (raw_still h).2
end
theorem raw_sim {e0 E : Env} (hl : Look true e0 E) {x : Operand} {cs : List Bool} {us : List Upd} {v : V} (h : raw x e0 = some (cs, us, v)) : ∃ v', raw x E = some (cs, us, v') ∧ shapeSim v v' ∧ ((∀ t, x ≠ .tmp t) → v' = v) := by
 cases x with
 | tmp t =>
  obtain ⟨rfl, rfl, rfl, hv⟩ := slotM_inv h
  have hs : shapeSim (getS e0 t) (getS E t) := by
   rcases hl.at_ t with h1 | h1 | h1
   ·exact (hv h1).elim
   ·exact .inl h1
   ·exact h1.2
  refine ⟨getS E t, ?_, hs, fun h => (h t rfl).elim⟩
  have hne : isUndef (getS E t) = false := by
   rcases hs with h1 | ⟨_, _, _, _, h1, _⟩ | ⟨_, _, _, h1, _⟩
   ·rw [← h1]; revert hv; cases getS e0 t <;> simp [isUndef]
   ·rw [h1]; rfl
   ·rw [h1]; rfl
  simp only [raw, slotM, hne]
  rfl
 | const c =>
  refine ⟨v, ?_, .inl rfl, fun _ => rfl⟩
  rw [← h]
  cases c <;> rfl
 | global g =>
  refine ⟨v, ?_, .inl rfl, fun _ => rfl⟩
  rw [← h]
  simp only [raw]
  cases Globs.view g <;> rfl
 | func f => exact ⟨v, h, .inl rfl, fun _ => rfl⟩
theorem alias_sim {t : Nat} {v v' : V} (h : shapeSim v v') : aliasV t v' = aliasV t v := by
 rcases h with rfl | ⟨ts, r, r', rfl, rfl, hl⟩ | ⟨r, r', rfl, rfl, _⟩
 ·rfl
 ·simp only [aliasV, hl, mx]
 ·rfl
theorem bare_rd (x : Operand) : BareM (rd x) := by
 intro e0 E r hl h
 obtain ⟨cs, us, v⟩ := r
 cases x with
 | tmp t =>
  obtain ⟨c1, u1, y, c2, u2, h1, h2, rfl, rfl⟩ := bind_inv h
  obtain ⟨v', h3, h4, _⟩ := raw_sim hl (x := .tmp t) h1
  obtain ⟨rfl, rfl, _⟩ := slotM_inv h1
  obtain ⟨rfl, rfl, rfl⟩ := pure_inv h2
  show M.bind (slotM t) (fun v => pure (aliasV t v)) E = _
  unfold M.bind
  have h5 : slotM t E = some ([], [], v') := h3
  rw [h5]
  simp only
  rw [alias_sim h4]
  rfl
 | const c => rw [← h]; cases c <;> rfl
 | global g =>
  rw [← h]
  show raw (.global g) E = raw (.global g) e0
  simp only [raw]
  cases Globs.view g <;> rfl
 | func f => exact h
theorem bare_int {β : Type} (x : Operand) {g : V → M β} (hg : ∀ v, BareM (g v)) (hn : ∀ v e, asI v = none → g v e = none) : BareM (raw x >>= g) := by
 intro e0 E r hl h
 obtain ⟨cs, us, b⟩ := r
 obtain ⟨v, h1, h2⟩ := raw_bind h
 obtain ⟨v', h3, h4, _⟩ := raw_sim hl h1
 have hv : v' = v := by
  rcases h4 with h5 | ⟨_, _, _, rfl, _⟩ | ⟨_, _, rfl, _⟩
  ·exact h5.symm
  ·rw [hn _ _ rfl] at h2; cases h2
  ·rw [hn _ _ rfl] at h2; cases h2
 subst hv
 show M.bind (raw x) g E = _
 unfold M.bind
 rw [h3]
 simp only
 rw [show applyU [] E = E from rfl, hg _ _ _ _ hl h2]
 rfl
theorem opt_none_bind {α β : Type} {x : Option α} (hx : x = none) (f : α → M β) (e : Env) : (opt x >>= f) e = none := by subst hx; rfl
theorem bare_bound (x : Option Operand) (d top : Nat) : BareM (bound x d top) := by
 unfold bound
 split
 ·exact (ef_pure _).bare
 ·exact bare_int _ (fun v => (ef_bind (ef_opt _) fun _ => ef_bind (ef_chk _) fun _ => ef_pure _).bare) fun v e hv => opt_none_bind hv _ _
theorem still_bound (x : Option Operand) (d top : Nat) : Still (bound x d top) := by
 unfold bound
 split
 ·exact still_pure _
 ·exact still_bind' (still_raw _) fun v => still_bind' (still_opt _) fun _ => still_bind' (still_chk _) fun _ => still_pure _
theorem still_noMax (mx : Option Operand) : Still (noMax mx) := by unfold noMax; split; exact still_pure _; exact still_bad _
theorem still_sameK (a b : Nat) : Still (sameK a b) := by unfold sameK; split; exact still_pure _; exact still_bad _
theorem ef_noMax (mx : Option Operand) : EnvFree (noMax mx) := by unfold noMax; split; exact ef_pure _; exact ef_bad _
theorem ef_sameK (a b : Nat) : EnvFree (sameK a b) := by unfold sameK; split; exact ef_pure _; exact ef_bad _
theorem bare_sliceV (k : Option Nat) (x : V) (lo hi mx : Option Operand) : BareM (sliceV k x lo hi mx) ∧ Still (sliceV k x lo hi mx) := by
 unfold sliceV
 cases isNone3 lo hi mx
 rotate_left
 ·simp only [cond_true]
  unfold sliceN
  split <;> first | exact ⟨(ef_bad _).bare, still_bad _⟩ | (split; exact ⟨(ef_bad _).bare, still_bad _⟩; exact ⟨(ef_pure _).bare, still_pure _⟩)
 simp only [cond_false]
 split <;> first
  | exact ⟨(ef_bad _).bare, still_bad _⟩
  | exact ⟨bare_bind (ef_noMax _).bare (still_noMax _) fun _ => bare_bind (ef_sameK _ _).bare (still_sameK _ _) fun _ => bare_bind (bare_bound _ _ _) (still_bound _ _ _) fun _ => bare_bind (bare_bound _ _ _) (still_bound _ _ _) fun _ => (ef_pure _).bare,
    still_bind' (still_noMax _) fun _ => still_bind' (still_sameK _ _) fun _ => still_bind' (still_bound _ _ _) fun _ => still_bind' (still_bound _ _ _) fun _ => still_pure _⟩
  | exact ⟨bare_bind (ef_noMax _).bare (still_noMax _) fun _ => bare_bind (bare_bound _ _ _) (still_bound _ _ _) fun _ => bare_bind (bare_bound _ _ _) (still_bound _ _ _) fun _ => (ef_pure _).bare,
    still_bind' (still_noMax _) fun _ => still_bind' (still_bound _ _ _) fun _ => still_bind' (still_bound _ _ _) fun _ => still_pure _⟩
theorem ef_indexAddrV (P : Program) (t : TypeId) (x i : V) : EnvFree (indexAddrV P t x i) := by
 unfold indexAddrV
 refine ef_bind (ef_opt _) fun n => ?_
 split
 ·refine ef_bind (ef_opt _) fun k => ?_
  split <;> first
   | exact ef_bad _
   | exact ef_bind (ef_sameK _ _) fun _ => ef_bind (ef_chk _) fun _ => ef_pure _
 ·refine ef_bind (ef_opt _) fun k => ef_bind (ef_chk _) fun _ => ?_
  split <;> first | exact ef_bad _ | exact ef_pure _ | exact ef_cond (ef_pure _) (ef_pure _)
 ·exact ef_bad _
theorem bare_raw {β : Type} {x : Operand} {f : V → M β} (hs : ∀ v v', shapeSim v v' → ((∀ t, x ≠ .tmp t) → v' = v) → f v' = f v) (hf : ∀ v, EnvFree (f v)) : BareM (raw x >>= f) := by
 intro e0 E r hl h
 obtain ⟨cs, us, b⟩ := r
 obtain ⟨v, h1, h2⟩ := raw_bind h
 obtain ⟨v', h3, h4, h5⟩ := raw_sim hl h1
 show M.bind (raw x) f E = _
 unfold M.bind
 rw [h3]
 simp only [show applyU [] E = E from rfl]
 rw [hs v v' h4 h5, hf v E e0, h2]
 rfl
theorem bare_moveM (x : Operand) (d : Option Tmp) : BareM (moveM x d) := by
 refine bare_raw (fun v v' h4 h5 => ?_) fun v => ?_
 ·by_cases hx : ∃ t, x = .tmp t
  ·obtain ⟨t, rfl⟩ := hx
   rcases h4 with rfl | ⟨ts, r, r', rfl, rfl, hl'⟩ | ⟨r, r', rfl, rfl, hl'⟩
   ·rfl
   ·simp only [aliasV, hl', mx]
   ·rfl
  ·rw [h5 fun t e => hx ⟨t, e⟩]
 ·split
  ·exact ef_bind (ef_upd _) fun _ => ef_putD _ _
  ·exact ef_bind (ef_cond (ef_upd _) (ef_pure _)) fun _ => ef_putD _ _
  ·exact ef_cond (ef_putD _ _) (ef_bad _)
  ·exact ef_putD _ _
  ·exact ef_putD _ _
theorem bare_opM (P : Program) (H : Hints) (me : FuncId) (o : Oper) (hb : bareOp o.op = true) : BareM (opM P H me o) := by
 unfold opM
 cases ho : o.op <;> rw [ho] at hb <;> try cases hb
 ·exact bare_moveM _ _
 ·refine bare_bind (bare_rd _) (still_rd _) fun v => ?_
  split; exact (ef_putD _ _).bare; exact (ef_bad _).bare
 ·exact bare_bind (ef_opt _).bare (still_opt _) fun _ => bare_bind (bare_rd _) (still_rd _) fun _ => bare_bind (bare_sliceV _ _ _ _ _).1 (bare_sliceV _ _ _ _ _).2 fun _ => (ef_putD _ _).bare
 ·refine bare_bind (ef_opt _).bare (still_opt _) fun y => ?_
  obtain ⟨off, ft⟩ := y
  simp only
  split
  ·exact (ef_bad _).bare
  ·exact bare_bind (bare_rd _) (still_rd _) fun _ => (ef_bind (ef_opt _) fun _ => ef_putD _ _).bare
 ·refine bare_bind (bare_rd _) (still_rd _) fun a => bare_int _ (fun v => (ef_bind (ef_indexAddrV _ _ _ _) fun _ => ef_putD _ _).bare) fun v e hv => ?_
  have hnone : ∀ t, indexAddrV P t a v e = none := fun t => by unfold indexAddrV; exact opt_none_bind hv _ _
  show M.bind (indexAddrV P _ a v) _ e = none
  unfold M.bind
  rw [hnone]
end Go.Abs
end
section
set_option linter.unusedVariables false
set_option linter.unusedSimpArgs false
set_option linter.unusedSectionVars false
namespace Go.Abs
open Go
variable [Globs]

/-! ### the orders of a region -/
def befStep (acc : Array Nat) (o : Oper) : Array Nat := acc.push (o.after.foldl (fun s e => if Region.binds .any e then s ||| 2 ^ e.on ||| acc.getD e.on 0 else s) 0)
theorem bits_fold {acc : Array Nat} {a : Nat} : ∀ {es : List Edge} {s : Nat}, (es.foldl (fun s e => if Region.binds .any e then s ||| 2 ^ e.on ||| acc.getD e.on 0 else s) s).testBit a = true →
  s.testBit a = true ∨ ∃ e ∈ es, Region.binds .any e = true ∧ (a = e.on ∨ (acc.getD e.on 0).testBit a = true)
 | [], s, h => .inl h
 | e :: es, s, h => by
  simp only [List.foldl_cons] at h
  rcases bits_fold h with h1 | ⟨e', h1, h2⟩
  ·split at h1
   ·rename_i hb
    simp only [Nat.testBit_or, Bool.or_eq_true, Nat.testBit_two_pow, decide_eq_true_eq] at h1
    rcases h1 with (h1 | h1) | h1
    ·exact .inl h1
    ·exact .inr ⟨e, List.mem_cons_self, hb, .inl h1.symm⟩
    ·exact .inr ⟨e, List.mem_cons_self, hb, .inr h1⟩
   ·exact .inl h1
  ·exact .inr ⟨e', List.mem_cons_of_mem _ h1, h2⟩
theorem bef_list : ∀ (os : List Oper) (acc : Array Nat), (os.foldl befStep acc).size = acc.size + os.length ∧ (∀ j, j < acc.size → (os.foldl befStep acc).getD j 0 = acc.getD j 0) ∧
  ∀ k o, os[k]? = some o → ∀ a, ((os.foldl befStep acc).getD (acc.size + k) 0).testBit a = true → ∃ e ∈ o.after, Region.binds .any e = true ∧ (a = e.on ∨ ((os.foldl befStep acc).getD e.on 0).testBit a = true)
 | [], acc => ⟨rfl, fun _ _ => rfl, fun k o e => by simp at e⟩
 | o :: os, acc => by
  obtain ⟨h1, h2, h3⟩ := bef_list os (befStep acc o)
  have hs : (befStep acc o).size = acc.size + 1 := by simp [befStep]
  have hp : ∀ j, j < acc.size → (befStep acc o).getD j 0 = acc.getD j 0 := by
   intro j hj
   unfold befStep
   rw [Array.getD_eq_getD_getElem?, Array.getD_eq_getD_getElem?, Array.getElem?_push, if_neg (by omega)]
  simp only [List.foldl_cons]
  refine ⟨by rw [h1, hs, List.length_cons]; omega, fun j hj => by rw [h2 j (by omega), hp j hj], fun k o' e a ha => ?_⟩
  cases k with
  | zero =>
   simp at e
   subst e
   rw [Nat.add_zero, h2 _ (by omega)] at ha
   have hv : (befStep acc o).getD acc.size 0 = o.after.foldl (fun s e => if Region.binds .any e then s ||| 2 ^ e.on ||| acc.getD e.on 0 else s) 0 := by
    unfold befStep
    rw [Array.getD_eq_getD_getElem?, Array.getElem?_push, if_pos rfl]
    rfl
   rw [hv, ← Array.foldl_toList] at ha
   rcases bits_fold ha with h4 | ⟨e, h4, h5, h6⟩
   ·simp at h4
   ·refine ⟨e, by simpa using h4, h5, h6.imp id fun h6 => ?_⟩
    have hlt : e.on < acc.size := by
     rcases Nat.lt_or_ge e.on acc.size with h | h
     ·exact h
     ·rw [Array.getD_eq_getD_getElem?, Array.getElem?_eq_none h] at h6
      simp at h6
    rw [h2 _ (by omega), hp _ hlt]
    exact h6
  | succ k =>
   refine h3 k o' (by simpa using e) a ?_
   rw [hs, show acc.size + 1 + k = acc.size + (k + 1) by omega]
   exact ha
theorem bef_spec {all : Array Oper} {i : Nat} {o : Oper} (ho : all[i]? = some o) {a : Nat} (h : ((Region.before all).getD i 0).testBit a = true) : ∃ e ∈ o.after, Region.binds .any e = true ∧ (a = e.on ∨ ((Region.before all).getD e.on 0).testBit a = true) := by
 have hb : Region.before all = all.toList.foldl befStep #[] := by
  unfold Region.before
  rw [← Array.foldl_toList]
  rfl
 rw [hb] at h ⊢
 have := (bef_list all.toList #[]).2.2 i o (by simpa using ho) a (by simpa using h)
 exact this
theorem edges_spec : ∀ {os : List Oper} {i : Nat}, edgesOk i os = true → ∀ k o, os[k]? = some o → ∀ e ∈ o.after, Region.binds .any e = true → e.on < i + k
 | [], i, h, k, o, ho, e, he, hb => by simp at ho
 | o :: os, i, h, k, o', ho, e, he, hb => by
  simp only [edgesOk, Bool.and_eq_true, List.all_eq_true] at h
  cases k with
  | zero =>
   simp at ho
   subst ho
   have := h.1 e (by simpa using he)
   simp only [hb, Bool.not_true, Bool.false_or] at this
   rw [Nat.blt_eq] at this
   simpa using this
  | succ k =>
   have := edges_spec h.2 k o' (by simpa using ho) e he hb
   omega

def Seq : List St → Env → Env → Prop
 | [], E, Ef => Ef = E
 | s :: ss, E, Ef => Look s.bare s.e0 E ∧ Seq ss (applyU s.us E) Ef
structure Good (P : Program) (n : Nat) (all : Array Oper) (s : St) : Prop where
 op : all[s.i]? = some s.o
 hole : ∀ t, noHole (getS s.e0 t) = true
 rows : s.store = true → ∀ E, Look s.bare s.e0 E → RowsLen s.us E
 can : ∀ E, n ≤ E.length → Look s.bare s.e0 E → DoesW P n all s.i s.o E (applyU s.us E)
section
variable {A : Nat → Prop} {hz hb : GH} {O : OM} {P : Program} {n : Nat} {all : Array Oper}
theorem seq_bubble {x : St} {l2 : List St} (gx : Good P n all x) : ∀ {l1 : List St} {E Ef : Env}, Seq (l1 ++ x :: l2) E Ef → (∀ y ∈ l1, Good P n all y) → (∀ y ∈ l1, Ap y x) → Look x.bare x.e0 E ∧ Seq (l1 ++ l2) (applyU x.us E) Ef
 | [], E, Ef, h, _, _ => h
 | y :: l1, E, Ef, h, hg, ha => by
  obtain ⟨h1, h2⟩ := h
  obtain ⟨h3, h4⟩ := seq_bubble gx h2 (fun z hz => hg z (List.mem_cons_of_mem _ hz)) (fun z hz => ha z (List.mem_cons_of_mem _ hz))
  obtain ⟨h5, h6, h7⟩ := swap2 (ha y List.mem_cons_self) gx.hole (hg y List.mem_cons_self).rows gx.rows h1 h3
  refine ⟨h5, h6, ?_⟩
  rw [h7]
  exact h4
theorem pair_mid {R : St → St → Prop} {l1 l2 : List St} {x : St} (h : (l1 ++ x :: l2).Pairwise R) : (∀ y ∈ l1, R y x) ∧ (l1 ++ l2).Pairwise R := by
 rw [List.pairwise_append] at h
 obtain ⟨h1, h2, h3⟩ := h
 rw [List.pairwise_cons] at h2
 refine ⟨fun y hy => h3 y hy x List.mem_cons_self, ?_⟩
 rw [List.pairwise_append]
 exact ⟨h1, h2.2, fun a ha b hb => h3 a ha b (List.mem_cons_of_mem _ hb)⟩
theorem any_ok {Ef : Env} {hid : Nat → Value} {ds : List Deferred} {Q : Exit → Act → World → Prop} (hedge : ∀ i o, all[i]? = some o → ∀ e ∈ o.after, Region.binds .any e = true → e.on < i) :
  ∀ (fuel : Nat) (L : List St) (listed : Array Bool) (E : Env) (hz hb : GH) (O : OM) (a : Act) (w : World), L.length ≤ fuel → (∀ s ∈ L, Good P n all s) → Seq L E Ef →
   L.Pairwise (fun y z => y.i < z.i ∧ (((Region.before all).getD z.i 0).testBit y.i = true ∨ Ap y z)) → listed.size = all.size → (∀ i, listed.getD i true = false ↔ ∃ s ∈ L, s.i = i) →
   (∀ b, listed.getD b false = true → ∀ c, ((Region.before all).getD b 0).testBit c = true → listed.getD c false = true) → n ≤ E.length → a.tmps.size = n → a.defers = ds → Inv A hz hb O E (tmA a hid) w → FutA A hz hb Ef n ds hid w (Q .normal) →
   wpAny P .any all Q fuel listed a w := by
 have notBoth : ∀ {listed : Array Bool} {i : Nat}, listed.getD i false = true → listed.getD i true = false → False := by
  intro listed i h1 h2
  rcases Nat.lt_or_ge i listed.size with h | h
  ·rw [Array.getD_eq_getD_getElem?, Array.getElem?_eq_getElem h] at h1 h2
   simp only [Option.getD_some] at h1 h2
   rw [h1] at h2
   cases h2
  ·rw [Array.getD_eq_getD_getElem?, Array.getElem?_eq_none h] at h2
   simp at h2
 have either : ∀ {listed : Array Bool} {i : Nat}, i < listed.size → listed.getD i true ≠ false → listed.getD i false = true := by
  intro listed i h h2
  rw [Array.getD_eq_getD_getElem?, Array.getElem?_eq_getElem h] at h2 ⊢
  simp only [Option.getD_some] at h2 ⊢
  simpa using h2
 have notReady : ∀ {L : List St} {listed : Array Bool}, listed.size = all.size → (∀ i, listed.getD i true = false ↔ ∃ s ∈ L, s.i = i) → (∀ s ∈ L, Good P n all s) → L.Pairwise (fun y z => y.i < z.i ∧ (((Region.before all).getD z.i 0).testBit y.i = true ∨ Ap y z)) → Region.ready .any all listed = [] → L = [] := by
  intro L listed hs hl hg hp hr
  cases L with
  | nil => rfl
  | cons s L =>
   exfalso
   have : s.i ∈ Region.ready .any all listed := by
    rw [mem_ready]
    refine ⟨(hl s.i).2 ⟨s, List.mem_cons_self, rfl⟩, s.o, (hg s List.mem_cons_self).op, fun e he hb => ?_⟩
    have hlt := hedge _ _ (hg s List.mem_cons_self).op e he hb
    have hsz := (Array.getElem?_eq_some_iff.1 (hg s List.mem_cons_self).op).1
    refine either (by omega) fun h => ?_
    obtain ⟨s', h1, h2⟩ := (hl e.on).1 h
    rcases List.mem_cons.1 h1 with rfl | h1
    ·omega
    ·have := (List.pairwise_cons.1 hp).1 s' h1
     omega
   rw [hr] at this
   cases this
 intro fuel
 induction fuel with
 | zero =>
  intro L listed E hz hb O a w hf hg hseq hp hs hl hc hn ha hd I hfut
  have hL : L = [] := List.eq_nil_of_length_eq_zero (by omega)
  subst hL
  refine ⟨?_, ?_⟩
  ·cases hr : Region.ready .any all listed with
   | nil => rfl
   | cons j js =>
    have hj : j ∈ Region.ready .any all listed := by rw [hr]; exact List.mem_cons_self
    obtain ⟨h1, _⟩ := mem_ready.1 hj
    obtain ⟨s, h2, _⟩ := (hl j).1 h1
    cases h2
  ·have : Ef = E := hseq
   subst this
   exact hfut a w hz hb O (FzExt.refl _ _ _) I (Side.refl _) ha hd
 | succ fuel ih =>
  intro L listed E hz hb O a w hf hg hseq hp hs hl hc hn ha hd I hfut
  refine ⟨fun hr => ?_, fun j hj => ?_⟩
  ·have hL := notReady hs hl hg hp hr
   subst hL
   have : Ef = E := hseq
   subst this
   exact hfut a w hz hb O (FzExt.refl _ _ _) I (Side.refl _) ha hd
  ·obtain ⟨h1, o, ho, hall⟩ := mem_ready.1 hj
   obtain ⟨x, hx, hxi⟩ := (hl j).1 h1
   subst hxi
   obtain ⟨l1, l2, rfl⟩ := List.append_of_mem hx
   have gx := hg x hx
   have hox : o = x.o := by
    have := gx.op
    rw [ho] at this
    exact Option.some.inj this
   subst hox
   obtain ⟨hp1, hp2⟩ := pair_mid hp
   have hap : ∀ y ∈ l1, Ap y x := by
    intro y hy
    rcases (hp1 y hy).2 with h2 | h2
    ·exfalso
     have hy1 : listed.getD y.i true = false := (hl y.i).2 ⟨y, by simp [hy], rfl⟩
     obtain ⟨e, he, hb', h3⟩ := bef_spec ho h2
     have h4 := hall e he hb'
     rcases h3 with h3 | h3
     ·rw [← h3] at h4; exact notBoth h4 hy1
     ·exact notBoth (hc e.on h4 y.i h3) hy1
    ·exact h2
   obtain ⟨hlook, hseq2⟩ := seq_bubble gx hseq (fun y hy => hg y (by simp [hy])) hap
   refine gx.can E hn hlook A hz hb O a hid w _ Q ha I fun c w1 hz1 hb1 O1 e1 I1 s1 => ?_
   have hdis : ∀ s ∈ l1 ++ l2, s.i ≠ x.i := by
    intro s hsm
    rw [List.pairwise_append, List.pairwise_cons] at hp
    rcases List.mem_append.1 hsm with h2 | h2
    ·have := (hp.2.2 s h2 x List.mem_cons_self).1; omega
    ·have := (hp.2.1.1 s h2).1; omega
   refine ih (l1 ++ l2) (listed.setIfInBounds x.i true) (applyU x.us E) hz1 hb1 O1 _ w1 (by simp at hf ⊢; omega) (fun s hsm => hg s (by
     rcases List.mem_append.1 hsm with h2 | h2
     ·simp [h2]
     ·simp [h2])) hseq2 hp2 (by simpa using hs) (fun i => ?_) (fun b hb2 c' hc' => ?_) (by rw [applyU_len]; exact hn) (by rw [put_size]; exact ha) (by rw [put_defers]; exact hd) I1 (fun a' w2 hz2 hb2 O2 e2 I2 s2 h3 h4 => hfut a' w2 hz2 hb2 O2 (e1.trans e2) I2 (s1.trans s2) h3 h4)
   ·by_cases hi : x.i = i
    ·subst hi
     have hlt : x.i < listed.size := by rw [hs]; exact (Array.getElem?_eq_some_iff.1 gx.op).1
     rw [Array.getD_eq_getD_getElem?, Array.getElem?_setIfInBounds_self_of_lt hlt]
     simp only [Option.getD_some, Bool.true_eq_false, false_iff]
     rintro ⟨s, h2, h3⟩
     exact hdis s h2 h3
    ·rw [getD_set_ne true hi, hl i]
     constructor
     ·rintro ⟨s, h2, h3⟩
      refine ⟨s, ?_, h3⟩
      rcases List.mem_append.1 h2 with h4 | h4
      ·simp [h4]
      ·rcases List.mem_cons.1 h4 with rfl | h4
       ·exact (hi h3).elim
       ·simp [h4]
     ·rintro ⟨s, h2, h3⟩
      refine ⟨s, ?_, h3⟩
      rcases List.mem_append.1 h2 with h4 | h4
      ·simp [h4]
      ·simp [h4]
   ·by_cases hbi : x.i = b
    ·subst hbi
     obtain ⟨e, he, hb', h3⟩ := bef_spec ho hc'
     have h4 := hall e he hb'
     rcases h3 with h3 | h3
     ·rw [h3]; exact getD_set_true h4
     ·exact getD_set_true (hc e.on h4 c' h3)
    ·rw [getD_set_ne false hbi] at hb2
     exact getD_set_true (hc b hb2 c' hc')
end
end Go.Abs
end
section
set_option linter.unusedVariables false
set_option linter.unusedSimpArgs false
set_option linter.unusedSectionVars false
namespace Go.Abs
open Go
variable [Globs]
section
variable {A : Nat → Prop} {hz hb : GH} {O : OM} {env env' : Env} {tm : Nat → Value} {w w' : World} {P : Program} {H : Hints} {tbl : Tbl} {me : FuncId} {o : Oper} {cs : List Bool} {us : List Upd} {u : Unit} {n : Nat} {all : Array Oper} {R : Type} {x : R}

theorem getS_restrict (Rs : List Nat) : ∀ (env : Env) (j t : Nat), getS (restrictTo Rs j env) t = if Rs.contains (j + t) then getS env t else .undef
 | [], j, t => by
  have : ∀ t, getS [] t = .undef := fun t => by simp [getS]
  rw [restrictTo, this]
  split <;> rfl
 | v :: vs, j, t => by
  cases t with
  | zero =>
   simp only [restrictTo, getS, List.getD_cons_zero, Nat.add_zero, hasN_eq]
   cases Rs.contains j <;> rfl
  | succ t =>
   have ih := getS_restrict Rs vs (j + 1) t
   simp only [restrictTo, getS, List.getD_cons_succ] at ih ⊢
   rw [ih, show j + 1 + t = j + (t + 1) by omega]
theorem restrict_len (Rs : List Nat) : ∀ (env : Env) (j : Nat), (restrictTo Rs j env).length = env.length
 | [], j => rfl
 | v :: vs, j => by simp [restrictTo, restrict_len Rs vs]
theorem look_restrict (bare : Bool) (Rs : List Nat) (env : Env) : Look bare (restrictTo Rs 0 env) env := by
 refine ⟨restrict_len _ _ _, fun t => ?_⟩
 rw [getS_restrict, Nat.zero_add]
 split
 ·exact .inr (.inl rfl)
 ·exact .inl rfl
/-- - -/
structure FootIs (f : Foot) (s : St) : Prop where
 i : f.i = s.i
 bare : f.bare = s.bare
 reads : ∀ t, getS s.e0 t ≠ .undef → t ∈ f.reads
 turns : f.turns = turnsOf s.store s.us
 fills : f.fills = fillsOf s.store s.us
 kills : f.kills = killsOf s.us
 ments : ∀ t l, l ∈ mentsV (getS s.e0 t) → l ∈ f.ments
 lays : ∀ l ∈ layOf s.us, l ∈ f.ments
 tup : f.bare = true → ∀ t, isTup (getS s.e0 t) = false
theorem foot_ok {i : Nat} {st bare : Bool} {rds : List Nat} {f : Foot} (h : footOf env i st bare rds us = some f) : FootIs f ⟨i, o, restrictTo rds 0 env, st, f.bare, us⟩ ∧ (∀ t, noHole (getS (restrictTo rds 0 env) t) = true) ∧ (f.bare = true → bare = true) := by
 unfold footOf at h
 cases hc : rds.all fun t => noHole (getS env t) with
 | false => rw [hc] at h; cases h
 | true =>
  rw [hc] at h
  cases h
  simp only [List.all_eq_true] at hc
  have vis : ∀ t, getS (restrictTo rds 0 env) t ≠ .undef → t ∈ rds ∧ getS (restrictTo rds 0 env) t = getS env t := by
   intro t ht
   rw [getS_restrict, Nat.zero_add] at ht ⊢
   split at ht
   ·rename_i h1
    exact ⟨by simpa using h1, by rw [if_pos h1]⟩
   ·exact (ht rfl).elim
  have vis2 : ∀ t, getS (restrictTo rds 0 env) t = .undef ∨ (t ∈ rds ∧ getS (restrictTo rds 0 env) t = getS env t) := fun t => (Classical.em _).imp id (vis t)
  refine ⟨⟨rfl, rfl, fun t ht => (vis t ht).1, rfl, rfl, rfl, fun t l hl => ?_, fun l hl => by simp [hl], fun hb t => ?_⟩, fun t => ?_, fun hb => ?_⟩
  ·rcases vis2 t with h1 | ⟨h1, h2⟩
   ·simp only [h1] at hl; simp [mentsV, mentsV1] at hl
   ·simp only [h2] at hl
    simp only [List.mem_append, List.mem_flatMap]
    exact .inl ⟨t, h1, hl⟩
  ·rcases vis2 t with h1 | ⟨h1, h2⟩
   ·simp only [h1]; rfl
   ·simp only [h2]
    simp only [Bool.and_eq_true, List.all_eq_true] at hb
    have := hb.2 t h1
    simpa using this
  ·rcases vis2 t with h1 | ⟨h1, h2⟩
   ·rw [h1]; rfl
   ·rw [h2]; exact hc t h1
  ·simp only [Bool.and_eq_true] at hb
   exact hb.1
theorem disj_out {xs ys : List Nat} (h : disj xs ys = true) {t : Nat} (ht : t ∈ xs) : t ∉ ys := by
 simp only [disj, List.all_eq_true, hasN_eq] at h
 have := h t ht
 simpa using this
theorem noHit_out {qs : List KQ} {ls : List Loc} (h : noHit qs ls = true) {q : KQ} (hq : q ∈ qs) {l : Loc} (hl : l ∈ ls) : q.hits l = false := by
 simp only [noHit, List.all_eq_true] at h
 have := h q hq l hl
 simpa using this
theorem sep_of {fa fb : Foot} {a b : St} (h : oneWay fa fb = true) (ha : FootIs fa a) (hb : FootIs fb b) : Sep a b := by
 simp only [oneWay, Bool.and_eq_true, Bool.or_eq_true] at h
 obtain ⟨⟨h1, h2⟩, h3⟩ := h
 have un : ∀ t, t ∉ fb.reads → getS b.e0 t = .undef := fun t ht => by
  by_cases h : getS b.e0 t = .undef
  ·exact h
  ·exact (ht (hb.reads t h)).elim
 refine ⟨fun t ht => un t (disj_out h1 (by rw [ha.turns]; exact ht)), fun t ht => ?_, fun q hq => ?_⟩
 ·rcases h2 with h2 | h2
  ·exact .inr ⟨by rw [← hb.bare]; exact h2, hb.tup h2 t⟩
  ·exact .inl (un t (disj_out h2 (by rw [ha.fills]; exact ht)))
 ·have hq' : q ∈ fa.kills := by rw [ha.kills]; exact hq
  exact ⟨fun t l hl => noHit_out h3 hq' (hb.ments t l hl), fun l hl => noHit_out h3 hq' (hb.lays l hl)⟩
theorem ap_of {fa fb : Foot} {a b : St} (h : apartF fa fb = true) (ha : FootIs fa a) (hb : FootIs fb b) : Ap a b := by
 simp only [apartF, Bool.and_eq_true] at h
 obtain ⟨⟨⟨⟨⟨h1, h2⟩, h3⟩, h4⟩, h5⟩, h6⟩ := h
 refine ⟨sep_of h5 ha hb, sep_of h6 hb ha, fun t ht => ?_⟩
 rw [← ha.turns, ← ha.fills] at ht
 rw [← hb.turns, ← hb.fills]
 rcases ht with ht | ht
 ·exact ⟨disj_out h1 ht, disj_out h2 ht⟩
 ·exact ⟨disj_out h3 ht, disj_out h4 ht⟩
def FootsAre : List Foot → List St → Prop
 | [], [] => True
 | f :: fs, s :: ss => FootIs f s ∧ FootsAre fs ss
 | _, _ => False
theorem foots_pair {bef : Array Nat} : ∀ {fs : List Foot} {L : List St}, footsOk bef fs = true → FootsAre fs L → L.Pairwise (fun y z => y.i < z.i) → L.Pairwise (fun y z => y.i < z.i ∧ ((bef.getD z.i 0).testBit y.i = true ∨ Ap y z))
 | [], [], _, _, _ => .nil
 | [], _ :: _, _, h, _ => h.elim
 | _ :: _, [], _, h, _ => h.elim
 | f :: fs, s :: L, h, ha, hp => by
  simp only [footsOk, Bool.and_eq_true, List.all_eq_true] at h
  rw [List.pairwise_cons] at hp ⊢
  refine ⟨fun z hz => ⟨hp.1 z hz, ?_⟩, foots_pair h.2 ha.2 hp.2⟩
  have key : ∀ {fs : List Foot} {L : List St}, FootsAre fs L → z ∈ L → ∃ fz ∈ fs, FootIs fz z := by
   intro fs L
   induction fs generalizing L with
   | nil => intro h1 h2; cases L with | nil => cases h2 | cons _ _ => exact h1.elim
   | cons f fs ih =>
    intro h1 h2
    cases L with
    | nil => exact h1.elim
    | cons s L =>
     rcases List.mem_cons.1 h2 with rfl | h2
     ·exact ⟨f, List.mem_cons_self, h1.1⟩
     ·obtain ⟨fz, h3, h4⟩ := ih h1.2 h2
      exact ⟨fz, List.mem_cons_of_mem _ h3, h4⟩
  obtain ⟨fz, h3, h4⟩ := key ha.2 hz
  have h5 := h.1 fz h3
  simp only [Bool.or_eq_true, fail, Option.getD_none, Bool.false_eq_true, or_false] at h5
  rcases h5 with h5 | h5
  ·left; rw [← h4.i, ← ha.1.i]; exact h5
  ·exact .inr (ap_of h5 ha.1 h4)
/-! one operation -/
theorem noRows_mem : ∀ {us : List Upd} {l : Loc} {rs : Rows}, noRows us = true → Upd.rows l rs ∉ us
 | [], _, _, _ => by simp
 | u :: us, l, rs, h => by
  intro hm
  rcases List.mem_cons.1 hm with h1 | h1
  ·subst h1; cases h
  ·refine noRows_mem (us := us) ?_ h1
   cases u <;> first | exact h | cases h
theorem leafUs_last {s : Nat} {l : Loc} {rs : Rows} : ∀ {xs : List V} {j : Nat}, Upd.rows l rs ∉ leafUs s j xs
 | [], _ => by simp [leafUs]
 | x :: xs, j => by
  simp only [leafUs, List.mem_cons, not_or]
  exact ⟨by simp, leafUs_last⟩
theorem fill_us {l : Loc} {h0 : Option (Nat × Nat)} {mk : List Nat} {ks : List LT} {rows : Rows} {i j : Nat} {xs : List V} {env : Env} {cs : List Bool} {us : List Upd} {u : Unit}
  (h : fillNx l h0 mk ks rows i j xs env = some (cs, us, u)) : ∃ y, us = [.set l.slot y] ∨ us = [.leaf l.slot (l.leaf.getD 0) y] := by
 unfold fillNx at h
 split at h
 ·rcases bif_inv h with ⟨_, hE⟩ | ⟨_, hE⟩
  ·cases hk : ks[j]? with
   | none => rw [hk] at hE; exact (bad_inv hE).elim
   | some k0 =>
   rw [hk] at hE
   obtain ⟨ts3, rfl⟩ : ∃ ts3, k0 = .lst ts3 := by
    cases k0 <;> first | exact ⟨_, rfl⟩ | exact (bad_inv hE).elim
   simp only at hE
   rcases bif_inv hE with ⟨_, hF⟩ | ⟨_, hF⟩
   ·obtain ⟨c3, u3, a3, c4, u4, h3, h4, rfl, rfl⟩ := bind_inv hF
    obtain ⟨_, rfl⟩ := chk_inv h3
    unfold setLoc at h4
    cases hl : l.leaf with
    | none =>
     rw [hl] at h4
     obtain ⟨_, rfl⟩ := upd_inv h4
     exact ⟨_, .inl rfl⟩
    | some q =>
     rw [hl] at h4
     obtain ⟨_, rfl⟩ := upd_inv h4
     exact ⟨_, .inr rfl⟩
   ·exact (bad_inv (env := env) hF).elim
  ·exact (bad_inv (env := env) hE).elim
 ·exact (bad_inv (env := env) h).elim
theorem store_rows (hs : isStore o.op = true) (hn : noRows us.dropLast = true) (h : opM P H me o env = some (cs, us, u)) : RowsLen us env := by
 intro us' l rs us'' e hl ts old ho
 have hlast : us'' = [] := by
  cases us'' with
  | nil => rfl
  | cons y ys =>
   exfalso
   refine noRows_mem (l := l) (rs := rs) hn ?_
   rw [e]
   rw [List.dropLast_append_cons]
   simp [List.dropLast]
 subst hlast
 unfold opM at h
 cases hop : o.op with
 | store t a y =>
  rw [hop] at h
  simp only at h
  cases hd : o.dst with
  | some d => rw [hd] at h; exact (bad_inv h).elim
  | none =>
   rw [hd] at h
   simp only at h
   obtain ⟨av, _, hA⟩ := rd_bind h
   obtain ⟨c1, u1, v, c2, u2, _, hB, rfl, rfl⟩ := bind_inv hA
   obtain ⟨k, _, hC⟩ := opt_bind hB
   simp only at hC
   split at hC
   ·exact (bad_inv hC).elim
   ·cases av with
    | ref s j =>
     simp only at hC
     obtain ⟨_, hD⟩ := slotM_bind hC
     cases hg : getS (applyU u1 env) s with
     | obj row =>
      rw [hg] at hD
      simp only at hD
      split at hD
      ·exact (bad_inv hD).elim
      ·split at hD
       ·exact (bad_inv hD).elim
       ·obtain ⟨_, rfl⟩ := upd_inv hD
        exfalso
        have h2 : (u1 ++ Upd.kill (KQ.leaves s j k) :: leafUs s j (typedLeaves (lty P 20 t) (leavesOf v))).getLast? = some (Upd.rows l rs) := by rw [e]; simp
        rw [List.getLast?_append, List.getLast?_cons] at h2
        simp only [Option.some_or, Option.some.injEq] at h2
        cases hq : (leafUs s j (typedLeaves (lty P 20 t) (leavesOf v))).getLast? with
        | none => rw [hq] at h2; cases h2
        | some y =>
         rw [hq] at h2
         simp only [Option.getD_some] at h2
         subst h2
         exact leafUs_last (List.mem_of_getLast? hq)
     | _ => rw [hg] at hD; exact (bad_inv hD).elim
    | eref l' i j =>
     simp only at hC
     obtain ⟨_, hD⟩ := locM_bind hC
     cases hg : getLoc (applyU u1 env) l' with
     | own ts' rows =>
      rw [hg] at hD
      simp only at hD
      have fin : ∀ (ts'' : List LT) (ys : List F), u2 = [Upd.rows l' (stR ts'' rows i j ys)] → rs.length = old.length := by
       rintro ts'' ys rfl
       have h1 : u1 = us' ∧ Upd.rows l' (stR ts'' rows i j ys) = Upd.rows l rs := by
        have := List.append_inj' e rfl
        exact ⟨this.1, by simpa using this.2⟩
       obtain ⟨rfl, h2⟩ := h1
       simp only [Upd.rows.injEq] at h2
       obtain ⟨rfl, rfl⟩ := h2
       unfold getLoc at hg
       rw [hl] at hg
       simp only at hg
       rw [ho] at hg
       cases hg
       simp [stR]
      cases hnx : isNx ts' with
      | false =>
       rw [hnx] at hD
       simp only [cond_false] at hD
       obtain ⟨ys, _, hE⟩ := opt_bind hD
       split at hE
       ·exact (bad_inv hE).elim
       ·obtain ⟨_, rfl⟩ := upd_inv hE
        exact fin _ _ rfl
      | true =>
       rw [hnx] at hD
       simp only [cond_true] at hD
       unfold storeNx at hD
       split at hD
       ·rename_i h0 mk ks
        rcases bif_inv hD with ⟨_, hE⟩ | ⟨_, hE⟩
        ·rcases bif_inv hE with ⟨_, hF⟩ | ⟨_, hF⟩
         ·obtain ⟨y0, hy⟩ := fill_us hF
          exfalso
          rcases hy with rfl | rfl <;>
          ·have := (List.append_inj' e rfl).2
           simp at this
         ·exact (bad_inv hF).elim
        ·rcases bif_inv hE with ⟨_, hF⟩ | ⟨_, hF⟩
         ·exact (bad_inv hF).elim
         ·obtain ⟨ys, _, hG⟩ := opt_bind hF
          split at hG
          ·exact (bad_inv hG).elim
          ·obtain ⟨_, rfl⟩ := upd_inv hG
           exact fin _ _ rfl
       ·exact (bad_inv hD).elim
     | _ => rw [hg] at hD; exact (bad_inv hD).elim
    | _ => exact (bad_inv hC).elim
 | _ => rw [hop] at hs; cases hs
end
end Go.Abs
end
section
set_option linter.unusedVariables false
set_option linter.unusedSimpArgs false
set_option linter.unusedSectionVars false
namespace Go.Abs
open Go
variable [Globs]
section
variable {A : Nat → Prop} {hz hb : GH} {O : OM} {env env' : Env} {tm : Nat → Value} {w w' : World} {P : Program} {H : Hints} {tbl : Tbl} {me : FuncId} {o : Oper} {cs : List Bool} {us : List Upd} {u : Unit} {n : Nat} {all : Array Oper} {R : Type} {x : R}

theorem wanted_look {bare b : Bool} {e0 E : Env} (hl : Look bare e0 E) (h : wantedV all e0 o = some b) : wantedV all E o = some b := by
 unfold wantedV at h ⊢
 cases hg : o.guard with
 | none => rw [hg] at h; exact h
 | some p =>
  obtain ⟨j, want⟩ := p
  rw [hg] at h
  simp only at h ⊢
  cases hd : (all[j]?).bind (·.dst) with
  | none => rw [hd] at h; exact h
  | some t =>
   rw [hd] at h
   simp only at h ⊢
   have he : ∀ v, getS e0 t = .f (.lit v) → getS E t = .f (.lit v) := by
    intro v hv
    rcases hl.at_ t with h1 | h1 | ⟨_, h1⟩
    ·rw [h1] at hv; cases hv
    ·rw [← h1]; exact hv
    ·rcases h1 with h1 | ⟨_, _, _, h2, _⟩ | ⟨_, _, h2, _⟩
     ·rw [← h1]; exact hv
     ·rw [h2] at hv; cases hv
     ·rw [h2] at hv; cases hv
   split at h
   ·rename_i v b' hv; rw [he _ hv]; exact h
   ·rename_i v a hv; rw [he _ hv]; exact h
   ·cases h
theorem wanted_restrict {Rs : List Nat} {b : Bool} (hg : ∀ t ∈ guardSlot all o, t ∈ Rs) (h : wantedV all env o = some b) : wantedV all (restrictTo Rs 0 env) o = some b := by
 unfold wantedV at h ⊢
 cases hgd : o.guard with
 | none => rw [hgd] at h; exact h
 | some p =>
  obtain ⟨j, want⟩ := p
  rw [hgd] at h
  simp only at h ⊢
  cases hd : (all[j]?).bind (·.dst) with
  | none => rw [hd] at h; exact h
  | some t =>
   rw [hd] at h
   simp only at h ⊢
   have ht : t ∈ Rs := hg t (by unfold guardSlot; rw [hgd]; simp only [hd]; simp)
   rw [getS_restrict, Nat.zero_add, if_pos (by simpa using ht)]
   exact h
theorem guard_in_reads {env : Env} : ∀ t ∈ guardSlot all o, t ∈ readsOf env all o := fun t ht => by
 unfold readsOf
 exact List.mem_append_left _ ht
theorem does_W (hk : ∀ o ∈ all, okDst n o.dst = true) {bare : Bool} {i : Nat} {e0 E : Env} (ho : all[i]? = some o) (hl : Look bare e0 E) (hw : wantedV all e0 o = some true) (h : Does P n o E env') : DoesW P n all i o E env' :=
 does_wanted hk ho (wanted_look hl hw) h
theorem stepD_some (hT : TblOk P tbl) (hall : ∀ o ∈ all, okOper n o = true) {i : Nat} (ho : all[i]? = some o) (hw : wantedV all env o = some true) {k : Env → Foot → Option R} (h : stepD P H tbl me all i o env k = some x) :
  ∃ s f, s.i = i ∧ k (applyU s.us env) f = some x ∧ FootIs f s ∧ Look s.bare s.e0 env ∧ Good P n all s := by
 have hk := hall o (Array.mem_of_getElem? ho)
 have hkd : ∀ o ∈ all, okDst n o.dst = true := fun o h => okOper_dst (hall o h)
 have hw0 : wantedV all (restrictTo (readsOf env all o) 0 env) o = some true := wanted_restrict guard_in_reads hw
 unfold stepD at h
 simp only at h
 split at h
 ·rename_i fo args ats hop
  split at h
  ·cases h
  ·rename_i cs us f vs p hp
   obtain ⟨_, h1⟩ := runChecks_some h
   obtain ⟨r, outs, hF, h2⟩ := hT _ _ _ _ _ h1
   split at h2
   ·cases h2
   ·rename_i cs' us' u' hfin
    obtain ⟨_, h3⟩ := runChecks_some h2
    split at h3
    ·rename_i ft hft
     obtain ⟨hfi, hole, _⟩ := foot_ok (o := o) hft
     refine ⟨_, ft, rfl, h3, hfi, look_restrict _ _ _, ho, hole, fun hs => (by cases hs), fun E hn hl => ?_⟩
     have hl' : Look false (restrictTo (readsOf env all o) 0 env) E := by
      have : ft.bare = false := by
       unfold footOf at hft
       cases hc : (readsOf env all o).all fun t => noHole (getS env t) with
       | false => rw [hc] at hft; cases hft
       | true => rw [hc] at hft; cases hft; rfl
      rw [← this]; exact hl
     have hp' := mono_prepM P H fo args.toList _ E _ hl'.sub hp
     have hfin' := mono_finM o.dst p r outs _ (applyU us E) _ (hl'.sub.applyU us) hfin
     exact does_W hkd ho hl hw0 (does_call hn hk hop hp' hF hfin')
    ·cases h3
 ·split at h
  ·cases h
  ·rename_i cs us u' hop
   obtain ⟨hcs, h1⟩ := runChecks_some h
   split at h1
   ·rename_i ft hft
    obtain ⟨hfi, hole, hbare⟩ := foot_ok (o := o) hft
    have hop' : ∀ E, Look ft.bare (restrictTo (readsOf env all o) 0 env) E → opM P H me o E = some (cs, us, u') := by
     intro E hl
     cases hb : ft.bare with
     | false => rw [hb] at hl; exact mono_opM P H me o _ E _ hl.sub hop
     | true => rw [hb] at hl; exact bare_opM P H me o (hbare hb) _ E _ hl hop
    refine ⟨_, ft, rfl, h1, hfi, look_restrict _ _ _, ho, hole, fun hs E hl => ?_, fun E hn hl => ?_⟩
    ·simp only [Bool.and_eq_true] at hs
     exact store_rows hs.1 hs.2 (hop' E hl)
    ·exact does_W hkd ho hl hw0 (does_op hn hk (hop' E hl) hcs)
   ·cases h1
theorem opsD_some (hT : TblOk P tbl) (hall : ∀ o ∈ all, okOper n o = true) : ∀ {rest : List Oper} {i : Nat} {env : Env} {fs : List Foot} {k : Env → List Foot → Option R} (_ : n ≤ env.length) (_ : ∀ j o, rest[j]? = some o → all[i + j]? = some o) (_ : opsD P H tbl me all i rest env fs k = some x),
  ∃ (L : List St) (Ff : List Foot) (env' : Env), k env' (Ff.reverse ++ fs) = some x ∧ FootsAre Ff L ∧ Seq L env env' ∧ (∀ s ∈ L, Good P n all s) ∧ L.map (·.i) = (List.range rest.length).map (i + ·) ∧ env'.length = env.length
 | [], i, env, fs, k, hn, hr, h => ⟨[], [], env, h, trivial, rfl, by simp, rfl, rfl⟩
 | o :: rest, i, env, fs, k, hn, hr, h => by
  have ho : all[i]? = some o := hr 0 o rfl
  have hrest : ∀ j o', rest[j]? = some o' → all[i + 1 + j]? = some o' := fun j o' e => by
   have := hr (j + 1) o' (by simpa using e)
   rwa [show i + (j + 1) = i + 1 + j by omega] at this
  have hkd : ∀ o ∈ all, okDst n o.dst = true := fun o h => okOper_dst (hall o h)
  have hlist : (List.range (o :: rest).length).map (i + ·) = i :: (List.range rest.length).map (i + 1 + ·) := by
   rw [List.length_cons, List.range_succ_eq_map, List.map_cons, List.map_map]
   simp only [Nat.add_zero, List.cons.injEq, true_and]
   congr 1
   funext j
   simp only [Function.comp]
   omega
  rw [hlist]
  simp only [opsD] at h
  split at h
  ·rename_i hw
   obtain ⟨s, f, hsi, h1, hfi, hlook, hg⟩ := stepD_some hT hall ho hw h
   have h3 := seekK_some h1
   obtain ⟨L, Ff, env', h4, h5, h6, h7, h8, h9⟩ := opsD_some (i := i + 1) hT hall (by rw [applyU_len]; exact hn) hrest h3
   refine ⟨s :: L, f :: Ff, env', by simpa using h4, ⟨hfi, h5⟩, ⟨hlook, h6⟩, fun s' hs' => ?_, by simp [hsi, h8], by rw [h9, applyU_len]⟩
   rcases List.mem_cons.1 hs' with rfl | hs'
   ·exact hg
   ·exact h7 s' hs'
  ·rename_i hw
   split at h
   ·rename_i cs us u' hp
    split at h
    ·rename_i f hft
     obtain ⟨hfi, hole, hbare⟩ := foot_ok (o := o) hft
     obtain ⟨L, Ff, env', h4, h5, h6, h7, h8, h9⟩ := opsD_some (i := i + 1) hT hall (by rw [applyU_len]; exact hn) hrest h
     have hb : f.bare = false := by
      cases hb : f.bare with
      | false => rfl
      | true => have := hbare hb; cases this
     refine ⟨⟨i, o, restrictTo (guardSlot all o) 0 env, false, f.bare, us⟩ :: L, f :: Ff, env', by simpa using h4, ⟨hfi, h5⟩, ⟨look_restrict _ _ _, h6⟩, fun s' hs' => ?_, by simp [h8], by rw [h9, applyU_len]⟩
     rcases List.mem_cons.1 hs' with rfl | hs'
     ·refine ⟨ho, hole, fun hs => (by cases hs), fun E hn' hl => ?_⟩
      have hw' := wanted_look hl (wanted_restrict (fun t ht => ht) hw)
      have hp' : putD o.dst passed E = some (cs, us, u') := by rw [ef_putD o.dst passed E env]; exact hp
      exact does_skip hkd hn' ho hw' hp'
     ·exact h7 s' hs'
    ·cases h
   ·cases h
  ·cases h
/-- - -/
theorem region_any (hT : TblOk P tbl) (hm : P.follows .mixedOrders = true) {id : Nat} (hall : ∀ o ∈ all, okOper n o = true) (hn : n ≤ env.length) {k : Env → Option R}
  (h : (opsD P H tbl me all 0 all.toList env [] fun env fs => if footsOk (Region.before all) fs.reverse && edgesOk 0 all.toList then k env else none) = some x) :
  ∃ env', k env' = some x ∧ env'.length = env.length ∧ ∀ (A : Nat → Prop) (hz hb : GH) (O : OM) (a : Act) (hid : Nat → Value) (w : World) (Q : Exit → Act → World → Prop), a.tmps.size = n → Inv A hz hb O env (tmA a hid) w → FutA A hz hb env' n a.defers hid w (Q .normal) → (Code.region id all true).wp P Q a w := by
 obtain ⟨L, Ff, env', h1, h2, h3, h4, h5, h6⟩ := opsD_some hT hall hn (fun j o e => by simpa using e) h
 split at h1
 ·rename_i hc
  simp only [Bool.and_eq_true, List.append_nil, List.reverse_reverse] at hc
  have hmap : L.map (·.i) = List.range all.size := by
   rw [h5]
   simp
  have hsorted : L.Pairwise (fun y z => y.i < z.i) := by
   have : (L.map (·.i)).Pairwise (· < ·) := by rw [hmap]; exact List.pairwise_lt_range
   rw [List.pairwise_map] at this
   exact this
  refine ⟨env', h1, h6, fun A hz hb O a hid w Q ha I hf => wp_region_any hm ?_⟩
  have hedge : ∀ i o, all[i]? = some o → ∀ e ∈ o.after, Region.binds .any e = true → e.on < i := by
   intro i o ho e he hb
   have := edges_spec hc.2 i o (by simpa using ho) e he hb
   omega
  have hwd : ∀ {w : World}, Side w { w with drawn := w.drawn + 1 } := fun {w} => ⟨rfl, rfl, rfl, Nat.le_refl _⟩
  refine any_ok (Ef := env') (hid := hid) (ds := a.defers) hedge all.size L (Array.replicate all.size false) env hz hb O a { w with drawn := w.drawn + 1 } ?_ h4 h3 (foots_pair hc.1 h2 hsorted) (by simp) (fun i => ?_) (fun b hb2 => ?_) hn ha rfl (I.heap rfl) (fun a' w' hz' hb' O' e' I' s' h7 h8 => hf a' w' hz' hb' O' e' I' (hwd.trans s') h7 h8)
  ·have : L.length = all.size := by
    have := congrArg List.length hmap
    simpa using this
   omega
  ·constructor
   ·intro hi
    have hlt : i < all.size := by
     rcases Nat.lt_or_ge i all.size with h | h
     ·exact h
     ·rw [Array.getD_eq_getD_getElem?, Array.getElem?_eq_none (by simpa using h)] at hi
      simp at hi
    have : i ∈ L.map (·.i) := by rw [hmap]; simpa using hlt
    obtain ⟨s, hs, he⟩ := List.mem_map.1 this
    exact ⟨s, hs, he⟩
   ·rintro ⟨s, hs, rfl⟩
    have : s.i ∈ L.map (·.i) := List.mem_map.2 ⟨s, hs, rfl⟩
    rw [hmap] at this
    have hlt : s.i < all.size := by simpa using this
    simp [Array.getD_eq_getD_getElem?, hlt]
  ·exfalso
   rcases Nat.lt_or_ge b all.size with h | h
   ·simp [Array.getD_eq_getD_getElem?, h] at hb2
   ·simp [Array.getD_eq_getD_getElem?, h] at hb2
 ·cases h1
theorem region_text (hT : TblOk P tbl) {id : Nat} (hall : ∀ o ∈ all, okOper n o = true) (hn : n ≤ env.length) {k : Env → Option R} (h : opsK P H tbl me all all.toList env k = some x) :
  ∃ env', k env' = some x ∧ env'.length = env.length ∧ ∀ (A : Nat → Prop) (hz hb : GH) (O : OM) (a : Act) (hid : Nat → Value) (w : World) (Q : Exit → Act → World → Prop), a.tmps.size = n → Inv A hz hb O env (tmA a hid) w → FutA A hz hb env' n a.defers hid w (Q .normal) → (Code.region id all false).wp P Q a w := by
 obtain ⟨env', h1, h2, h3⟩ := opsK_some (i := 0) hT hall hn (fun j o e => by simpa using e) h
 refine ⟨env', h1, h2, fun A hz hb O a hid w Q ha I hf => wp_region ?_⟩
 have := h3 A hz hb O a hid w Q ha I hf
 have hl : (List.range all.toList.length).map (0 + ·) = List.range all.size := by simp
 rw [hl] at this
 exact this
end
end Go.Abs
end
section
set_option linter.unusedVariables false
set_option linter.unusedSimpArgs false
set_option linter.unusedSectionVars false
namespace Go.Abs
open Go
variable [Globs]
section
variable {A : Nat → Prop} {hz hb : GH} {O : OM} {env env' : Env} {tm : Nat → Value} {w w' : World} {P : Program} {H : Hints} {tbl : Tbl} {me : FuncId} {o : Oper} {n : Nat} {R : Type} {x : R}

/-! ### the text of a function -/
def toExit : Ex → Exit
 | .normal => .normal
 | .exit id => .exit id
 | .ret => .ret
def CodeDoes (P : Program) (n : Nat) (c : Code) (env : Env) (e : Ex) (env' : Env) : Prop :=
 ∀ (A : Nat → Prop) (hz hb : GH) (O : OM) (a : Act) (hid : Nat → Value) (w : World) (Q : Exit → Act → World → Prop), a.tmps.size = n → Inv A hz hb O env (tmA a hid) w → FutA A hz hb env' n a.defers hid w (Q (toExit e)) → c.wp P Q a w
def RoundsDo (P : Program) (n : Nat) (c : Code) (m : Nat) (env : Env) (e : Ex) (env' : Env) : Prop :=
 ∀ (A : Nat → Prop) (hz hb : GH) (O : OM) (a : Act) (hid : Nat → Value) (w : World) (Q : Exit → Act → World → Prop), a.tmps.size = n → Inv A hz hb O env (tmA a hid) w → FutA A hz hb env' n a.defers hid w (Q (toExit e)) → Code.rounds P c Q m a w
theorem FutA.next {ds : List Deferred} {hid : Nat → Value} {K : Act → World → Prop} {env2 : Env} (h : FutA A hz hb env2 n ds hid w K) {hz1 hb1 : GH} {w1 : World} (e : FzExt A hz hb hz1 hb1) (s : Side w w1) : FutA A hz1 hb1 env2 n ds hid w1 K :=
 fun a' w' hz' hb' O' e' I' s' h1 h2 => h a' w' hz' hb' O' (e.trans e') I' (s.trans s') h1 h2
theorem slotOf_vals (env : Env) (l : List Nat) (t : Nat) : ∀ (l' : List Nat), slotOf l' (l'.map fun t => killV (.others l) (getS env t)) t = if l'.contains t then killV (.others l) (getS env t) else .undef
 | [] => rfl
 | t' :: l' => by
  simp only [List.map_cons, slotOf, List.contains_cons]
  cases hb : Nat.beq t' t with
  | true =>
   have : t' = t := Nat.eq_of_beq_eq_true hb
   subst this
   simp
  | false =>
   have hne : ¬ t = t' := by rintro rfl; rw [Nat.beq_refl] at hb; cases hb
   simp only [cond_false]
   rw [slotOf_vals env l t l']
   have : (t == t') = false := by simpa using hne
   simp [this]
theorem mkEnv_len (l : List Nat) (vs : List V) : ∀ (j n : Nat), (mkEnv l vs j n).length = n
 | _, 0 => rfl
 | j, n + 1 => by simp [mkEnv, mkEnv_len l vs]
theorem mkEnv_get (l : List Nat) (vs : List V) : ∀ (j n t : Nat), t < n → getS (mkEnv l vs j n) t = slotOf l vs (j + t)
 | j, 0, t, h => by omega
 | j, n + 1, 0, h => rfl
 | j, n + 1, t + 1, h => by
  have := mkEnv_get l vs (j + 1) n t (by omega)
  simp only [mkEnv, getS, List.getD_cons_succ] at this ⊢
  rw [this, show j + 1 + t = j + (t + 1) by omega]
/-- - -/
theorem Inv.forget (I : Inv A hz hb O env tm w) (l : List Nat) : Inv A hz hb O (mkEnv l (vals l env) 0 env.length) tm w := by
 have I1 := I.kill (.others l)
 have hg : ∀ t, getS (mkEnv l (vals l env) 0 env.length) t = if l.contains t then getS (env.map (killV (.others l))) t else .undef := by
  intro t
  rcases Nat.lt_or_ge t env.length with h | h
  ·rw [mkEnv_get _ _ _ _ _ h, Nat.zero_add]
   unfold vals
   rw [slotOf_vals, getS_kill]
  ·rw [getS_ge (by rw [mkEnv_len]; exact h), getS_ge (env := env.map (killV (.others l))) (by simpa using h)]
   split <;> rfl
 refine I1.g.inv fun t => ?_
 rw [hg]
 split
 ·refine (I1.rep t).keep (Keeps.refl _ _ _ _ _) fun m hm => ?_
  rw [getS_kill] at hm
  have h1 := (mentsV_kill hm).2
  have hin : l.contains m.slot = true := by simpa [KQ.hits, hasN_eq] using h1
  have hg2 : getS (mkEnv l (vals l env) 0 env.length) m.slot = getS (env.map (killV (.others l))) m.slot := by rw [hg, if_pos hin]
  refine ⟨fun ts rows c ⟨v, h2, h3⟩ => ⟨ts, rows, ⟨v, ?_, h3⟩, Like.refl _, fun _ => rfl⟩, fun _ row h => ⟨row, by rw [hg2]; exact h, rfl, rfl⟩, fun _ f caps h => ⟨f, caps, by rw [hg2]; exact h, rfl⟩⟩
  unfold LocIs at h2 ⊢
  rw [hg2]
  exact h2
 ·exact .inl trivial
theorem nLoops_len : ∀ c : Code, nLoops c = (loopsOf c).length
 | .seq a b => by simp [nLoops, loopsOf, nLoops_len a, nLoops_len b]
 | .cond _ a b => by simp [nLoops, loopsOf, nLoops_len a, nLoops_len b]
 | .block _ a => by simp [nLoops, loopsOf, nLoops_len a]
 | .loop a => by simp [nLoops, loopsOf, nLoops_len a]
 | .scope a => by simp [nLoops, loopsOf, nLoops_len a]
 | .skip => rfl
 | .label _ => rfl
 | .region .. => rfl
 | .exit _ => rfl
 | .ret => rfl
 | .goto _ => rfl
 | .rangeFunc .. => rfl
 | .refuse .. => rfl
/-- - -/
def Within (whole part : List (Bool × Code)) (i : Nat) : Prop := ∀ j, j < part.length → whole[i + j]? = part[j]?
theorem within_left {whole a b : List (Bool × Code)} {i : Nat} (h : Within whole (a ++ b) i) : Within whole a i := fun j hj => by
 rw [h j (by simp; omega), List.getElem?_append_left hj]
theorem within_right {whole a b : List (Bool × Code)} {i : Nat} (h : Within whole (a ++ b) i) : Within whole b (i + a.length) := fun j hj => by
 have := h (a.length + j) (by simp; omega)
 rw [show i + a.length + j = i + (a.length + j) by omega, this, List.getElem?_append_right (by omega)]
 congr 1
 omega
theorem within_cons {whole b : List (Bool × Code)} {x : Bool × Code} {i : Nat} (h : Within whole (x :: b) i) : whole[i]? = some x ∧ Within whole b (i + 1) := by
 refine ⟨by have := h 0 (by simp); simpa using this, fun j hj => ?_⟩
 have := h (j + 1) (by simpa using hj)
 rw [show i + 1 + j = i + (j + 1) by omega, this]
 simp
theorem within_nested : ∀ (c : Code) {i : Nat} {b : Bool × Code}, (loopsOf c)[i]? = some b → Within (loopsOf c) (loopsOf b.2) (i + 1)
 | .seq x y, i, b, h => by
  simp only [loopsOf] at h ⊢
  rw [List.getElem?_append] at h
  split at h
  ·rename_i hi
   intro j hj
   have := within_nested x h j hj
   have hlt : i + 1 + j < (loopsOf x).length := by
    rcases Nat.lt_or_ge (i + 1 + j) (loopsOf x).length with h1 | h1
    ·exact h1
    ·rw [List.getElem?_eq_none h1, List.getElem?_eq_getElem hj] at this; cases this
   rw [List.getElem?_append_left hlt]
   exact this
  ·rename_i hi
   intro j hj
   obtain ⟨d, hd⟩ : ∃ d, i = (loopsOf x).length + d := ⟨i - (loopsOf x).length, by omega⟩
   subst hd
   rw [show (loopsOf x).length + d - (loopsOf x).length = d by omega] at h
   rw [List.getElem?_append_right (by omega), show (loopsOf x).length + d + 1 + j - (loopsOf x).length = d + j + 1 by omega, List.getElem?_cons_succ]
   cases d with
   | zero =>
    simp at h
    subst h
    simp
   | succ d =>
    have := within_nested y (i := d) (by simpa using h) j hj
    rw [← this, show d + 1 + j = d + 1 + j from rfl]
 | .cond _ x y, i, b, h => by
  simp only [loopsOf] at h ⊢
  rw [List.getElem?_append] at h
  split at h
  ·rename_i hi
   intro j hj
   have := within_nested x h j hj
   have hlt : i + 1 + j < (loopsOf x).length := by
    rcases Nat.lt_or_ge (i + 1 + j) (loopsOf x).length with h1 | h1
    ·exact h1
    ·rw [List.getElem?_eq_none h1, List.getElem?_eq_getElem hj] at this; cases this
   rw [List.getElem?_append_left hlt]
   exact this
  ·intro j hj
   have := within_nested y h j hj
   rw [List.getElem?_append_right (by omega), ← this]
   congr 1
   omega
 | .block _ x, i, b, h => within_nested x h
 | .scope x, i, b, h => within_nested x h
 | .loop x, i, b, h => by
  simp only [loopsOf] at h ⊢
  cases i with
  | zero =>
   simp at h
   subst h
   intro j hj
   rw [show 0 + 1 + j = j + 1 by omega]
   simp
  | succ i =>
   have := within_nested x (by simpa using h)
   intro j hj
   have := this j hj
   rw [show i + 1 + 1 + j = (i + 1 + j) + 1 by omega]
   simpa using this
 | .skip, i, b, h => by simp [loopsOf] at h
 | .label _, i, b, h => by simp [loopsOf] at h
 | .region .., i, b, h => by simp [loopsOf] at h
 | .exit _, i, b, h => by simp [loopsOf] at h
 | .ret, i, b, h => by simp [loopsOf] at h
 | .goto _, i, b, h => by simp [loopsOf] at h
 | .rangeFunc .., i, b, h => by simp [loopsOf] at h
 | .refuse .., i, b, h => by simp [loopsOf] at h
theorem okCode_loop {n : Nat} : ∀ (c : Code) {b : Bool × Code}, okCode n c = true → b ∈ loopsOf c → okCode n b.2 = true
 | .seq x y, b, h, hb => by
  simp only [okCode, Bool.and_eq_true] at h
  simp only [loopsOf, List.mem_append, List.mem_cons] at hb
  rcases hb with hb | rfl | hb
  ·exact okCode_loop x h.1 hb
  ·exact h.2
  ·exact okCode_loop y h.2 hb
 | .cond _ x y, b, h, hb => by
  simp only [okCode, Bool.and_eq_true] at h
  simp only [loopsOf, List.mem_append] at hb
  exact hb.elim (okCode_loop x h.2.1) (okCode_loop y h.2.2)
 | .block _ x, b, h, hb => okCode_loop x h hb
 | .scope x, b, h, hb => okCode_loop x h hb
 | .loop x, b, h, hb => by
  simp only [loopsOf, List.mem_cons] at hb
  rcases hb with rfl | hb
  ·exact h
  ·exact okCode_loop x h hb
 | .skip, b, h, hb => by simp [loopsOf] at hb
 | .label _, b, h, hb => by simp [loopsOf] at hb
 | .region .., b, h, hb => by simp [loopsOf] at hb
 | .exit _, b, h, hb => by simp [loopsOf] at hb
 | .ret, b, h, hb => by simp [loopsOf] at hb
 | .goto _, b, h, hb => by simp [loopsOf] at hb
 | .rangeFunc .., b, h, hb => by simp [loopsOf] at hb
 | .refuse .., b, h, hb => by simp [loopsOf] at hb
/-- - -/
def pieceOf (b : Bool × Code) : Code := match b with
 | (true, c) => .loop c
 | (false, c) => c
/-- - -/
def LTOk (P : Program) (H : Hints) (lt : LTbl) : Prop := ∀ (R : Type) (f : FuncId) (i : Nat) (vs : List V) (k : Ex → List V → Option R) (x : R), lt R f i vs k = some x →
 ∀ (fn : Func) (body : Code) (b : Bool × Code) (l : List Nat), P.funcs[f]? = some fn → fn.body = some body → (loopsOf body)[i]? = some b → H.live f i = some l → ∃ e vs', k e vs' = some x ∧ CodeDoes P fn.ntmps (pieceOf b) (mkEnv l vs 0 (H.len f)) e (mkEnv l vs' 0 (H.len f))
theorem cond_some {c : Operand} {cs : List Bool} {us : List Upd} {v : V} {t : Bool} (hk : okOpnd n c = true) (h : raw c env = some (cs, us, v)) (hv : asB v = some t) :
  seeB c t env = env ∧ ∀ (A : Nat → Prop) (hz hb : GH) (O : OM) (a : Act) (hid : Nat → Value) (w : World), a.tmps.size = n → Inv A hz hb O env (tmA a hid) w → a.eval c = .bool t := by
 refine ⟨?_, fun A hz hb O a hid w ha I => ?_⟩
 ·cases c with
  | tmp s =>
   obtain ⟨rfl, rfl, rfl, hne⟩ := slotM_inv h
   have hb : getS env s = vBool t := by
    unfold asB at hv
    split at hv
    ·rename_i hg; cases hv; exact hg
    ·cases hv
    ·cases hv
   exact set_same hb (by simp [vBool])
  | _ => rfl
 ·obtain ⟨rfl, rfl⟩ := raw_still h
  rw [← evO_tmA ha hk]
  exact rawB (I := I) h hv
section force
variable {α : Type}
mutual
theorem forceT_eq : ∀ (t : LT) (c : LT → α), forceT t c = c t
 | .lst ts, c => by simp only [forceT]; rw [forceTs_eq ts]
 | .int k, c => by simp only [forceT]
 | .bool, c => by simp only [forceT]
 | .str, c => by simp only [forceT]
 | .any, c => by simp only [forceT]
 | .mp true, c => by simp only [forceT]
 | .mp false, c => by simp only [forceT]
 | .nx none mk, c => by simp only [forceT]
 | .nx (some (i, j)) mk, c => by simp only [forceT]
theorem forceTs_eq : ∀ (t : List LT) (c : List LT → α), forceTs t c = c t
 | [], c => by simp only [forceTs]
 | t :: ts, c => by simp only [forceTs]; rw [forceT_eq t, forceTs_eq ts]
end
theorem forceF_eq (x : F) (c : F → α) : forceF x c = c x := by
 cases x with
 | lit v => unfold forceF; cases v <;> rfl
 | lst ts rows => simp only [forceF]; rw [forceTs_eq]
theorem forceL_eq (l : Loc) (c : Loc → α) : forceL l c = c l := by
 obtain ⟨s, l⟩ := l
 cases l <;> rfl
theorem forceV1_eq (v : V) (c : V → α) : forceV1 v c = c v := by
 cases v <;> simp only [forceV1, forceF_eq, forceTs_eq, forceL_eq]
theorem forceVs_eq : ∀ (vs : List V) (c : List V → α), forceVs vs c = c vs
 | [], c => rfl
 | v :: vs, c => by simp only [forceVs]; rw [forceV1_eq, forceVs_eq vs]
theorem forceV_eq (v : V) (c : V → α) : forceV v c = c v := by
 cases v <;> simp only [forceV, forceVs_eq, forceV1_eq]
theorem forceK_eq : ∀ (env : Env) (c : Env → α), forceK env c = c env
 | [], c => rfl
 | v :: vs, c => by simp only [forceK]; rw [forceV_eq, forceK_eq vs]
end force
theorem preGo_ok : ∀ {ls : List Loc} {hz hb : GH} {O : OM} {env : Env} {cs : List Bool} {us : List Upd} {u : Unit} (_ : Inv A hz hb O env tm w) (_ : preGo ls env = some (cs, us, u)),
  ∃ hz' hb' O', FzExt A hz hb hz' hb' ∧ Inv A hz' hb' O' (applyU us env) tm w
 | [], hz, hb, O, env, cs, us, u, I, h => by
  obtain ⟨rfl, rfl, _⟩ := pure_inv h
  exact ⟨hz, hb, O, FzExt.refl _ _ _, I⟩
 | l :: ls, hz, hb, O, env, cs, us, u, I, h => by
  obtain ⟨c1, u1, v, c2, u2, h1, h2, rfl, rfl⟩ := bind_inv h
  have h1' := h1
  obtain ⟨c3, u3, y, c4, u4, h3, h4, e1, e2⟩ := bind_inv h1
  obtain ⟨rfl, rfl, hx, hxu⟩ := locM_inv h3
  have step : ∃ hz' hb' O', FzExt A hz hb hz' hb' ∧ Inv A hz' hb' O' (applyU u1 env) tm w := by
   cases y with
   | own ts rows =>
    obtain ⟨c0, hl0, _⟩ := I.own_at hx
    obtain ⟨_, hz', hb', O', S, _⟩ := takeLoc_ok I h1' [] (c := c0) (ts := ts) (rows := rows) (.inr ⟨_, hl0, rfl⟩)
    exact ⟨hz', hb', O', S.ext, S.inv⟩
   | f x =>
    obtain ⟨rfl, rfl, _⟩ := pure_inv h4
    rw [e2]
    exact ⟨hz, hb, O, FzExt.refl _ _ _, I⟩
   | _ => exact (bad_inv h4).elim
  obtain ⟨hz1, hb1, O1, x1, I1⟩ := step
  obtain ⟨hz2, hb2, O2, x2, I2⟩ := preGo_ok I1 h2
  rw [applyU_append]
  exact ⟨hz2, hb2, O2, x1.trans x2, I2⟩
theorem codeK_some {lt : LTbl} (hT : TblOk P tbl) (hm : P.follows .mixedOrders = true) (hL : LTOk P H lt) {fn : Func} {body : Code} (hf : P.funcs[me]? = some fn) (hbd : fn.body = some body) (hnt : fn.ntmps = n) (hnl : n ≤ H.len me) : ∀ (c : Code) {i : Nat} {env : Env} {k : Ex → Env → Option R}, okCode n c = true → Within (loopsOf body) (loopsOf c) i → env.length = H.len me → codeK P H tbl me lt i c env k = some x →
  ∃ e env', k e env' = some x ∧ env'.length = env.length ∧ CodeDoes P n c env e env'
 | .skip, i, env, k, hk, hw, hn, h => ⟨.normal, env, h, rfl, fun A hz hb O a hid w Q ha I hf => wp_skip (hf a w hz hb O (FzExt.refl _ _ _) I (Side.refl _) ha rfl)⟩
 | .label l, i, env, k, hk, hw, hn, h => ⟨.normal, env, h, rfl, fun A hz hb O a hid w Q ha I hf => wp_label (hf a w hz hb O (FzExt.refl _ _ _) I (Side.refl _) ha rfl)⟩
 | .exit id, i, env, k, hk, hw, hn, h => ⟨.exit id, env, h, rfl, fun A hz hb O a hid w Q ha I hf => wp_exit (hf a w hz hb O (FzExt.refl _ _ _) I (Side.refl _) ha rfl)⟩
 | .ret, i, env, k, hk, hw, hn, h => ⟨.ret, env, h, rfl, fun A hz hb O a hid w Q ha I hf => wp_ret (hf a w hz hb O (FzExt.refl _ _ _) I (Side.refl _) ha rfl)⟩
 | .region id ops draw, i, env, k, hk, hw, hn, h => by
  have hall : ∀ o ∈ ops, okOper n o = true := by
   intro o ho
   simp only [okCode, List.all_eq_true] at hk
   exact hk o (by simpa using ho)
  simp only [codeK, forceK_eq] at h
  cases draw with
  | true =>
   simp only [if_true] at h
   split at h
   ·rename_i c0 us u0 hp
    have hl : (applyU us env).length = env.length := applyU_len us env
    obtain ⟨env', h1, h2, h3⟩ := region_any (id := id) hT hm hall (by omega) h
    refine ⟨.normal, env', h1, h2.trans hl, fun A hz hb O a hid w Q ha I hf => ?_⟩
    obtain ⟨hz1, hb1, O1, x1, I1⟩ := preGo_ok I hp
    exact h3 A hz1 hb1 O1 a hid w Q ha I1 (hf.next x1 (Side.refl _))
   ·cases h
  | false =>
   simp only [Bool.false_eq_true, if_false] at h
   obtain ⟨env', h1, h2, h3⟩ := region_text (id := id) hT hall (by omega) h
   exact ⟨.normal, env', h1, h2, h3⟩
 | .seq c d, i, env, k, hk, hw, hn, h => by
  simp only [okCode, Bool.and_eq_true] at hk
  simp only [codeK] at h
  obtain ⟨e1, env1, h1, h2, h3⟩ := codeK_some hT hm hL hf hbd hnt hnl c hk.1 (within_left hw) hn h
  cases e1 with
  | normal =>
   simp only at h1
   have hw1 := within_right hw
   rw [← nLoops_len] at hw1
   have hw2 := within_cons hw1
   split at h1
   ·obtain ⟨e2, env2, h4, h5, h6⟩ := codeK_some hT hm hL hf hbd hnt hnl d hk.2 hw2.2 (by rw [h2]; exact hn) h1
    refine ⟨e2, env2, h4, h5.trans h2, fun A hz hb O a hid w Q ha I hf => wp_seq (h3 A hz hb O a hid w _ ha I fun a1 w1 hz1 hb1 O1 x1 I1 s1 ha1 hd1 => ?_)⟩
    refine h6 A hz1 hb1 O1 a1 hid w1 Q ha1 I1 ?_
    rw [hd1]
    exact hf.next x1 s1
   ·rename_i l hl
    obtain ⟨e2, vs', h4, h6⟩ := hL _ _ _ _ _ _ h1 fn body (false, d) l hf hbd hw2.1 hl
    refine ⟨e2, _, h4, by rw [mkEnv_len]; exact hn.symm, fun A hz hb O a hid w Q ha I hf => wp_seq (h3 A hz hb O a hid w _ ha I fun a1 w1 hz1 hb1 O1 x1 I1 s1 ha1 hd1 => ?_)⟩
    rw [hnt] at h6
    have I2 := I1.forget l
    rw [h2, hn] at I2
    refine h6 A hz1 hb1 O1 a1 hid w1 Q ha1 I2 ?_
    rw [hd1]
    exact hf.next x1 s1
  | exit id => exact ⟨.exit id, env1, h1, h2, fun A hz hb O a hid w Q ha I hf => wp_seq (h3 A hz hb O a hid w _ ha I hf)⟩
  | ret => exact ⟨.ret, env1, h1, h2, fun A hz hb O a hid w Q ha I hf => wp_seq (h3 A hz hb O a hid w _ ha I hf)⟩
 | .cond c t g, i, env, k, hk, hw, hn, h => by
  simp only [okCode, Bool.and_eq_true] at hk
  simp only [codeK] at h
  split at h
  ·rename_i cs us v hr
   split at h
   ·rename_i b hv
    obtain ⟨h1, h2⟩ := cond_some hk.1 hr hv
    cases b with
    | true =>
     rw [h1] at h
     obtain ⟨e1, env1, h3, h4, h5⟩ := codeK_some hT hm hL hf hbd hnt hnl t hk.2.1 (within_left hw) hn h
     exact ⟨e1, env1, h3, h4, fun A hz hb O a hid w Q ha I hf => wp_cond_true (h2 A hz hb O a hid w ha I) (h5 A hz hb O a hid w Q ha I hf)⟩
    | false =>
     rw [h1] at h
     obtain ⟨e1, env1, h3, h4, h5⟩ := codeK_some hT hm hL hf hbd hnt hnl g hk.2.2 (by rw [nLoops_len]; exact within_right hw) hn h
     exact ⟨e1, env1, h3, h4, fun A hz hb O a hid w Q ha I hf => wp_cond_false (h2 A hz hb O a hid w ha I) (h5 A hz hb O a hid w Q ha I hf)⟩
   ·cases h
  ·cases h
 | .block id c, i, env, k, hk, hw, hn, h => by
  simp only [okCode] at hk
  simp only [codeK] at h
  obtain ⟨e1, env1, h1, h2, h3⟩ := codeK_some hT hm hL hf hbd hnt hnl c hk hw hn h
  cases e1 with
  | normal => exact ⟨.normal, env1, h1, h2, fun A hz hb O a hid w Q ha I hf => wp_block (h3 A hz hb O a hid w _ ha I hf)⟩
  | ret => exact ⟨.ret, env1, h1, h2, fun A hz hb O a hid w Q ha I hf => wp_block (h3 A hz hb O a hid w _ ha I hf)⟩
  | exit j =>
   simp only at h1
   split at h1
   ·rename_i hj
    subst hj
    exact ⟨.normal, env1, h1, h2, fun A hz hb O a hid w Q ha I hf => wp_block (h3 A hz hb O a hid w _ ha I fun a1 w1 hz1 hb1 O1 x1 I1 s1 ha1 hd1 => by
     simp only [toExit, Exit.inBlock, if_true]
     exact hf a1 w1 hz1 hb1 O1 x1 I1 s1 ha1 hd1)⟩
   ·rename_i hj
    exact ⟨.exit j, env1, h1, h2, fun A hz hb O a hid w Q ha I hf => wp_block (h3 A hz hb O a hid w _ ha I fun a1 w1 hz1 hb1 O1 x1 I1 s1 ha1 hd1 => by
     simp only [toExit, Exit.inBlock, hj, if_false]
     exact hf a1 w1 hz1 hb1 O1 x1 I1 s1 ha1 hd1)⟩
 | .scope c, i, env, k, hk, hw, hn, h => by
  simp only [okCode] at hk
  simp only [codeK] at h
  obtain ⟨e1, env1, h1, h2, h3⟩ := codeK_some hT hm hL hf hbd hnt hnl c hk hw hn h
  refine ⟨e1, env1, h1, h2, fun A hz hb O a hid w Q ha I hf => wp_scope_straight (h3 A hz hb O a hid w _ ha I fun a1 w1 hz1 hb1 O1 x1 I1 s1 ha1 hd1 => ?_)⟩
  have := hf a1 w1 hz1 hb1 O1 x1 I1 s1 ha1 hd1
  cases e1 <;> exact this
 | .loop c, i, env, k, hk, hw, hn, h => by
  simp only [codeK] at h
  split at h
  ·rename_i l hl
   obtain ⟨e, vs', h1, h2⟩ := hL _ _ _ _ _ _ h fn body (true, c) l hf hbd (within_cons hw).1 hl
   refine ⟨e, _, h1, by rw [mkEnv_len]; exact hn.symm, fun A hz hb O a hid w Q ha I hfu => ?_⟩
   rw [hnt] at h2
   have I2 := I.forget l
   rw [hn] at I2
   exact h2 A hz hb O a hid w Q ha I2 hfu
  ·cases h
 | .goto l, i, env, k, hk, hw, hn, h => by simp [codeK, fail] at h
 | .rangeFunc .., i, env, k, hk, hw, hn, h => by simp [codeK, fail] at h
 | .refuse .., i, env, k, hk, hw, hn, h => by simp [codeK, fail] at h
end
end Go.Abs
end
section
set_option linter.unusedVariables false
set_option linter.unusedSimpArgs false
set_option linter.unusedSectionVars false
namespace Go.Abs
open Go
variable [Globs]
section
variable {A : Nat → Prop} {hz hb : GH} {O : OM} {env : Env} {tm : Nat → Value} {w : World} {P : Program}

/-! ### lists that rows have are frozen -/
/-- - -/
def under (p : List Nat) (q : Option (List Nat)) : Bool := match q with
 | some q => q.length == p.length + 1 && q.take p.length == p
 | none => false
theorem under_of {p : List Nat} {k : Nat} : under p (some (p ++ [k])) = true := by simp [under]
theorem under_pre {p q : List Nat} (h : under p (some q) = true) : ∃ s, q = p ++ s := by
 simp only [under, Bool.and_eq_true, beq_iff_eq] at h
 exact ⟨q.drop p.length, by conv => lhs; rw [← List.take_append_drop p.length q, h.2]⟩
theorem under_self {p : List Nat} : under p (some p) = false := by simp [under]
theorem demote_own (I : Inv A hz hb O env tm w) {t : Nat} (ht : getS env t = .undef) {r : List Nat} {mk : List Nat} {ks : List LT} {rows : Rows} {c : Value} (h : Own hz O w (t :: r) (.nx none mk :: ks) rows c) :
  ∃ hz' hb' O', FzExt A hz hb hz' hb' ∧ Inv A hz' hb' O' env tm w ∧ Own hz' O' w (t :: r) ks rows c ∧ ∀ s, (∀ q, t :: r ≠ s ++ q) → (∀ q, s ≠ t :: r ++ q) → Keeps hz hb O w hz' hb' O' w s := by
 obtain ⟨h0, mk', ks', sk, e, hk2, hty, ⟨hts, a, cap, rfl, hcap, hd⟩, hlen, hnest⟩ := h.nx rfl
 cases e
 let hz' : GH := fun b => if under (t :: r) (O b) then w.heap[b]? else hz b
 let hb' : GH := fun b => if under (t :: r) (O b) then w.heap[b]? else hb b
 let O' : OM := fun b => if under (t :: r) (O b) then none else O b
 have hown : ∀ {b}, under (t :: r) (O b) = true → A b ∧ hb b = none ∧ hz b = none := by
  intro b hu
  cases hO : O b with
  | none => rw [hO] at hu; cases hu
  | some q =>
   obtain ⟨h1, h2, _⟩ := I.owned _ _ hO
   refine ⟨h1, h2, ?_⟩
   cases hx : hz b with
   | none => rfl
   | some o => rw [I.sub _ _ hx] at h2; cases h2
 have lez : hz.le hz' := fun b o e => by
  cases hu : under (t :: r) (O b) with
  | true => rw [(hown hu).2.2] at e; cases e
  | false => simp only [hz', hu, Bool.false_eq_true, if_false]; exact e
 have leb : hb.le hb' := fun b o e => by
  cases hu : under (t :: r) (O b) with
  | true => rw [(hown hu).2.1] at e; cases e
  | false => simp only [hb', hu, Bool.false_eq_true, if_false]; exact e
 have kp : ∀ s, (∀ q, t :: r ≠ s ++ q) → (∀ q, s ≠ t :: r ++ q) → Keeps hz hb O w hz' hb' O' w s := fun p hp hp2 => ⟨lez, leb, fun b q e => by
  have : under (t :: r) (O b) = false := by
   cases hu : under (t :: r) (O b) with
   | false => rfl
   | true =>
    rw [e] at hu
    obtain ⟨s, hs⟩ := under_pre hu
    rcases List.append_eq_append_iff.1 hs with ⟨a', h1, h2⟩ | ⟨a', h1, h2⟩
    ·exact (hp a' h1).elim
    ·exact (hp2 a' h1).elim
  exact ⟨by simp only [O', this, Bool.false_eq_true, if_false]; exact e, rfl⟩⟩
 refine ⟨hz', hb', O', ⟨lez, leb, fun b o e => ?_, fun b o e => ?_⟩, ⟨?_, ?_, ?_, I.fresh, I.glob.mono lez, ?_⟩, ?_, kp⟩
 ·cases hu : under (t :: r) (O b) with
  | true => right; simp only [hb', hu, if_true] at e; exact ⟨(hown hu).1, by simp only [hz', hu, if_true]; exact e⟩
  | false => simp only [hb', hu, Bool.false_eq_true, if_false] at e; exact .inl e
 ·cases hu : under (t :: r) (O b) with
  | true => exact .inr (hown hu).1
  | false => simp only [hz', hu, Bool.false_eq_true, if_false] at e; exact .inl e
 ·intro b o e
  cases hu : under (t :: r) (O b) with
  | true => simp only [hz', hu, if_true] at e; simp only [hb', hu, if_true]; exact e
  | false => simp only [hz', hu, Bool.false_eq_true, if_false] at e; simp only [hb', hu, Bool.false_eq_true, if_false]; exact I.sub _ _ e
 ·intro b o e
  cases hu : under (t :: r) (O b) with
  | true => simp only [hb', hu, if_true] at e; exact e
  | false => simp only [hb', hu, Bool.false_eq_true, if_false] at e; exact I.agree _ _ e
 ·intro b p e
  cases hu : under (t :: r) (O b) with
  | true => simp only [O', hu, if_true] at e; cases e
  | false =>
   simp only [O', hu, Bool.false_eq_true, if_false] at e
   simp only [hb', hu, Bool.false_eq_true, if_false]
   exact I.owned _ _ e
 ·intro s
  by_cases hs : s = t
  ·subst hs; rw [ht]; exact .inl trivial
  ·exact (I.rep s).keep (kp _ (fun q e => hs (by simp at e; exact e.1.symm)) fun q e => hs (by simp at e; exact e.1)) fun l _ => Pass.refl _ _ _ _
 ·refine .inl ⟨hk2, hty, a, cap, by rw [hlen], by omega, ?_⟩
  rcases hd with hd | ⟨blk, off, arr, ty, fr, rfl, hO, hw, hf, hs, hc⟩
  ·exact .inl hd
  rw [anyK_len] at hs hc
  right
  refine ⟨blk, off, arr, ty, fr, rfl, ?_, hw, hf, hs, fun i j row x e1 e2 => ?_⟩
  ·simp only [O', hO, under_self, Bool.false_eq_true, if_false]
  ·have hi : i < sk.length := by rw [hlen]; exact (List.getElem?_eq_some_iff.1 e1).1
   have hsi : sk[i]? = some sk[i] := List.getElem?_eq_getElem hi
   obtain ⟨y, h5, h6⟩ := hnest i j _ _ _ e1 hsi e2
   have hv := hc i j _ _ hsi h5
   generalize arr.getD (off + i * ks.length + j) undef = cc at hv ⊢
   unfold LeafX at h6
   split at h6
   ·obtain ⟨v, rfl, h6⟩ := h6
    cases hv
    rcases h6 with h6 | ⟨ts', rs', rfl, hm, hty', a', cap', rfl, hcap', hd'⟩
    ·cases h6
    rcases hd' with hd' | ⟨blk', off', arr', ty', fr', rfl, hO', hw', hf', hs', hc'⟩
    ·have hr0 : rs' = [] := List.eq_nil_of_length_eq_zero (by omega)
     subst hr0
     exact .nil _ _ _
    ·refine .lst (arr := arr') (t := ty') (fr := fr') ?_ hcap' ?_ hty' fun i j row x h1 h2 => (hc' i j row x h1 h2).mono lez
     ·simp only [hz', hO', under_of, if_true]
      exact hw'
     ·exact Nat.le_trans (Nat.add_le_add_left (Nat.mul_le_mul_right _ hcap') _) hs'
   ·subst h6
    exact hv.mono lez
theorem dem1_ok (I : Inv A hz hb O env tm w) {t : Nat} (ht : getS env t = .undef) {r : List Nat} {v : V} {c : Value} (h : RepL hz hb O w (t :: r) v c) :
  ∃ hz' hb' O', FzExt A hz hb hz' hb' ∧ Inv A hz' hb' O' env tm w ∧ RepL hz' hb' O' w (t :: r) (dem1 v) c ∧ ∀ s, (∀ q, t :: r ≠ s ++ q) → (∀ q, s ≠ t :: r ++ q) → Keeps hz hb O w hz' hb' O' w s := by
 by_cases hv : ∃ mk ks rows, v = .own (.nx none mk :: ks) rows
 ·obtain ⟨mk, ks, rows, rfl⟩ := hv
  exact demote_own I ht h
 ·refine ⟨hz, hb, O, FzExt.refl _ _ _, I, ?_, fun s _ _ => Keeps.refl _ _ _ _ _⟩
  have : dem1 v = v := by
   cases v <;> try rfl
   rename_i ts rows
   show V.own (demTs ts) rows = V.own ts rows
   congr 1
   rcases ts with _ | ⟨k0, ts⟩
   ·rfl
   ·cases k0 <;> try rfl
    rename_i h0 mk
    cases h0 with
    | none => exact (hv ⟨_, _, _, rfl⟩).elim
    | some _ => rfl
  rw [this]
  exact h
theorem dem_leaves {t : Nat} {r : List Nat} : ∀ {xs : List V} {k : Nat} {hz hb : GH} {O : OM} (_ : Inv A hz hb O env tm w) (_ : getS env t = .undef) {g : Nat → Value}
  (_ : ∀ j v, xs[j]? = some v → RepL hz hb O w (t :: r ++ [k + j]) v (g (k + j))),
  ∃ hz' hb' O', FzExt A hz hb hz' hb' ∧ Inv A hz' hb' O' env tm w ∧ (∀ s, (∀ i, k ≤ i → (∀ q, t :: r ++ [i] ≠ s ++ q) ∧ ∀ q, s ≠ t :: r ++ [i] ++ q) → Keeps hz hb O w hz' hb' O' w s) ∧
   ∀ j v, (xs.map dem1)[j]? = some v → RepL hz' hb' O' w (t :: r ++ [k + j]) v (g (k + j))
 | [], k, hz, hb, O, I, ht, g, hx => ⟨hz, hb, O, FzExt.refl _ _ _, I, fun s _ => Keeps.refl _ _ _ _ _, fun j v e => by simp at e⟩
 | x :: xs, k, hz, hb, O, I, ht, g, hx => by
  obtain ⟨hz1, hb1, O1, e1, I1, h1, k1⟩ := dem1_ok I ht (r := r ++ [k]) (hx 0 x rfl)
  obtain ⟨hz2, hb2, O2, e2, I2, k2, h2⟩ := dem_leaves (r := r) (xs := xs) (k := k + 1) (g := g) I1 ht (fun j v e => by
   have := hx (j + 1) v (by simpa using e)
   rw [show k + 1 + j = k + (j + 1) by omega]
   exact this.keep (k1 _ (by intro q e; simp at e) (by intro q e; simp at e)))
  refine ⟨hz2, hb2, O2, e1.trans e2, I2, fun s hs => (k1 s (hs k (Nat.le_refl _)).1 (hs k (Nat.le_refl _)).2).trans (k2 s fun i hi => hs i (by omega)), fun j v e => ?_⟩
  cases j with
  | zero =>
   simp at e
   subst e
   exact RepL.keep (k2 _ (by intro i hi; refine ⟨?_, ?_⟩ <;> (intro q e; simp at e; have := e.1; omega))) h1
  | succ j =>
   have := h2 j v (by simpa using e)
   rw [show k + 1 + j = k + (j + 1) by omega] at this
   exact this
theorem demV_ok (I : Inv A hz hb O env tm w) {t : Nat} (ht : getS env t = .undef) {r : List Nat} {kp : Bool} {v : V} {c : Value} (h : RepC hz hb O w (t :: r) v c) :
  ∃ hz' hb' O', FzExt A hz hb hz' hb' ∧ Inv A hz' hb' O' env tm w ∧ RepC hz' hb' O' w (t :: r) (demV kp v) c ∧ ∀ u s, u ≠ t → Keeps hz hb O w hz' hb' O' w (u :: s) := by
 have same : ∃ hz' hb' O', FzExt A hz hb hz' hb' ∧ Inv A hz' hb' O' env tm w ∧ RepC hz' hb' O' w (t :: r) v c ∧ ∀ u s, u ≠ t → Keeps hz hb O w hz' hb' O' w (u :: s) :=
  ⟨hz, hb, O, FzExt.refl _ _ _, I, h, fun u s _ => Keeps.refl _ _ _ _ _⟩
 cases kp with
 | true => exact same
 | false =>
  unfold demV
  simp only [cond_false]
  cases v <;> try exact same
  case own ts rows =>
   obtain ⟨hz', hb', O', e1, I1, h1, k1⟩ := dem1_ok I ht (v := .own ts rows) h
   exact ⟨hz', hb', O', e1, I1, h1, fun u s hu => k1 _ (by intro q e; simp at e; exact hu e.1.symm) (by intro q e; simp at e; exact hu e.1)⟩
  case agg xs =>
   obtain ⟨vs, rfl, hsz, hl⟩ := h
   obtain ⟨hz', hb', O', e1, I1, k1, h1⟩ := dem_leaves (r := r) (xs := xs) (k := 0) (g := fun j => vs.getD j undef) I ht (fun j v e => by rw [Nat.zero_add]; exact hl j v e)
   refine ⟨hz', hb', O', e1, I1, ⟨vs, rfl, by simpa using hsz, fun j v e => ?_⟩, fun u s hu => k1 _ fun i _ => ⟨by intro q e; simp at e; exact hu e.1.symm, by intro q e; simp at e; exact hu e.1⟩⟩
   have := h1 j v e
   rw [Nat.zero_add] at this
   exact this
end
end Go.Abs
end
