/- A part of the proofs of the seat YtcoplddcbedeoaaDoor: no statement of the seat stands here. -/
import Derived.Shelf.Small.Strs
import Derived.Shelf.Strings.SlTrimAscii
import Derived.Ground.Names2Prog
import Derived.Test.YtcoplddcbedeoaaDoorProg
import Derived.KernelRfl
import Derived.Test.YtcoplddcbedeoaaDoorAbsC
section
set_option linter.unusedVariables false
set_option linter.unusedSimpArgs false
set_option linter.unusedSectionVars false
namespace Go.Proofs.YtcoplddcbedeoaaDoor.Med
open Go Go.Abs
instance tables : Globs where
  view := fun _ => none
def H : Hints where
  mode := fun f j => match f, j with
    | _, _ => .bor
  mv := fun f t => match f, t with
    | 3, 2 => true
    | 4, 46 => true
    | 5, 2 => true
    | 6, 2 => true
    | 7, 4 => true
    | 8, 5 => true
    | 8, 13 => true
    | 8, 18 => true
    | 8, 27 => true
    | 8, 28 => true
    | 9, 6 => true
    | 9, 7 => true
    | 10, 4 => true
    | 10, 5 => true
    | 10, 6 => true
    | 11, 4 => true
    | 12, 2 => true
    | 13, 2 => true
    | 14, 2 => true
    | 15, 2 => true
    | 16, 2 => true
    | 17, 2 => true
    | 18, 5 => true
    | 18, 28 => true
    | 18, 30 => true
    | 19, 4 => true
    | 20, 4 => true
    | 20, 5 => true
    | 21, 0 => true
    | 22, 48 => true
    | 23, 4 => true
    | 24, 4 => true
    | 25, 6 => true
    | 26, 4 => true
    | 27, 2 => true
    | 28, 2 => true
    | 29, 5 => true
    | 29, 29 => true
    | 29, 30 => true
    | 30, 6 => true
    | 31, 4 => true
    | 32, 2 => true
    | 33, 4 => true
    | 33, 5 => true
    | 34, 6 => true
    | 35, 4 => true
    | 36, 2 => true
    | 37, 2 => true
    | 38, 2 => true
    | 39, 4 => true
    | 40, 4 => true
    | 41, 6 => true
    | 42, 6 => true
    | 43, 6 => true
    | 43, 7 => true
    | 44, 4 => true
    | 45, 4 => true
    | 46, 4 => true
    | 46, 5 => true
    | 47, 4 => true
    | 48, 4 => true
    | 49, 4 => true
    | 50, 2 => true
    | 51, 4 => true
    | 52, 4 => true
    | 53, 4 => true
    | 54, 4 => true
    | 55, 4 => true
    | 56, 3 => true
    | 56, 17 => true
    | 56, 20 => true
    | 57, 4 => true
    | 58, 4 => true
    | 59, 4 => true
    | 60, 4 => true
    | 63, 4 => true
    | 64, 2 => true
    | 64, 3 => true
    | 65, 4 => true
    | 66, 2 => true
    | 66, 3 => true
    | 67, 2 => true
    | 67, 3 => true
    | 68, 4 => true
    | 69, 2 => true
    | 70, 2 => true
    | 71, 2 => true
    | _, _ => false
  live := fun f i => match f, i with
    | 3, 7 => some [2, 4, 5, 6, 7, 8, 9, 10, 11, 12, 13, 14, 16, 17, 18, 32, 166]
    | 3, 10 => some [2, 4, 5, 6, 7, 8, 9, 10, 11, 12, 13, 14, 16, 17, 18, 32, 166]
    | 3, 16 => some [2, 5, 6, 7, 8, 9, 10, 11, 12, 13, 14, 16, 17, 18, 19, 22, 23, 24, 25, 32, 166]
    | 3, 18 => some [2, 5, 6, 8, 9, 10, 11, 12, 13, 14, 16, 17, 18, 22, 23, 24, 25, 32, 166]
    | 3, 20 => some [2, 8, 9, 10, 11, 12, 13, 14, 16, 17, 18, 22, 23, 24, 25, 166]
    | 13, 2 => some [0, 2, 5, 6, 7, 15]
    | 14, 5 => some [1, 2, 13, 14, 15, 16, 123]
    | 14, 10 => some [1, 2, 3, 4, 13, 14, 15, 16, 27, 123]
    | 14, 14 => some [1, 2, 3, 4, 13, 14, 15, 16, 50, 123]
    | 14, 26 => some [1, 2, 99, 100, 101, 102, 123]
    | 15, 7 => some [0, 2, 3, 4, 12, 13, 14, 15, 53]
    | 15, 20 => some [0, 2, 3, 4, 6, 12, 13, 14, 15, 36, 37, 38, 39, 53]
    | 16, 5 => some [1, 2, 11, 12, 13, 14, 100]
    | 16, 13 => some [1, 2, 3, 4, 11, 12, 13, 14, 29, 100]
    | 16, 26 => some [1, 2, 76, 77, 78, 79, 100]
    | 17, 6 => some [0, 2, 3, 11, 12, 13, 14, 60]
    | 17, 12 => some [0, 2, 3, 5, 11, 12, 13, 14, 24, 60]
    | 17, 16 => some [0, 2, 3, 5, 11, 12, 13, 14, 60]
    | 17, 18 => some [0, 2, 3, 5, 11, 12, 13, 14, 43, 44, 45, 46, 60]
    | 18, 2 => some [1, 2, 4, 5, 6, 31, 32]
    | 18, 6 => some [1, 2, 4, 5, 6, 15, 16, 17, 18, 31, 32]
    | 19, 9 => some [2, 4, 5, 33, 34]
    | 20, 2 => some [0, 1, 4, 5, 8, 9, 10, 21, 22]
    | 22, 3 => some [0, 2, 3, 17, 18, 19, 49]
    | 29, 2 => some [1, 2, 4, 5, 6, 31, 32]
    | 32, 3 => some [0, 3, 8, 9, 10, 11, 29]
    | 32, 8 => some [0, 3, 5, 8, 9, 10, 11, 15, 16, 17, 18, 29]
    | 35, 2 => some [0, 1, 4, 7, 8, 18, 19]
    | 43, 3 => some [0, 1, 2, 8, 9, 10, 49, 50, 51]
    | 48, 3 => some [0, 1, 4, 43, 44]
    | 48, 4 => some [0, 1, 4, 21, 43, 44]
    | 48, 6 => some [0, 1, 4, 43, 44]
    | 49, 2 => some [0, 1, 4, 7, 8, 19, 20]
    | 54, 1 => some [0, 1, 17, 18]
    | 55, 1 => some [0, 1, 23, 24]
    | 56, 2 => some [0, 2, 3, 4, 21]
    | 57, 1 => some [0, 1, 16, 17]
    | 58, 1 => some [0, 1, 22, 23]
    | 59, 1 => some [0, 1, 23, 24]
    | 60, 1 => some [0, 1, 34, 35]
    | 60, 6 => some [0, 1, 5, 6, 34, 35]
    | 64, 1 => some [0, 2, 3, 10, 19]
    | 66, 12 => some [0, 4, 5, 6, 51]
    | 66, 19 => some [0, 2, 3, 4, 5, 51]
    | 67, 19 => some [0, 2, 3, 5, 8, 10, 117]
    | 67, 26 => some [0, 2, 3, 5, 8, 10, 11, 117]
    | 67, 33 => some [2, 3, 5, 10, 11, 12, 117]
    | 68, 1 => some [0, 1, 4, 160, 187, 188]
    | 68, 5 => some [4, 175, 187, 188]
    | 68, 19 => some [0, 4, 7, 8, 9, 187, 188]
    | 68, 27 => some [0, 4, 7, 8, 9, 187, 188]
    | 68, 29 => some [0, 7, 8, 9, 12, 187, 188]
    | 68, 51 => some [0, 4, 7, 8, 9, 14, 15, 187, 188]
    | 68, 54 => some [0, 4, 7, 8, 9, 14, 15, 139, 187, 188]
    | 68, 56 => some [0, 4, 7, 8, 9, 14, 15, 16, 187, 188]
    | 70, 1 => some [0, 2, 3, 17]
    | _, _ => none
  len := fun f => match f with
    | 3 => 167
    | 4 => 48
    | 5 => 21
    | 6 => 12
    | 7 => 14
    | 8 => 31
    | 9 => 36
    | 10 => 29
    | 11 => 9
    | 12 => 26
    | 13 => 16
    | 14 => 124
    | 15 => 54
    | 16 => 101
    | 17 => 61
    | 18 => 33
    | 19 => 35
    | 20 => 23
    | 21 => 16
    | 22 => 50
    | 23 => 11
    | 24 => 66
    | 25 => 25
    | 26 => 14
    | 27 => 16
    | 28 => 21
    | 29 => 33
    | 30 => 18
    | 31 => 29
    | 32 => 30
    | 33 => 13
    | 34 => 18
    | 35 => 20
    | 36 => 16
    | 37 => 26
    | 38 => 27
    | 39 => 11
    | 40 => 18
    | 41 => 22
    | 42 => 24
    | 43 => 52
    | 44 => 11
    | 45 => 10
    | 46 => 17
    | 47 => 10
    | 48 => 45
    | 49 => 21
    | 50 => 7
    | 51 => 10
    | 52 => 20
    | 53 => 10
    | 54 => 19
    | 55 => 25
    | 56 => 22
    | 57 => 18
    | 58 => 24
    | 59 => 25
    | 60 => 36
    | 61 => 4
    | 62 => 4
    | 63 => 12
    | 64 => 20
    | 65 => 11
    | 66 => 52
    | 67 => 118
    | 68 => 189
    | 69 => 7
    | 70 => 18
    | 71 => 7
    | 72 => 4
    | 73 => 2
    | 74 => 2
    | 75 => 2
    | 76 => 2
    | 77 => 2
    | 78 => 2
    | 79 => 2
    | 80 => 2
    | 81 => 2
    | 82 => 2
    | 83 => 2
    | 84 => 2
    | 85 => 2
    | 86 => 2
    | 87 => 2
    | 88 => 2
    | 89 => 2
    | 90 => 0
    | 91 => 0
    | 92 => 0
    | 93 => 0
    | 94 => 6
    | _ => 0

end Go.Proofs.YtcoplddcbedeoaaDoor.Med
end
section
set_option linter.unusedVariables false
set_option linter.unusedSimpArgs false
set_option linter.unusedSectionVars false
/-
  DERIVED: THE SHELF's CONTRACTS AT THIS DUMP, IN PLAIN WORDS (tools/lay-plain.mjs out of 'TrydTrimS.lean', which tools/lay-shelf.mjs wrote): THE SAME DECLARATIONS UNDER THE SAME NAMES: 'import', 'namespace', 'open', 'def', 'theorem' AND NOTHING ELSE: no command of the shelf's: FOR A HAND-IN. Each laying: the table of numbers ('.._ren') and one theorem, a field a fact of the dump's own or the kernel's comparison; each contract: ONE APPLICATION.
-/
namespace Go.Proofs
open Go.Shelf
def Tryd.lays160_ren : Go.Shelf.Ren := ⟨fun | 160 => 48 | 232 => 55 | 231 => 54 | 227 => 56 | 234 => 58 | 233 => 57 | 236 => 60 | 235 => 59 | 228 => 63 | 271 => 66 | 151 => 65 | 197 => 64 | 120 => 69 | 152 => 68 | 260 => 67 | 137 => 47 | 119 => 70 | 224 => 71 | 225 => 72 | 217 => 53 | 266 => 62 | n => n, fun | 9 => 9 | 4 => 4 | 3 => 3 | 5 => 5 | 117 => 83 | 116 => 82 | 0 => 0 | 124 => 86 | 21 => 21 | 105 => 88 | 46 => 79 | 119 => 92 | 139 => 95 | 138 => 94 | n => n, fun | 3 => 1 | 4 => 2 | n => n⟩
theorem Tryd.lays160 : Go.Proofs.Lays.n160 Tryd.prog Tryd.lays160_ren := {
  mixed := by kernel_rfl
  f119 := Tryd.func70.trans (congrArg some (by kernel_rfl))
  f120 := Tryd.func69.trans (congrArg some (by kernel_rfl))
  f137 := Tryd.func47.trans (congrArg some (by kernel_rfl))
  f151 := Tryd.func65.trans (congrArg some (by kernel_rfl))
  f152 := Tryd.func68.trans (congrArg some (by kernel_rfl))
  f160 := Tryd.func48.trans (congrArg some (by kernel_rfl))
  f197 := Tryd.func64.trans (congrArg some (by kernel_rfl))
  f217 := Tryd.func53.trans (congrArg some (by kernel_rfl))
  f224 := Tryd.func71.trans (congrArg some (by kernel_rfl))
  f225 := Tryd.func72.trans (congrArg some (by kernel_rfl))
  f227 := Tryd.func56.trans (congrArg some (by kernel_rfl))
  f228 := Tryd.func63.trans (congrArg some (by kernel_rfl))
  f231 := Tryd.func54.trans (congrArg some (by kernel_rfl))
  f232 := Tryd.func55.trans (congrArg some (by kernel_rfl))
  f233 := Tryd.func57.trans (congrArg some (by kernel_rfl))
  f234 := Tryd.func58.trans (congrArg some (by kernel_rfl))
  f235 := Tryd.func59.trans (congrArg some (by kernel_rfl))
  f236 := Tryd.func60.trans (congrArg some (by kernel_rfl))
  f260 := Tryd.func67.trans (congrArg some (by kernel_rfl))
  f266 := Tryd.func62.trans (congrArg some (by kernel_rfl))
  f271 := Tryd.func66.trans (congrArg some (by kernel_rfl))
  t0 := Tryd.underlying0
  a0 := Tryd.isAgg0
  z0 := Tryd.sizeOf0
  v0 := Tryd.zeroValue0
  t3 := Tryd.underlying3
  a3 := Tryd.isAgg3
  z3 := Tryd.sizeOf3
  v3 := Tryd.zeroValue3
  t4 := Tryd.underlying4
  a4 := Tryd.isAgg4
  z4 := Tryd.sizeOf4
  v4 := Tryd.zeroValue4
  t5 := Tryd.underlying5
  a5 := Tryd.isAgg5
  z5 := Tryd.sizeOf5
  v5 := Tryd.zeroValue5
  t9 := Tryd.underlying9
  a9 := Tryd.isAgg9
  z9 := Tryd.sizeOf9
  v9 := Tryd.zeroValue9
  t21 := Tryd.underlying21
  a21 := Tryd.isAgg21
  z21 := Tryd.sizeOf21
  v21 := Tryd.zeroValue21
  t46 := Tryd.underlying79
  a46 := Tryd.isAgg79
  z46 := Tryd.sizeOf79
  v46 := Tryd.zeroValue79
  t105 := Tryd.underlying88
  a105 := Tryd.isAgg88
  z105 := Tryd.sizeOf88
  v105 := Tryd.zeroValue88
  t116 := Tryd.underlying82
  a116 := Tryd.isAgg82
  z116 := Tryd.sizeOf82
  t117 := Tryd.underlying83
  a117 := Tryd.isAgg83
  z117 := Tryd.sizeOf83
  v117 := Tryd.zeroValue83
  t119 := Tryd.underlying92
  a119 := Tryd.isAgg92
  z119 := Tryd.sizeOf92
  t124 := Tryd.underlying86
  a124 := Tryd.isAgg86
  z124 := Tryd.sizeOf86
  v124 := Tryd.zeroValue86
  t138 := Tryd.underlying94
  a138 := Tryd.isAgg94
  z138 := Tryd.sizeOf94
  v138 := Tryd.zeroValue94
  t139 := Tryd.underlying95
  a139 := Tryd.isAgg95
  z139 := Tryd.sizeOf95
  v139 := Tryd.zeroValue95
  g3 := by kernel_rfl
  g4 := by kernel_rfl }
def Tryd.lays106_ren : Go.Shelf.Ren := ⟨fun | 106 => 45 | 213 => 51 | 265 => 61 | n => n, fun | 9 => 9 | 3 => 3 | n => n, fun | n => n⟩
theorem Tryd.lays106 : Go.Proofs.Lays.n106 Tryd.prog Tryd.lays106_ren := {
  mixed := by kernel_rfl
  f106 := Tryd.func45.trans (congrArg some (by kernel_rfl))
  f213 := Tryd.func51.trans (congrArg some (by kernel_rfl))
  f265 := Tryd.func61.trans (congrArg some (by kernel_rfl))
  t3 := Tryd.underlying3
  a3 := Tryd.isAgg3
  z3 := Tryd.sizeOf3
  v3 := Tryd.zeroValue3
  t9 := Tryd.underlying9
  a9 := Tryd.isAgg9
  z9 := Tryd.sizeOf9
  v9 := Tryd.zeroValue9 }
open Go.RowKit in
/-- strings.Compare: "Compare returns an integer comparing two strings lexicographically. The result will be 0 if a == b, -1 if a < b, and +1 if a > b.": IT RETURNS 'Lib.compareBytes a b'; the world is as it was. (LAID: no walk: one application.) -/
theorem Tryd.strings_Compare (a b : ByteArray) (w : World) :
    Calls Tryd.prog 45 #[.string a, .string b] w fun e w' => e = .returned (.int .i64 (Lib.compareBytes a.data.toList b.data.toList)) ∧ w' = w := Any.strings_Compare Tryd.lays106 a b w
end Go.Proofs
end
section
set_option linter.unusedVariables false
set_option linter.unusedSimpArgs false
set_option linter.unusedSectionVars false
namespace Go.Proofs.YtcoplddcbedeoaaDoor.Med
open Go Go.Abs Go.Proofs
theorem trim48 (s c : ByteArray) (h : trimOk s c = true) : FnOk Tryd.prog 48 [.f (.lit (.string s)), .f (.lit (.string c))] (.f (.lit (.string (trimB s c)))) [.undef, .undef] := by
  simp only [trimOk, Bool.and_eq_true, decide_eq_true_eq, List.all_eq_true] at h
  obtain ⟨h1, h2, h3⟩ := h
  obtain ⟨body, hb⟩ : ∃ b, Tryd.f48.body = some b := ⟨_, rfl⟩
  refine fnOk_lit (P := Tryd.prog) Tryd.func48 (by kernel_rfl) hb (xs := [.string s, .string c]) rfl fun w => ?_
  exact Any.strings_Trim_laid Tryd.lays160 (by kernel_rfl) s c w (by omega) (by omega) fun j b e => h3 b (List.mem_of_getElem? e)
theorem cmp45 (s c : ByteArray) : FnOk Tryd.prog 45 [.f (.lit (.string s)), .f (.lit (.string c))] (vInt .i64 (cmpB s c)) [.undef, .undef] := by
  obtain ⟨body, hb⟩ : ∃ b, Tryd.f45.body = some b := ⟨_, rfl⟩
  refine fnOk_lit (P := Tryd.prog) Tryd.func45 (by kernel_rfl) hb (xs := [.string s, .string c]) rfl fun w => ?_
  exact (Tryd.strings_Compare s c w).mono fun e w' ⟨h1, h2⟩ => ⟨h1, h2 ▸ RowKit.Below.refl _ _⟩
end Go.Proofs.YtcoplddcbedeoaaDoor.Med
end
