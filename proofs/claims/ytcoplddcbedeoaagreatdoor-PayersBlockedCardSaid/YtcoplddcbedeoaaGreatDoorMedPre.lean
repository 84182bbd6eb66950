/- A part of the proofs of the seat YtcoplddcbedeoaaGreatDoor: no statement of the seat stands here. -/
import Derived.Shelf.Small.Strs
import Derived.Shelf.Strings.SlTrimAscii
import Derived.Ground.Names2Prog
import Derived.Test.YtcoplddcbedeoaaGreatDoorProg
import Derived.KernelRfl
import Derived.Test.YtcoplddcbedeoaaGreatDoorAbsC
section
set_option linter.unusedVariables false
set_option linter.unusedSimpArgs false
set_option linter.unusedSectionVars false
namespace Go.Proofs.YtcoplddcbedeoaaGreatDoor.Med
open Go Go.Abs
instance tables : Globs where
 view := fun _ => none
def H : Hints where
 mode := fun f j => match f, j with
  | 98, 0 => .inout
  | 128, 0 => .inout
  | 155, 0 => .inout
  | 23, 2 => .fz
  | 24, 2 => .fz
  | 67, 2 => .fz
  | _, _ => .bor
 mv := fun f t => match f, t with
  | 4, 2 => true
  | 7, 5 => true
  | 7, 6 => true
  | 7, 7 => true
  | 7, 18 => true
  | 8, 6 => true
  | 9, 4 => true
  | 13, 2 => true
  | 14, 4 => true
  | 20, 4 => true
  | 21, 0 => true
  | 22, 2 => true
  | 23, 8 => true
  | 23, 9 => true
  | 24, 8 => true
  | 24, 9 => true
  | 25, 2 => true
  | 26, 2 => true
  | 27, 2 => true
  | 28, 2 => true
  | 29, 2 => true
  | 30, 8 => true
  | 30, 9 => true
  | 31, 4 => true
  | 32, 4 => true
  | 33, 6 => true
  | 33, 7 => true
  | 34, 2 => true
  | 35, 2 => true
  | 36, 6 => true
  | 37, 46 => true
  | 43, 4 => true
  | 44, 4 => true
  | 46, 4 => true
  | 48, 2 => true
  | 52, 2 => true
  | 56, 2 => true
  | 57, 5 => true
  | 57, 29 => true
  | 57, 30 => true
  | 58, 6 => true
  | 58, 8 => true
  | 58, 28 => true
  | 59, 4 => true
  | 60, 4 => true
  | 61, 4 => true
  | 63, 6 => true
  | 63, 7 => true
  | 64, 2 => true
  | 65, 6 => true
  | 66, 8 => true
  | 67, 8 => true
  | 67, 9 => true
  | 68, 4 => true
  | 68, 5 => true
  | 69, 4 => true
  | 70, 6 => true
  | 71, 2 => true
  | 72, 2 => true
  | 73, 4 => true
  | 74, 2 => true
  | 75, 6 => true
  | 76, 4 => true
  | 76, 5 => true
  | 77, 2 => true
  | 78, 6 => true
  | 79, 4 => true
  | 80, 4 => true
  | 81, 48 => true
  | 82, 2 => true
  | 86, 2 => true
  | 87, 4 => true
  | 94, 2 => true
  | 95, 2 => true
  | 96, 4 => true
  | 97, 3 => true
  | 99, 4 => true
  | 102, 4 => true
  | 104, 2 => true
  | 109, 2 => true
  | 110, 4 => true
  | 111, 2 => true
  | 112, 6 => true
  | 112, 7 => true
  | 113, 4 => true
  | 114, 5 => true
  | 114, 28 => true
  | 114, 30 => true
  | 115, 4 => true
  | 117, 4 => true
  | 117, 5 => true
  | 118, 4 => true
  | 120, 4 => true
  | 121, 4 => true
  | 122, 2 => true
  | 126, 2 => true
  | 131, 6 => true
  | 134, 4 => true
  | 135, 4 => true
  | 173, 2 => true
  | _, _ => false
 live := fun f i => match f, i with
  | 4, 13 => some [2, 3, 9, 10, 11, 12, 13, 14, 15, 23, 35, 40, 41, 43, 48, 49, 68, 73, 74, 75, 135]
  | 4, 16 => some [2, 3, 9, 23, 35, 40, 41, 135]
  | 13, 2 => some [0, 2, 5, 6, 7, 15]
  | 20, 5 => some [0, 1, 4, 12, 13, 26, 27]
  | 25, 5 => some [1, 2, 13, 14, 15, 16, 123]
  | 25, 10 => some [1, 2, 3, 4, 13, 14, 15, 16, 27, 123]
  | 25, 14 => some [1, 2, 3, 4, 13, 14, 15, 16, 50, 123]
  | 25, 26 => some [1, 2, 99, 100, 101, 102, 123]
  | 26, 7 => some [0, 2, 3, 4, 12, 13, 14, 15, 53]
  | 26, 20 => some [0, 2, 3, 4, 6, 12, 13, 14, 15, 36, 37, 38, 39, 53]
  | 27, 5 => some [0, 2, 8, 9, 10, 63]
  | 27, 9 => some [0, 2, 3, 4, 8, 9, 10, 15, 63]
  | 27, 11 => some [0, 2, 3, 4, 8, 9, 10, 25, 63]
  | 28, 5 => some [0, 2, 11, 12, 13, 104]
  | 28, 11 => some [0, 2, 3, 4, 11, 12, 13, 23, 104]
  | 28, 13 => some [0, 2, 3, 4, 11, 12, 13, 34, 104]
  | 28, 19 => some [0, 2, 3, 4, 11, 12, 13, 64, 104]
  | 28, 27 => some [0, 5, 88, 89, 90, 91, 104]
  | 29, 5 => some [0, 2, 8, 9, 10, 63]
  | 29, 9 => some [0, 2, 3, 4, 8, 9, 10, 15, 63]
  | 29, 11 => some [0, 2, 3, 4, 8, 9, 10, 25, 63]
  | 30, 4 => some [1, 2, 3, 4, 10, 11, 12, 30, 31, 32, 169, 170, 171, 172]
  | 30, 12 => some [1, 2, 3, 4, 10, 11, 12, 13, 14, 15, 16, 17, 30, 31, 32, 63, 69, 164, 169, 170, 171, 172]
  | 30, 17 => some [1, 2, 3, 4, 10, 11, 12, 14, 15, 16, 30, 31, 32, 63, 69, 70, 71, 72, 169, 170, 171, 172]
  | 30, 22 => some [1, 2, 3, 4, 10, 11, 12, 14, 15, 16, 20, 21, 30, 31, 32, 63, 69, 70, 71, 72, 164, 169, 170, 171, 172]
  | 30, 25 => some [1, 2, 3, 4, 10, 11, 12, 14, 15, 16, 20, 21, 22, 23, 30, 31, 32, 63, 69, 70, 71, 72, 87, 88, 89, 169, 170, 171, 172]
  | 30, 31 => some [1, 2, 3, 4, 10, 11, 12, 14, 15, 16, 20, 21, 22, 23, 26, 28, 30, 31, 32, 63, 69, 70, 71, 72, 87, 88, 89, 129, 169, 170, 171, 172]
  | 30, 35 => some [1, 2, 3, 4, 10, 11, 12, 14, 15, 16, 20, 21, 30, 31, 32, 63, 69, 70, 71, 72, 149, 164, 169, 170, 171, 172]
  | 31, 5 => some [0, 1, 4, 12, 13, 26, 27]
  | 43, 4 => some [0, 5, 6, 9, 10, 104, 105]
  | 43, 11 => some [0, 5, 6, 8, 9, 10, 99, 104, 105]
  | 43, 17 => some [0, 5, 6, 8, 9, 10, 99, 104, 105]
  | 48, 7 => some [0, 2, 3, 4, 10, 11, 12, 13, 99]
  | 48, 13 => some [0, 2, 3, 4, 5, 6, 10, 11, 12, 13, 23, 99]
  | 48, 15 => some [0, 2, 3, 4, 5, 6, 10, 11, 12, 13, 34, 99]
  | 48, 21 => some [0, 2, 3, 4, 5, 6, 10, 11, 12, 13, 64, 99]
  | 48, 25 => some [0, 2, 3, 4, 6, 10, 11, 12, 13, 99]
  | 56, 3 => some [0, 3, 8, 9, 10, 11, 29]
  | 56, 8 => some [0, 3, 5, 8, 9, 10, 11, 15, 16, 17, 18, 29]
  | 57, 2 => some [1, 2, 4, 5, 6, 31, 32]
  | 60, 9 => some [2, 4, 5, 33, 34]
  | 61, 2 => some [0, 1, 4, 7, 8, 19, 20]
  | 64, 3 => some [0, 3, 6, 7, 8, 33]
  | 67, 5 => some [3, 4, 10, 11, 12, 21, 23, 24, 25, 26, 78, 79, 80, 81]
  | 69, 2 => some [0, 1, 4, 7, 8, 18, 19]
  | 76, 2 => some [0, 1, 4, 5, 8, 9, 10, 21, 22]
  | 81, 3 => some [0, 2, 3, 17, 18, 19, 49]
  | 82, 5 => some [1, 2, 11, 12, 13, 14, 100]
  | 82, 13 => some [1, 2, 3, 4, 11, 12, 13, 14, 29, 100]
  | 82, 26 => some [1, 2, 76, 77, 78, 79, 100]
  | 86, 3 => some [0, 2, 3, 6, 7, 8, 18]
  | 111, 6 => some [0, 2, 3, 11, 12, 13, 14, 60]
  | 111, 12 => some [0, 2, 3, 5, 11, 12, 13, 14, 24, 60]
  | 111, 16 => some [0, 2, 3, 5, 11, 12, 13, 14, 60]
  | 111, 18 => some [0, 2, 3, 5, 11, 12, 13, 14, 43, 44, 45, 46, 60]
  | 112, 3 => some [0, 1, 2, 8, 9, 10, 49, 50, 51]
  | 114, 2 => some [1, 2, 4, 5, 6, 31, 32]
  | 114, 6 => some [1, 2, 4, 5, 6, 15, 16, 17, 18, 31, 32]
  | 115, 2 => some [0, 1, 4, 7, 8, 19, 20]
  | 116, 3 => some [0, 3, 20, 21, 22, 23, 24, 25, 117, 118]
  | 116, 8 => some [0, 3, 4, 5, 20, 21, 22, 23, 24, 25, 117, 118]
  | 116, 11 => some [0, 3, 4, 5, 6, 7, 20, 21, 22, 23, 24, 25, 40, 41, 42, 43, 44, 45, 117, 118]
  | 116, 15 => some [0, 3, 4, 5, 6, 7, 9, 20, 21, 22, 23, 24, 25, 40, 41, 42, 43, 44, 45, 75, 117, 118]
  | 116, 18 => some [0, 3, 4, 5, 20, 21, 22, 23, 24, 25, 93, 117, 118]
  | 121, 2 => some [0, 1, 4, 7, 8, 19, 20]
  | 128, 2 => some [0, 1, 2, 6, 7, 8, 63, 64, 65]
  | 128, 9 => some [0, 1, 2, 6, 63, 64, 65]
  | 128, 13 => some [0, 1, 2, 6, 7, 8, 63, 64, 65]
  | 155, 1 => some [0, 1, 2, 3, 8, 53, 54, 55, 56]
  | 155, 5 => some [0, 1, 2, 3, 8, 9, 53, 54, 55, 56]
  | 155, 7 => some [0, 1, 2, 3, 8, 9, 53, 54, 55, 56]
  | _, _ => none
 len := fun f => match f with
  | 4 => 136
  | 7 => 31
  | 8 => 22
  | 9 => 14
  | 13 => 16
  | 14 => 9
  | 20 => 28
  | 21 => 16
  | 22 => 25
  | 23 => 34
  | 24 => 34
  | 25 => 124
  | 26 => 54
  | 27 => 64
  | 28 => 105
  | 29 => 64
  | 30 => 173
  | 31 => 28
  | 32 => 14
  | 33 => 24
  | 34 => 16
  | 35 => 8
  | 36 => 13
  | 37 => 48
  | 43 => 106
  | 44 => 11
  | 46 => 66
  | 48 => 100
  | 52 => 21
  | 56 => 30
  | 57 => 33
  | 58 => 36
  | 59 => 11
  | 60 => 35
  | 61 => 21
  | 63 => 36
  | 64 => 34
  | 65 => 25
  | 66 => 33
  | 67 => 82
  | 68 => 13
  | 69 => 20
  | 70 => 18
  | 71 => 26
  | 72 => 6
  | 73 => 23
  | 74 => 27
  | 75 => 18
  | 76 => 23
  | 77 => 10
  | 78 => 13
  | 79 => 11
  | 80 => 24
  | 81 => 50
  | 82 => 101
  | 86 => 19
  | 87 => 22
  | 94 => 10
  | 95 => 12
  | 96 => 11
  | 97 => 11
  | 98 => 11
  | 99 => 18
  | 102 => 19
  | 104 => 21
  | 109 => 16
  | 110 => 29
  | 111 => 61
  | 112 => 52
  | 113 => 11
  | 114 => 33
  | 115 => 21
  | 116 => 119
  | 117 => 17
  | 118 => 10
  | 120 => 24
  | 121 => 21
  | 122 => 26
  | 126 => 7
  | 128 => 66
  | 131 => 24
  | 134 => 20
  | 135 => 10
  | 155 => 57
  | 173 => 7
  | _ => 0

end Go.Proofs.YtcoplddcbedeoaaGreatDoor.Med
end
section
set_option linter.unusedVariables false
set_option linter.unusedSimpArgs false
set_option linter.unusedSectionVars false
/-
 DERIVED: THE SHELF's CONTRACTS AT THIS DUMP, IN PLAIN WORDS (tools/lay-plain.mjs out of 'TryzTrimS.lean', which tools/lay-shelf.mjs wrote): THE SAME DECLARATIONS UNDER THE SAME NAMES: 'import', 'namespace', 'open', 'def', 'theorem' AND NOTHING ELSE: no command of the shelf's: FOR A HAND-IN. Each laying: the table of numbers ('.._ren') and one theorem, a field a fact of the dump's own or the kernel's comparison; each contract: ONE APPLICATION.
-/
namespace Go.Proofs
open Go.Shelf
def Tryz.lays160_ren : Go.Shelf.Ren := ⟨fun | 160 => 119 | 232 => 137 | 231 => 136 | 227 => 138 | 234 => 140 | 233 => 139 | 236 => 142 | 235 => 141 | 228 => 176 | 271 => 179 | 151 => 178 | 197 => 177 | 120 => 198 | 152 => 197 | 260 => 196 | 137 => 118 | 119 => 207 | 224 => 208 | 225 => 209 | 217 => 135 | 266 => 175 | n => n, fun | 9 => 9 | 4 => 4 | 3 => 3 | 5 => 5 | 117 => 177 | 116 => 176 | 0 => 0 | 124 => 180 | 21 => 21 | 105 => 204 | 46 => 167 | 119 => 231 | 139 => 234 | 138 => 233 | n => n, fun | 3 => 2 | 4 => 3 | n => n⟩
theorem Tryz.lays160 : Go.Proofs.Lays.n160 Tryz.prog Tryz.lays160_ren := {
 mixed := by kernel_rfl
 f119 := Tryz.func207.trans (congrArg some (by kernel_rfl))
 f120 := Tryz.func198.trans (congrArg some (by kernel_rfl))
 f137 := Tryz.func118.trans (congrArg some (by kernel_rfl))
 f151 := Tryz.func178.trans (congrArg some (by kernel_rfl))
 f152 := Tryz.func197.trans (congrArg some (by kernel_rfl))
 f160 := Tryz.func119.trans (congrArg some (by kernel_rfl))
 f197 := Tryz.func177.trans (congrArg some (by kernel_rfl))
 f217 := Tryz.func135.trans (congrArg some (by kernel_rfl))
 f224 := Tryz.func208.trans (congrArg some (by kernel_rfl))
 f225 := Tryz.func209.trans (congrArg some (by kernel_rfl))
 f227 := Tryz.func138.trans (congrArg some (by kernel_rfl))
 f228 := Tryz.func176.trans (congrArg some (by kernel_rfl))
 f231 := Tryz.func136.trans (congrArg some (by kernel_rfl))
 f232 := Tryz.func137.trans (congrArg some (by kernel_rfl))
 f233 := Tryz.func139.trans (congrArg some (by kernel_rfl))
 f234 := Tryz.func140.trans (congrArg some (by kernel_rfl))
 f235 := Tryz.func141.trans (congrArg some (by kernel_rfl))
 f236 := Tryz.func142.trans (congrArg some (by kernel_rfl))
 f260 := Tryz.func196.trans (congrArg some (by kernel_rfl))
 f266 := Tryz.func175.trans (congrArg some (by kernel_rfl))
 f271 := Tryz.func179.trans (congrArg some (by kernel_rfl))
 t0 := Tryz.underlying0
 a0 := Tryz.isAgg0
 z0 := Tryz.sizeOf0
 v0 := Tryz.zeroValue0
 t3 := Tryz.underlying3
 a3 := Tryz.isAgg3
 z3 := Tryz.sizeOf3
 v3 := Tryz.zeroValue3
 t4 := Tryz.underlying4
 a4 := Tryz.isAgg4
 z4 := Tryz.sizeOf4
 v4 := Tryz.zeroValue4
 t5 := Tryz.underlying5
 a5 := Tryz.isAgg5
 z5 := Tryz.sizeOf5
 v5 := Tryz.zeroValue5
 t9 := Tryz.underlying9
 a9 := Tryz.isAgg9
 z9 := Tryz.sizeOf9
 v9 := Tryz.zeroValue9
 t21 := Tryz.underlying21
 a21 := Tryz.isAgg21
 z21 := Tryz.sizeOf21
 v21 := Tryz.zeroValue21
 t46 := Tryz.underlying167
 a46 := Tryz.isAgg167
 z46 := Tryz.sizeOf167
 v46 := Tryz.zeroValue167
 t105 := Tryz.underlying204
 a105 := Tryz.isAgg204
 z105 := Tryz.sizeOf204
 v105 := Tryz.zeroValue204
 t116 := Tryz.underlying176
 a116 := Tryz.isAgg176
 z116 := Tryz.sizeOf176
 t117 := Tryz.underlying177
 a117 := Tryz.isAgg177
 z117 := Tryz.sizeOf177
 v117 := Tryz.zeroValue177
 t119 := Tryz.underlying231
 a119 := Tryz.isAgg231
 z119 := Tryz.sizeOf231
 t124 := Tryz.underlying180
 a124 := Tryz.isAgg180
 z124 := Tryz.sizeOf180
 v124 := Tryz.zeroValue180
 t138 := Tryz.underlying233
 a138 := Tryz.isAgg233
 z138 := Tryz.sizeOf233
 v138 := Tryz.zeroValue233
 t139 := Tryz.underlying234
 a139 := Tryz.isAgg234
 z139 := Tryz.sizeOf234
 v139 := Tryz.zeroValue234
 g3 := by kernel_rfl
 g4 := by kernel_rfl }
def Tryz.lays106_ren : Go.Shelf.Ren := ⟨fun | 106 => 88 | 213 => 127 | 265 => 154 | n => n, fun | 9 => 9 | 3 => 3 | n => n, fun | n => n⟩
theorem Tryz.lays106 : Go.Proofs.Lays.n106 Tryz.prog Tryz.lays106_ren := {
 mixed := by kernel_rfl
 f106 := Tryz.func88.trans (congrArg some (by kernel_rfl))
 f213 := Tryz.func127.trans (congrArg some (by kernel_rfl))
 f265 := Tryz.func154.trans (congrArg some (by kernel_rfl))
 t3 := Tryz.underlying3
 a3 := Tryz.isAgg3
 z3 := Tryz.sizeOf3
 v3 := Tryz.zeroValue3
 t9 := Tryz.underlying9
 a9 := Tryz.isAgg9
 z9 := Tryz.sizeOf9
 v9 := Tryz.zeroValue9 }
open Go.RowKit in
/-- - -/
theorem Tryz.strings_Compare (a b : ByteArray) (w : World) :
  Calls Tryz.prog 88 #[.string a, .string b] w fun e w' => e = .returned (.int .i64 (Lib.compareBytes a.data.toList b.data.toList)) ∧ w' = w := Any.strings_Compare Tryz.lays106 a b w
end Go.Proofs
end
section
set_option linter.unusedVariables false
set_option linter.unusedSimpArgs false
set_option linter.unusedSectionVars false
namespace Go.Proofs.YtcoplddcbedeoaaGreatDoor.Med
open Go Go.Abs Go.Proofs
theorem trim119 (s c : ByteArray) (h : trimOk s c = true) : FnOk Tryz.prog 119 [.f (.lit (.string s)), .f (.lit (.string c))] (.f (.lit (.string (trimB s c)))) [.undef, .undef] := by
 simp only [trimOk, Bool.and_eq_true, decide_eq_true_eq, List.all_eq_true] at h
 obtain ⟨h1, h2, h3⟩ := h
 obtain ⟨body, hb⟩ : ∃ b, Tryz.f119.body = some b := ⟨_, rfl⟩
 refine fnOk_lit (P := Tryz.prog) Tryz.func119 (by kernel_rfl) hb (xs := [.string s, .string c]) rfl fun w => ?_
 exact Any.strings_Trim_laid Tryz.lays160 (by kernel_rfl) s c w (by omega) (by omega) fun j b e => h3 b (List.mem_of_getElem? e)
theorem cmp88 (s c : ByteArray) : FnOk Tryz.prog 88 [.f (.lit (.string s)), .f (.lit (.string c))] (vInt .i64 (cmpB s c)) [.undef, .undef] := by
 obtain ⟨body, hb⟩ : ∃ b, Tryz.f88.body = some b := ⟨_, rfl⟩
 refine fnOk_lit (P := Tryz.prog) Tryz.func88 (by kernel_rfl) hb (xs := [.string s, .string c]) rfl fun w => ?_
 exact (Tryz.strings_Compare s c w).mono fun e w' ⟨h1, h2⟩ => ⟨h1, h2 ▸ RowKit.Below.refl _ _⟩
end Go.Proofs.YtcoplddcbedeoaaGreatDoor.Med
end
