/- A part of the proofs of the seat YtjhfbmhblpjigaaGreatDoor: no statement of the seat stands here. -/
import Derived.Shelf.Small.Strs
import Derived.Shelf.Strings.SlTrimAscii
import Derived.Ground.Names2Prog
import Derived.Shelf.Strconv.Itoa3
import Derived.Shelf.Strconv.Atoi
import Derived.Shelf.Strings.Cut
import Derived.Shelf.Strings.Split
import Derived.Shelf.Strings.Shaped
import Derived.Shelf.LaysM
import Derived.Test.YtjhfbmhblpjigaaGreatDoorProg
import Derived.KernelRfl
import Derived.Lib.AppendIntMem
import Derived.Lib.AtoiErrMem
import Derived.Lib.CleanWalkFns
import Derived.Test.YtjhfbmhblpjigaaGreatDoorAbsD
section
set_option linter.unusedVariables false
set_option linter.unusedSimpArgs false
set_option linter.unusedSectionVars false
namespace Go.Proofs.YtjhfbmhblpjigaaGreatDoor.Med
open Go Go.Abs
instance tables : Globs where
 view := fun _ => none
 known := fun g => match g with
  | 0 => some (· = (Lib.pow10Tab.map fun z => Value.int .u64 z).toArray)
  | 1 => some (fun cs => ∃ m, cs[0]? = some (.int .i64 m))
  | _ => none
def H : Hints where
 mode := fun f j => match f, j with
  | 40, 1 => .inout
  | 44, 1 => .inout
  | 41, 1 => .inout
  | 45, 1 => .inout
  | 36, 0 => .own
  | 11, 1 => .fz
  | _, _ => .bor
 mv := fun f t => match f, t with
  | 3, 2 => true
  | 4, 2 => true
  | 5, 2 => true
  | 6, 4 => true
  | 6, 5 => true
  | 7, 2 => true
  | 7, 3 => true
  | 8, 2 => true
  | 9, 2 => true
  | 10, 2 => true
  | 11, 4 => true
  | 12, 4 => true
  | 13, 2 => true
  | 14, 2 => true
  | 14, 3 => true
  | 14, 4 => true
  | 15, 2 => true
  | 15, 3 => true
  | 15, 4 => true
  | 16, 4 => true
  | 17, 0 => true
  | 18, 2 => true
  | 19, 4 => true
  | 20, 6 => true
  | 21, 4 => true
  | 22, 4 => true
  | 23, 6 => true
  | 24, 4 => true
  | 25, 3 => true
  | 26, 4 => true
  | 28, 6 => true
  | 29, 3 => true
  | 30, 2 => true
  | 31, 3 => true
  | 32, 6 => true
  | 33, 3 => true
  | 34, 2 => true
  | 35, 3 => true
  | 36, 4 => true
  | 37, 2 => true
  | 38, 3 => true
  | 39, 3 => true
  | 40, 4 => true
  | 40, 5 => true
  | 41, 3 => true
  | 42, 2 => true
  | 42, 3 => true
  | 43, 4 => true
  | 43, 5 => true
  | 44, 4 => true
  | 44, 5 => true
  | 45, 3 => true
  | 46, 2 => true
  | 46, 3 => true
  | 47, 4 => true
  | 47, 5 => true
  | 48, 2 => true
  | 49, 4 => true
  | 50, 6 => true
  | 51, 4 => true
  | 53, 4 => true
  | 57, 4 => true
  | 57, 5 => true
  | 59, 4 => true
  | 60, 4 => true
  | 61, 4 => true
  | 63, 4 => true
  | 73, 4 => true
  | 73, 5 => true
  | 76, 4 => true
  | 77, 4 => true
  | 82, 4 => true
  | 91, 4 => true
  | _, _ => false
 nx := fun f t => match f, t with
  | _, _ => []
 al := fun f t => match f, t with
  | _, _ => false
 keep := fun f => match f with
  | _ => false
 live := fun f i => match f, i with
  | 3, 12 => some [2, 4, 6, 7, 8, 9, 10, 11, 12, 13, 25, 30, 33, 34, 57, 114]
  | 3, 15 => some [2, 6, 7, 8, 9, 10, 11, 12, 13, 14, 30, 33, 34, 57, 114]
  | 5, 3 => some [0, 3, 9, 10, 17]
  | 6, 11 => some [0, 1, 8, 21, 22, 23, 39, 40]
  | 7, 7 => some [0, 5, 13, 14, 15, 36]
  | 8, 5 => some [0, 2, 8, 9, 10, 43]
  | 9, 2 => some [0, 2, 5, 6, 7, 15]
  | 10, 5 => some [0, 2, 8, 9, 10, 38]
  | 13, 3 => some [0, 3, 6, 7, 8, 29]
  | 16, 5 => some [0, 1, 4, 12, 13, 26, 27]
  | 18, 3 => some [0, 3, 7, 8, 9, 45]
  | 23, 3 => some [0, 1, 2, 6, 63, 64, 65]
  | 36, 6 => some [0, 1, 5, 6, 42, 43]
  | 40, 2 => some [0, 1, 4, 5, 6, 30, 31]
  | 41, 4 => some [1, 3, 4, 10, 12, 13, 49, 50]
  | 42, 3 => some [2, 3, 4, 8, 9, 10, 11, 19]
  | 43, 4 => some [0, 4, 5, 48, 49]
  | 44, 2 => some [0, 1, 4, 5, 6, 30, 31]
  | 45, 4 => some [1, 3, 4, 10, 12, 13, 49, 50]
  | 47, 4 => some [0, 4, 5, 38, 39]
  | 51, 2 => some [0, 1, 4, 7, 8, 19, 20]
  | 53, 2 => some [0, 1, 4, 7, 8, 18, 19]
  | 54, 3 => some [0, 1, 4, 43, 44]
  | 54, 4 => some [0, 1, 4, 21, 43, 44]
  | 54, 6 => some [0, 1, 4, 43, 44]
  | 62, 4 => some [0, 1, 4, 54, 55]
  | 62, 8 => some [0, 1, 4, 5, 6, 54, 55]
  | 64, 1 => some [0, 1, 17, 18]
  | 65, 1 => some [0, 1, 23, 24]
  | 66, 2 => some [0, 2, 3, 4, 21]
  | 67, 1 => some [0, 1, 16, 17]
  | 68, 1 => some [0, 1, 22, 23]
  | 69, 1 => some [0, 1, 23, 24]
  | 70, 1 => some [0, 1, 34, 35]
  | 70, 6 => some [0, 1, 5, 6, 34, 35]
  | 72, 8 => some [0, 1, 2, 3, 8, 9, 18, 31, 62, 64, 65, 66, 67, 68, 69]
  | 72, 13 => some [0, 1, 2, 3, 9, 10, 31, 66, 67, 68, 69]
  | 74, 2 => some [0, 2, 3, 30, 45, 57, 77]
  | 74, 4 => some [0, 2, 3, 5, 39, 45, 77]
  | 74, 8 => some [0, 2, 3, 5, 45, 57, 77]
  | 74, 11 => some [2, 3, 5, 6, 46, 47, 48, 49, 77]
  | 74, 24 => some [0, 2, 3, 10, 45, 57, 70, 72, 74, 76, 77]
  | 76, 2 => some [0, 1, 4, 7, 8, 19, 20]
  | 80, 1 => some [0, 1, 4, 167, 168]
  | 80, 21 => some [0, 4, 12, 167, 168]
  | 80, 26 => some [0, 4, 12, 167, 168]
  | 81, 2 => some [0, 1, 2, 3, 4, 10, 11, 98, 102, 103, 104, 105, 106]
  | 81, 6 => some [0, 1, 2, 3, 4, 10, 11, 12, 13, 98, 102, 103, 104, 105, 106]
  | 81, 11 => some [0, 1, 3, 4, 10, 11, 12, 13, 14, 15, 16, 102, 103, 104, 105, 106]
  | 81, 19 => some [0, 1, 3, 4, 10, 11, 12, 13, 17, 102, 103, 104, 105, 106]
  | 81, 27 => some [0, 3, 4, 10, 11, 12, 13, 98, 102, 103, 104, 105, 106]
  | 81, 30 => some [0, 4, 10, 11, 12, 13, 98, 102, 103, 104, 105, 106]
  | 84, 1 => some [0, 2, 3, 10, 19]
  | 86, 12 => some [0, 4, 5, 6, 51]
  | 86, 19 => some [0, 2, 3, 4, 5, 51]
  | 87, 2 => some [0, 1, 4, 5, 16, 143, 144]
  | 87, 10 => some [0, 1, 4, 5, 143, 144]
  | 87, 16 => some [0, 1, 4, 5, 6, 7, 8, 9, 10, 143, 144]
  | 87, 24 => some [0, 1, 4, 5, 6, 7, 8, 9, 10, 143, 144]
  | 87, 27 => some [0, 1, 4, 5, 6, 7, 8, 9, 10, 143, 144]
  | 87, 30 => some [0, 1, 4, 5, 6, 7, 8, 9, 10, 107, 143, 144]
  | 87, 36 => some [0, 1, 4, 5, 6, 7, 8, 9, 10, 132, 143, 144]
  | 88, 3 => some [0, 1, 4, 6, 21, 49, 50, 51]
  | 88, 6 => some [0, 1, 6, 7, 21, 50, 51]
  | 89, 8 => some [0, 1, 4, 5, 34, 35]
  | 92, 9 => some [0, 1, 2, 6, 7, 8, 14, 25, 29, 31, 39, 56, 66, 73, 74, 75]
  | 92, 14 => some [2, 6, 7, 8, 9, 14, 25, 29, 31, 39, 56, 66, 73, 74, 75]
  | 92, 16 => some [2, 6, 7, 8, 9, 14, 25, 29, 31, 39, 56, 66, 73, 74, 75]
  | 92, 20 => some [6, 7, 8, 9, 10, 14, 25, 29, 31, 39, 56, 66, 73, 74, 75]
  | 92, 23 => some [6, 7, 8, 9, 14, 25, 29, 31, 39, 56, 66, 73, 74, 75]
  | 98, 3 => some [0, 2, 25]
  | 98, 6 => some [0, 2, 25]
  | 103, 19 => some [0, 2, 3, 5, 8, 10, 117]
  | 103, 26 => some [0, 2, 3, 5, 8, 10, 11, 117]
  | 103, 33 => some [2, 3, 5, 10, 11, 12, 117]
  | 104, 1 => some [0, 1, 4, 160, 187, 188]
  | 104, 5 => some [4, 175, 187, 188]
  | 104, 19 => some [0, 4, 7, 8, 9, 187, 188]
  | 104, 27 => some [0, 4, 7, 8, 9, 187, 188]
  | 104, 29 => some [0, 7, 8, 9, 12, 187, 188]
  | 104, 51 => some [0, 4, 7, 8, 9, 14, 15, 187, 188]
  | 104, 54 => some [0, 4, 7, 8, 9, 14, 15, 139, 187, 188]
  | 104, 56 => some [0, 4, 7, 8, 9, 14, 15, 16, 187, 188]
  | 108, 5 => some [0, 1, 5, 6, 7, 8, 9, 81, 82]
  | 108, 12 => some [0, 1, 4, 5, 6, 7, 8, 81, 82]
  | 108, 14 => some [0, 1, 4, 5, 6, 7, 8, 10, 81, 82]
  | 109, 2 => some [2, 4, 10]
  | 111, 6 => some [0, 1, 2, 6, 7, 8, 9, 20, 24, 25, 172, 173, 174]
  | 111, 10 => some [0, 1, 2, 8, 9, 40, 172, 173, 174]
  | 111, 12 => some [0, 1, 2, 8, 9, 52, 172, 173, 174]
  | 111, 14 => some [0, 1, 2, 8, 9, 64, 172, 173, 174]
  | 111, 18 => some [0, 1, 2, 6, 7, 8, 9, 20, 24, 84, 105, 138, 143, 161, 170, 172, 173, 174]
  | 111, 22 => some [0, 1, 2, 6, 7, 8, 9, 20, 24, 84, 105, 138, 143, 161, 170, 172, 173, 174]
  | 111, 27 => some [0, 1, 2, 6, 7, 8, 9, 10, 20, 24, 84, 105, 138, 143, 161, 170, 172, 173, 174]
  | 111, 32 => some [1, 6, 7, 8, 9, 10, 11, 12, 13, 98, 99, 100, 101, 172, 173, 174]
  | 111, 37 => some [1, 6, 7, 8, 9, 10, 11, 12, 13, 15, 16, 20, 24, 84, 98, 99, 100, 101, 105, 106, 172, 173, 174]
  | 111, 39 => some [1, 6, 7, 8, 9, 10, 11, 12, 13, 15, 16, 20, 24, 84, 98, 99, 100, 101, 105, 112, 172, 173, 174]
  | 111, 40 => some [1, 6, 7, 8, 9, 10, 11, 12, 13, 15, 16, 20, 24, 84, 98, 99, 100, 101, 105, 121, 172, 173, 174]
  | 111, 42 => some [1, 6, 7, 8, 9, 10, 11, 12, 13, 16, 20, 24, 84, 98, 99, 100, 101, 105, 138, 143, 161, 172, 173, 174]
  | 116, 1 => some [0, 2, 3, 17]
  | 117, 3 => some [0, 4, 5, 39]
  | 117, 10 => some [4, 6, 7, 8, 39]
  | 119, 4 => some [0, 2, 3, 4, 94]
  | 119, 6 => some [0, 3, 4, 5, 46, 94]
  | 119, 9 => some [0, 2, 3, 4, 5, 94]
  | 119, 10 => some [0, 2, 3, 4, 5, 94]
  | 119, 15 => some [0, 2, 3, 4, 5, 94]
  | _, _ => none
 len := fun f => match f with
  | 3 => 115
  | 4 => 21
  | 5 => 18
  | 6 => 41
  | 7 => 37
  | 8 => 44
  | 9 => 16
  | 10 => 39
  | 11 => 11
  | 12 => 9
  | 13 => 30
  | 14 => 28
  | 15 => 28
  | 16 => 28
  | 17 => 3
  | 18 => 46
  | 19 => 11
  | 20 => 25
  | 21 => 14
  | 22 => 14
  | 23 => 66
  | 24 => 11
  | 25 => 9
  | 26 => 19
  | 28 => 18
  | 29 => 11
  | 30 => 16
  | 31 => 18
  | 32 => 18
  | 33 => 11
  | 34 => 27
  | 35 => 9
  | 36 => 44
  | 37 => 9
  | 38 => 10
  | 39 => 18
  | 40 => 32
  | 41 => 51
  | 42 => 20
  | 43 => 50
  | 44 => 32
  | 45 => 51
  | 46 => 12
  | 47 => 40
  | 48 => 32
  | 49 => 66
  | 50 => 22
  | 51 => 21
  | 53 => 20
  | 57 => 13
  | 59 => 11
  | 60 => 10
  | 61 => 18
  | 63 => 10
  | 73 => 17
  | 76 => 21
  | 77 => 15
  | 82 => 10
  | 91 => 20
  | _ => 0

end Go.Proofs.YtjhfbmhblpjigaaGreatDoor.Med
end
section
set_option linter.unusedVariables false
set_option linter.unusedSimpArgs false
set_option linter.unusedSectionVars false
/-
 DERIVED: THE SHELF's CONTRACTS AT THIS DUMP, IN PLAIN WORDS (tools/lay-plain.mjs out of 'ShelfC.lean', which tools/lay-shelf.mjs wrote): THE SAME DECLARATIONS UNDER THE SAME NAMES: 'import', 'namespace', 'open', 'def', 'theorem' AND NOTHING ELSE: no command of the shelf's: FOR A HAND-IN. Each laying: the table of numbers ('.._ren') and one theorem, a field a fact of the dump's own or the kernel's comparison; each contract: ONE APPLICATION.
-/
namespace Go.Proofs
open Go.Shelf
def Tryz.lays160_ren : Go.Shelf.Ren := ⟨fun | 160 => 54 | 232 => 65 | 231 => 64 | 227 => 66 | 234 => 68 | 233 => 67 | 236 => 70 | 235 => 69 | 228 => 83 | 271 => 86 | 151 => 85 | 197 => 84 | 120 => 105 | 152 => 104 | 260 => 103 | 137 => 63 | 119 => 116 | 224 => 107 | 225 => 106 | 217 => 82 | 266 => 102 | n => n, fun | 9 => 9 | 4 => 4 | 3 => 3 | 5 => 5 | 117 => 85 | 116 => 84 | 0 => 0 | 124 => 88 | 21 => 21 | 105 => 100 | 46 => 115 | 119 => 126 | 139 => 129 | 138 => 128 | n => n, fun | 3 => 4 | 4 => 5 | n => n⟩
theorem Tryz.lays160 : Go.Proofs.Lays.n160 Tryz.prog Tryz.lays160_ren := {
 mixed := by kernel_rfl
 f119 := Tryz.func116.trans (congrArg some (by kernel_rfl))
 f120 := Tryz.func105.trans (congrArg some (by kernel_rfl))
 f137 := Tryz.func63.trans (congrArg some (by kernel_rfl))
 f151 := Tryz.func85.trans (congrArg some (by kernel_rfl))
 f152 := Tryz.func104.trans (congrArg some (by kernel_rfl))
 f160 := Tryz.func54.trans (congrArg some (by kernel_rfl))
 f197 := Tryz.func84.trans (congrArg some (by kernel_rfl))
 f217 := Tryz.func82.trans (congrArg some (by kernel_rfl))
 f224 := Tryz.func107.trans (congrArg some (by kernel_rfl))
 f225 := Tryz.func106.trans (congrArg some (by kernel_rfl))
 f227 := Tryz.func66.trans (congrArg some (by kernel_rfl))
 f228 := Tryz.func83.trans (congrArg some (by kernel_rfl))
 f231 := Tryz.func64.trans (congrArg some (by kernel_rfl))
 f232 := Tryz.func65.trans (congrArg some (by kernel_rfl))
 f233 := Tryz.func67.trans (congrArg some (by kernel_rfl))
 f234 := Tryz.func68.trans (congrArg some (by kernel_rfl))
 f235 := Tryz.func69.trans (congrArg some (by kernel_rfl))
 f236 := Tryz.func70.trans (congrArg some (by kernel_rfl))
 f260 := Tryz.func103.trans (congrArg some (by kernel_rfl))
 f266 := Tryz.func102.trans (congrArg some (by kernel_rfl))
 f271 := Tryz.func86.trans (congrArg some (by kernel_rfl))
 t0 := Tryz.underlying0
 a0 := Tryz.isAgg0
 z0 := Tryz.sizeOf0
 v0 := Tryz.zeroValue0
 t3 := Tryz.underlying3
 a3 := Tryz.isAgg3
 z3 := Tryz.sizeOf3
 v3 := Tryz.zeroValue3
 t4 := Tryz.underlying4
 a4 := Tryz.isAgg4
 z4 := Tryz.sizeOf4
 v4 := Tryz.zeroValue4
 t5 := Tryz.underlying5
 a5 := Tryz.isAgg5
 z5 := Tryz.sizeOf5
 v5 := Tryz.zeroValue5
 t9 := Tryz.underlying9
 a9 := Tryz.isAgg9
 z9 := Tryz.sizeOf9
 v9 := Tryz.zeroValue9
 t21 := Tryz.underlying21
 a21 := Tryz.isAgg21
 z21 := Tryz.sizeOf21
 v21 := Tryz.zeroValue21
 t46 := Tryz.underlying115
 a46 := Tryz.isAgg115
 z46 := Tryz.sizeOf115
 v46 := Tryz.zeroValue115
 t105 := Tryz.underlying100
 a105 := Tryz.isAgg100
 z105 := Tryz.sizeOf100
 v105 := Tryz.zeroValue100
 t116 := Tryz.underlying84
 a116 := Tryz.isAgg84
 z116 := Tryz.sizeOf84
 t117 := Tryz.underlying85
 a117 := Tryz.isAgg85
 z117 := Tryz.sizeOf85
 v117 := Tryz.zeroValue85
 t119 := Tryz.underlying126
 a119 := Tryz.isAgg126
 z119 := Tryz.sizeOf126
 t124 := Tryz.underlying88
 a124 := Tryz.isAgg88
 z124 := Tryz.sizeOf88
 v124 := Tryz.zeroValue88
 t138 := Tryz.underlying128
 a138 := Tryz.isAgg128
 z138 := Tryz.sizeOf128
 v138 := Tryz.zeroValue128
 t139 := Tryz.underlying129
 a139 := Tryz.isAgg129
 z139 := Tryz.sizeOf129
 v139 := Tryz.zeroValue129
 g3 := by kernel_rfl
 g4 := by kernel_rfl }
open Go.RowKit in
/-- - -/
theorem Tryz.strings_Trim_one (s : ByteArray) (c : UInt8) (hc : c.toNat < 128) (w : World) (hs : s.size ≤ 9223372036854775807) :
  Calls Tryz.prog 54 #[.string s, .string ⟨#[c]⟩] w fun e w' => e = .returned (.string ⟨(Lib.trimB s.data.toList c).toArray⟩) ∧ (w' = w ∨ w' = w.drew) := Any.strings_Trim_one Tryz.lays160 s c hc w hs
def Tryz.lays172_ren : Go.Shelf.Ren := ⟨fun | 172 => 58 | 244 => 74 | 245 => 75 | 247 => 92 | 279 => 93 | 280 => 94 | 281 => 95 | 282 => 96 | 287 => 111 | 316 => 112 | 171 => 27 | 205 => 113 | 321 => 118 | 322 => 119 | 243 => 52 | 246 => 62 | 283 => 78 | 284 => 79 | 285 => 80 | 286 => 81 | 129 => 98 | 317 => 97 | 318 => 99 | 319 => 100 | 320 => 101 | 337 => 114 | 338 => 115 | n => n, fun | 9 => 9 | 3 => 3 | 75 => 76 | 76 => 77 | 4 => 4 | 5 => 5 | 167 => 105 | 37 => 96 | 0 => 0 | 85 => 106 | 2 => 2 | 168 => 108 | 53 => 93 | 175 => 119 | 46 => 115 | 210 => 123 | 127 => 134 | 145 => 137 | 143 => 135 | 21 => 21 | 171 => 92 | 173 => 97 | 212 => 112 | 51 => 113 | 20 => 20 | 213 => 114 | 232 => 138 | 233 => 139 | 80 => 28 | n => n, fun | 15 => 2 | 16 => 3 | 17 => 0 | 18 => 6 | 19 => 7 | n => n⟩
theorem Tryz.lays172 : Go.Proofs.Lays.n172 Tryz.prog Tryz.lays172_ren := {
 mixed := by kernel_rfl
 f129 := Tryz.func98.trans (congrArg some (by kernel_rfl))
 f171 := Tryz.func27.trans (congrArg some (by kernel_rfl))
 f172 := Tryz.func58.trans (congrArg some (by kernel_rfl))
 f205 := Tryz.func113.trans (congrArg some (by kernel_rfl))
 f243 := Tryz.func52.trans (congrArg some (by kernel_rfl))
 f244 := Tryz.func74.trans (congrArg some (by kernel_rfl))
 f245 := Tryz.func75.trans (congrArg some (by kernel_rfl))
 f246 := Tryz.func62.trans (congrArg some (by kernel_rfl))
 f247 := Tryz.func92.trans (congrArg some (by kernel_rfl))
 f279 := Tryz.func93.trans (congrArg some (by kernel_rfl))
 f280 := Tryz.func94.trans (congrArg some (by kernel_rfl))
 f281 := Tryz.func95.trans (congrArg some (by kernel_rfl))
 f282 := Tryz.func96.trans (congrArg some (by kernel_rfl))
 f283 := Tryz.func78.trans (congrArg some (by kernel_rfl))
 f284 := Tryz.func79.trans (congrArg some (by kernel_rfl))
 f285 := Tryz.func80.trans (congrArg some (by kernel_rfl))
 f286 := Tryz.func81.trans (congrArg some (by kernel_rfl))
 f287 := Tryz.func111.trans (congrArg some (by kernel_rfl))
 f316 := Tryz.func112.trans (congrArg some (by kernel_rfl))
 f317 := Tryz.func97.trans (congrArg some (by kernel_rfl))
 f318 := Tryz.func99.trans (congrArg some (by kernel_rfl))
 f319 := Tryz.func100.trans (congrArg some (by kernel_rfl))
 f320 := Tryz.func101.trans (congrArg some (by kernel_rfl))
 f321 := Tryz.func118.trans (congrArg some (by kernel_rfl))
 f322 := Tryz.func119.trans (congrArg some (by kernel_rfl))
 f337 := Tryz.func114.trans (congrArg some (by kernel_rfl))
 f338 := Tryz.func115.trans (congrArg some (by kernel_rfl))
 t0 := Tryz.underlying0
 a0 := Tryz.isAgg0
 z0 := Tryz.sizeOf0
 v0 := Tryz.zeroValue0
 t2 := Tryz.underlying2
 a2 := Tryz.isAgg2
 z2 := Tryz.sizeOf2
 v2 := Tryz.zeroValue2
 t3 := Tryz.underlying3
 a3 := Tryz.isAgg3
 z3 := Tryz.sizeOf3
 v3 := Tryz.zeroValue3
 t4 := Tryz.underlying4
 a4 := Tryz.isAgg4
 z4 := Tryz.sizeOf4
 v4 := Tryz.zeroValue4
 t5 := Tryz.underlying5
 a5 := Tryz.isAgg5
 z5 := Tryz.sizeOf5
 v5 := Tryz.zeroValue5
 t9 := Tryz.underlying9
 a9 := Tryz.isAgg9
 z9 := Tryz.sizeOf9
 v9 := Tryz.zeroValue9
 t20 := Tryz.underlying20
 a20 := Tryz.isAgg20
 z20 := Tryz.sizeOf20
 v20 := Tryz.zeroValue20
 t21 := Tryz.underlying21
 a21 := Tryz.isAgg21
 z21 := Tryz.sizeOf21
 v21 := Tryz.zeroValue21
 t37 := Tryz.underlying96
 a37 := Tryz.isAgg96
 z37 := Tryz.sizeOf96
 v37 := Tryz.zeroValue96
 t46 := Tryz.underlying115
 a46 := Tryz.isAgg115
 z46 := Tryz.sizeOf115
 v46 := Tryz.zeroValue115
 t51 := Tryz.underlying113
 a51 := Tryz.isAgg113
 z51 := Tryz.sizeOf113
 v51 := Tryz.zeroValue113
 t53 := Tryz.underlying93
 a53 := Tryz.isAgg93
 z53 := Tryz.sizeOf93
 v53 := Tryz.zeroValue93
 t75 := Tryz.underlying76
 a75 := Tryz.isAgg76
 z75 := Tryz.sizeOf76
 v75 := Tryz.zeroValue76
 t76 := Tryz.underlying77
 a76 := Tryz.isAgg77
 z76 := Tryz.sizeOf77
 v76 := Tryz.zeroValue77
 t85 := Tryz.underlying106
 a85 := Tryz.isAgg106
 z85 := Tryz.sizeOf106
 v85 := Tryz.zeroValue106
 t127 := Tryz.underlying134
 a127 := Tryz.isAgg134
 z127 := Tryz.sizeOf134
 v127 := Tryz.zeroValue134
 t143 := Tryz.underlying135
 a143 := Tryz.isAgg135
 z143 := Tryz.sizeOf135
 v143 := Tryz.zeroValue135
 t145 := Tryz.underlying137
 a145 := Tryz.isAgg137
 z145 := Tryz.sizeOf137
 v145 := Tryz.zeroValue137
 t167 := Tryz.underlying105
 a167 := Tryz.isAgg105
 z167 := Tryz.sizeOf105
 v167 := Tryz.zeroValue105
 t168 := Tryz.underlying108
 a168 := Tryz.isAgg108
 z168 := Tryz.sizeOf108
 v168 := Tryz.zeroValue108
 t171 := Tryz.underlying92
 a171 := Tryz.isAgg92
 z171 := Tryz.sizeOf92
 v171 := Tryz.zeroValue92
 t173 := Tryz.underlying97
 a173 := Tryz.isAgg97
 z173 := Tryz.sizeOf97
 v173 := Tryz.zeroValue97
 t175 := Tryz.underlying119
 a175 := Tryz.isAgg119
 z175 := Tryz.sizeOf119
 v175 := Tryz.zeroValue119
 t210 := Tryz.underlying123
 a210 := Tryz.isAgg123
 z210 := Tryz.sizeOf123
 v210 := Tryz.zeroValue123
 t212 := Tryz.underlying112
 a212 := Tryz.isAgg112
 z212 := Tryz.sizeOf112
 v212 := Tryz.zeroValue112
 t213 := Tryz.underlying114
 a213 := Tryz.isAgg114
 z213 := Tryz.sizeOf114
 t232 := Tryz.underlying138
 a232 := Tryz.isAgg138
 z232 := Tryz.sizeOf138
 v232 := Tryz.zeroValue138
 t233 := Tryz.underlying139
 a233 := Tryz.isAgg139
 z233 := Tryz.sizeOf139
 v233 := Tryz.zeroValue139
 g15 := by kernel_rfl
 g16 := by kernel_rfl
 g17 := by kernel_rfl
 g18 := by kernel_rfl
 g19 := by kernel_rfl }
open Go.RowKit in
/-- - -/
theorem Tryz.strconv_Atoi (s : ByteArray) (n : Int) (hl : s.size ≤ 18) (h : Lib.atoi s.data.toList = some n) (w : World) :
  Calls Tryz.prog 58 #[.string s] w fun e w' => e = .returned (.tuple #[.int .i64 n, .nilIface]) ∧ ∃ t, w' = Lib.bytesWorld w 5 t := Any.strconv_Atoi Tryz.lays172 s n hl h w
def Tryz.laysM171_ren : Go.Shelf.Ren := ⟨fun | 171 => 27 | 243 => 52 | 246 => 62 | 283 => 78 | 284 => 79 | 285 => 80 | 286 => 81 | 129 => 98 | 317 => 97 | 318 => 99 | 319 => 100 | 320 => 101 | 337 => 114 | 338 => 115 | n => n, fun | 3 => 3 | 9 => 9 | 2 => 2 | 4 => 4 | 171 => 92 | 0 => 0 | 53 => 93 | 37 => 96 | 5 => 5 | 173 => 97 | 212 => 112 | 51 => 113 | 20 => 20 | 213 => 114 | 46 => 115 | 232 => 138 | 233 => 139 | n => n, fun | 17 => 0 | 18 => 6 | 19 => 7 | n => n⟩
theorem Tryz.laysM171 : Go.Proofs.LaysM.n171 Tryz.prog Tryz.laysM171_ren := {
 mixed := by kernel_rfl
 f129 := Tryz.func98.trans (congrArg some (by kernel_rfl))
 f171 := Tryz.func27.trans (congrArg some (by kernel_rfl))
 f243 := Tryz.func52.trans (congrArg some (by kernel_rfl))
 f246 := Tryz.func62.trans (congrArg some (by kernel_rfl))
 f283 := Tryz.func78.trans (congrArg some (by kernel_rfl))
 f284 := Tryz.func79.trans (congrArg some (by kernel_rfl))
 f285 := Tryz.func80.trans (congrArg some (by kernel_rfl))
 f286 := Tryz.func81.trans (congrArg some (by kernel_rfl))
 f317 := Tryz.func97.trans (congrArg some (by kernel_rfl))
 f318 := Tryz.func99.trans (congrArg some (by kernel_rfl))
 f319 := Tryz.func100.trans (congrArg some (by kernel_rfl))
 f320 := Tryz.func101.trans (congrArg some (by kernel_rfl))
 f337 := Tryz.func114.trans (congrArg some (by kernel_rfl))
 f338 := Tryz.func115.trans (congrArg some (by kernel_rfl))
 t0 := Tryz.underlying0
 a0 := Tryz.isAgg0
 z0 := Tryz.sizeOf0
 v0 := Tryz.zeroValue0
 t2 := Tryz.underlying2
 a2 := Tryz.isAgg2
 z2 := Tryz.sizeOf2
 v2 := Tryz.zeroValue2
 t3 := Tryz.underlying3
 a3 := Tryz.isAgg3
 z3 := Tryz.sizeOf3
 v3 := Tryz.zeroValue3
 t4 := Tryz.underlying4
 a4 := Tryz.isAgg4
 z4 := Tryz.sizeOf4
 v4 := Tryz.zeroValue4
 t5 := Tryz.underlying5
 a5 := Tryz.isAgg5
 z5 := Tryz.sizeOf5
 v5 := Tryz.zeroValue5
 t9 := Tryz.underlying9
 a9 := Tryz.isAgg9
 z9 := Tryz.sizeOf9
 v9 := Tryz.zeroValue9
 t20 := Tryz.underlying20
 a20 := Tryz.isAgg20
 z20 := Tryz.sizeOf20
 v20 := Tryz.zeroValue20
 t37 := Tryz.underlying96
 a37 := Tryz.isAgg96
 z37 := Tryz.sizeOf96
 v37 := Tryz.zeroValue96
 t46 := Tryz.underlying115
 a46 := Tryz.isAgg115
 z46 := Tryz.sizeOf115
 v46 := Tryz.zeroValue115
 t51 := Tryz.underlying113
 a51 := Tryz.isAgg113
 z51 := Tryz.sizeOf113
 v51 := Tryz.zeroValue113
 t53 := Tryz.underlying93
 a53 := Tryz.isAgg93
 z53 := Tryz.sizeOf93
 v53 := Tryz.zeroValue93
 t171 := Tryz.underlying92
 a171 := Tryz.isAgg92
 z171 := Tryz.sizeOf92
 v171 := Tryz.zeroValue92
 t173 := Tryz.underlying97
 a173 := Tryz.isAgg97
 z173 := Tryz.sizeOf97
 v173 := Tryz.zeroValue97
 t212 := Tryz.underlying112
 a212 := Tryz.isAgg112
 z212 := Tryz.sizeOf112
 v212 := Tryz.zeroValue112
 t213 := Tryz.underlying114
 a213 := Tryz.isAgg114
 z213 := Tryz.sizeOf114
 t232 := Tryz.underlying138
 a232 := Tryz.isAgg138
 z232 := Tryz.sizeOf138
 v232 := Tryz.zeroValue138
 t233 := Tryz.underlying139
 a233 := Tryz.isAgg139
 z233 := Tryz.sizeOf139
 v233 := Tryz.zeroValue139
 g17 := by kernel_rfl
 g18 := by kernel_rfl
 g19 := by kernel_rfl
 i0 := by kernel_rfl
 i2 := by kernel_rfl
 i3 := by kernel_rfl
 i4 := by kernel_rfl
 i5 := by kernel_rfl
 i9 := by kernel_rfl
 i20 := by kernel_rfl
 i37 := by kernel_rfl
 i46 := by kernel_rfl
 i51 := by kernel_rfl
 i53 := by kernel_rfl
 i171 := by kernel_rfl
 i173 := by kernel_rfl
 i212 := by kernel_rfl
 i232 := by kernel_rfl
 i233 := by kernel_rfl
 m17 := by kernel_rfl
 m18 := by kernel_rfl
 m19 := by kernel_rfl }
open Go.RowKit Go.Sort Go.Lib in
/-- - -/
theorem Tryz.strconv_Itoa (n : Int) (h0 : -9223372036854775808 ≤ n) (h1 : n ≤ 9223372036854775807) (w : World) (htab : Lib.TabIs Tryz.prog w "internal/strconv.uint64pow10" .u64 Lib.pow10Tab) :
  Calls Tryz.prog 27 #[.int .i64 n] w fun e w' => e = .returned (.string ⟨(Lib.itoa n).toArray⟩) ∧ ∃ k os, w' = grow (w.drewN k) os := Any.strconv_Itoa Tryz.laysM171 n h0 h1 w htab
def Tryz.lays145_ren : Go.Shelf.Ren := ⟨fun | 145 => 55 | 220 => 71 | 219 => 87 | 217 => 82 | 225 => 106 | 224 => 107 | 267 => 108 | 266 => 102 | 314 => 117 | n => n, fun | 9 => 9 | 4 => 4 | 59 => 70 | 3 => 3 | 5 => 5 | 46 => 115 | 146 => 131 | 51 => 113 | n => n, fun | 1 => 1 | n => n⟩
theorem Tryz.lays145 : Go.Proofs.Lays.n145 Tryz.prog Tryz.lays145_ren := {
 mixed := by kernel_rfl
 f145 := Tryz.func55.trans (congrArg some (by kernel_rfl))
 f217 := Tryz.func82.trans (congrArg some (by kernel_rfl))
 f219 := Tryz.func87.trans (congrArg some (by kernel_rfl))
 f220 := Tryz.func71.trans (congrArg some (by kernel_rfl))
 f224 := Tryz.func107.trans (congrArg some (by kernel_rfl))
 f225 := Tryz.func106.trans (congrArg some (by kernel_rfl))
 f266 := Tryz.func102.trans (congrArg some (by kernel_rfl))
 f267 := Tryz.func108.trans (congrArg some (by kernel_rfl))
 f314 := Tryz.func117.trans (congrArg some (by kernel_rfl))
 t3 := Tryz.underlying3
 a3 := Tryz.isAgg3
 z3 := Tryz.sizeOf3
 v3 := Tryz.zeroValue3
 t4 := Tryz.underlying4
 a4 := Tryz.isAgg4
 z4 := Tryz.sizeOf4
 v4 := Tryz.zeroValue4
 t5 := Tryz.underlying5
 a5 := Tryz.isAgg5
 z5 := Tryz.sizeOf5
 v5 := Tryz.zeroValue5
 t9 := Tryz.underlying9
 a9 := Tryz.isAgg9
 z9 := Tryz.sizeOf9
 v9 := Tryz.zeroValue9
 t46 := Tryz.underlying115
 a46 := Tryz.isAgg115
 z46 := Tryz.sizeOf115
 v46 := Tryz.zeroValue115
 t51 := Tryz.underlying113
 a51 := Tryz.isAgg113
 z51 := Tryz.sizeOf113
 v51 := Tryz.zeroValue113
 t59 := Tryz.underlying70
 a59 := Tryz.isAgg70
 z59 := Tryz.sizeOf70
 v59 := Tryz.zeroValue70
 t146 := Tryz.underlying131
 a146 := Tryz.isAgg131
 z146 := Tryz.sizeOf131
 v146 := Tryz.zeroValue131
 g1 := by kernel_rfl }
open Go.RowKit Go.Lib in
/-- - -/
theorem Tryz.strings_Cut (s sep : ByteArray) (m : Int) (w : World) (hs : s.size < 4294967281) (hm : w.cell? ⟨1, 0, none⟩ = some (.int .i64 m)) :
  Calls Tryz.prog 55 #[.string s, .string sep] w fun e w' => e = .returned (.tuple #[.string ⟨(Lib.cut s.data.toList sep.data.toList).1.toArray⟩, .string ⟨(Lib.cut s.data.toList sep.data.toList).2.1.toArray⟩, .bool (Lib.cut s.data.toList sep.data.toList).2.2]) ∧ ∃ n, w' = w.drewN n := Any.strings_Cut Tryz.lays145 s sep m w hs hm
def Tryz.laysM145_ren : Go.Shelf.Ren := ⟨fun | 145 => 55 | 220 => 71 | 219 => 87 | 217 => 82 | 225 => 106 | 224 => 107 | 267 => 108 | 266 => 102 | 314 => 117 | n => n, fun | 9 => 9 | 4 => 4 | 59 => 70 | 3 => 3 | 5 => 5 | 46 => 115 | 146 => 131 | 51 => 113 | n => n, fun | 1 => 1 | n => n⟩
theorem Tryz.laysM145 : Go.Proofs.LaysM.n145 Tryz.prog Tryz.laysM145_ren := {
 mixed := by kernel_rfl
 f145 := Tryz.func55.trans (congrArg some (by kernel_rfl))
 f217 := Tryz.func82.trans (congrArg some (by kernel_rfl))
 f219 := Tryz.func87.trans (congrArg some (by kernel_rfl))
 f220 := Tryz.func71.trans (congrArg some (by kernel_rfl))
 f224 := Tryz.func107.trans (congrArg some (by kernel_rfl))
 f225 := Tryz.func106.trans (congrArg some (by kernel_rfl))
 f266 := Tryz.func102.trans (congrArg some (by kernel_rfl))
 f267 := Tryz.func108.trans (congrArg some (by kernel_rfl))
 f314 := Tryz.func117.trans (congrArg some (by kernel_rfl))
 t3 := Tryz.underlying3
 a3 := Tryz.isAgg3
 z3 := Tryz.sizeOf3
 v3 := Tryz.zeroValue3
 t4 := Tryz.underlying4
 a4 := Tryz.isAgg4
 z4 := Tryz.sizeOf4
 v4 := Tryz.zeroValue4
 t5 := Tryz.underlying5
 a5 := Tryz.isAgg5
 z5 := Tryz.sizeOf5
 v5 := Tryz.zeroValue5
 t9 := Tryz.underlying9
 a9 := Tryz.isAgg9
 z9 := Tryz.sizeOf9
 v9 := Tryz.zeroValue9
 t46 := Tryz.underlying115
 a46 := Tryz.isAgg115
 z46 := Tryz.sizeOf115
 v46 := Tryz.zeroValue115
 t51 := Tryz.underlying113
 a51 := Tryz.isAgg113
 z51 := Tryz.sizeOf113
 v51 := Tryz.zeroValue113
 t59 := Tryz.underlying70
 a59 := Tryz.isAgg70
 z59 := Tryz.sizeOf70
 v59 := Tryz.zeroValue70
 t146 := Tryz.underlying131
 a146 := Tryz.isAgg131
 z146 := Tryz.sizeOf131
 v146 := Tryz.zeroValue131
 g1 := by kernel_rfl
 i3 := by kernel_rfl
 i4 := by kernel_rfl
 i5 := by kernel_rfl
 i9 := by kernel_rfl
 i46 := by kernel_rfl
 i51 := by kernel_rfl
 i59 := by kernel_rfl
 i146 := by kernel_rfl
 m1 := by kernel_rfl
 s1_3 := fun w h => Go.Proofs.cell_of_shapedOpen_int (zero := #[.int .i64 0]) (t := 3) h (of_decide_eq_true (by kernel_rfl)) (by kernel_rfl) rfl (by kernel_rfl) (by kernel_rfl) Tryz.underlying3 }
open Go.RowKit Go.Lib in
theorem Tryz.strings_Cut_shaped (s sep : ByteArray) (w : World) (h : w.ShapedOpen Tryz.prog) (hs : s.size < 4294967281) :
  Calls Tryz.prog 55 #[.string s, .string sep] w fun e w' => e = .returned (.tuple #[.string ⟨(Lib.cut s.data.toList sep.data.toList).1.toArray⟩, .string ⟨(Lib.cut s.data.toList sep.data.toList).2.1.toArray⟩, .bool (Lib.cut s.data.toList sep.data.toList).2.2]) ∧ ∃ n, w' = w.drewN n := Any.strings_Cut_shaped Tryz.laysM145 s sep w h hs
def Tryz.lays146_ren : Go.Shelf.Ren := ⟨fun | 146 => 56 | 221 => 72 | 268 => 88 | 138 => 89 | 143 => 90 | 195 => 109 | 197 => 84 | 218 => 110 | 219 => 87 | 260 => 103 | 217 => 82 | 225 => 106 | 224 => 107 | 267 => 108 | 266 => 102 | 314 => 117 | n => n, fun | 9 => 9 | 31 => 62 | 3 => 3 | 4 => 4 | 0 => 0 | 105 => 100 | 21 => 21 | 5 => 5 | 46 => 115 | 119 => 126 | 139 => 129 | 138 => 128 | 146 => 131 | 51 => 113 | n => n, fun | 1 => 1 | 3 => 4 | 4 => 5 | n => n⟩
theorem Tryz.lays146 : Go.Proofs.Lays.n146 Tryz.prog Tryz.lays146_ren := {
 mixed := by kernel_rfl
 f138 := Tryz.func89.trans (congrArg some (by kernel_rfl))
 f143 := Tryz.func90.trans (congrArg some (by kernel_rfl))
 f146 := Tryz.func56.trans (congrArg some (by kernel_rfl))
 f195 := Tryz.func109.trans (congrArg some (by kernel_rfl))
 f197 := Tryz.func84.trans (congrArg some (by kernel_rfl))
 f217 := Tryz.func82.trans (congrArg some (by kernel_rfl))
 f218 := Tryz.func110.trans (congrArg some (by kernel_rfl))
 f219 := Tryz.func87.trans (congrArg some (by kernel_rfl))
 f221 := Tryz.func72.trans (congrArg some (by kernel_rfl))
 f224 := Tryz.func107.trans (congrArg some (by kernel_rfl))
 f225 := Tryz.func106.trans (congrArg some (by kernel_rfl))
 f260 := Tryz.func103.trans (congrArg some (by kernel_rfl))
 f266 := Tryz.func102.trans (congrArg some (by kernel_rfl))
 f267 := Tryz.func108.trans (congrArg some (by kernel_rfl))
 f268 := Tryz.func88.trans (congrArg some (by kernel_rfl))
 f314 := Tryz.func117.trans (congrArg some (by kernel_rfl))
 t0 := Tryz.underlying0
 a0 := Tryz.isAgg0
 z0 := Tryz.sizeOf0
 v0 := Tryz.zeroValue0
 t3 := Tryz.underlying3
 a3 := Tryz.isAgg3
 z3 := Tryz.sizeOf3
 v3 := Tryz.zeroValue3
 t4 := Tryz.underlying4
 a4 := Tryz.isAgg4
 z4 := Tryz.sizeOf4
 v4 := Tryz.zeroValue4
 t5 := Tryz.underlying5
 a5 := Tryz.isAgg5
 z5 := Tryz.sizeOf5
 v5 := Tryz.zeroValue5
 t9 := Tryz.underlying9
 a9 := Tryz.isAgg9
 z9 := Tryz.sizeOf9
 v9 := Tryz.zeroValue9
 t21 := Tryz.underlying21
 a21 := Tryz.isAgg21
 z21 := Tryz.sizeOf21
 v21 := Tryz.zeroValue21
 t31 := Tryz.underlying62
 a31 := Tryz.isAgg62
 z31 := Tryz.sizeOf62
 v31 := Tryz.zeroValue62
 t46 := Tryz.underlying115
 a46 := Tryz.isAgg115
 z46 := Tryz.sizeOf115
 v46 := Tryz.zeroValue115
 t51 := Tryz.underlying113
 a51 := Tryz.isAgg113
 z51 := Tryz.sizeOf113
 v51 := Tryz.zeroValue113
 t105 := Tryz.underlying100
 a105 := Tryz.isAgg100
 z105 := Tryz.sizeOf100
 v105 := Tryz.zeroValue100
 t119 := Tryz.underlying126
 a119 := Tryz.isAgg126
 z119 := Tryz.sizeOf126
 t138 := Tryz.underlying128
 a138 := Tryz.isAgg128
 z138 := Tryz.sizeOf128
 v138 := Tryz.zeroValue128
 t139 := Tryz.underlying129
 a139 := Tryz.isAgg129
 z139 := Tryz.sizeOf129
 v139 := Tryz.zeroValue129
 t146 := Tryz.underlying131
 a146 := Tryz.isAgg131
 z146 := Tryz.sizeOf131
 v146 := Tryz.zeroValue131
 g1 := by kernel_rfl
 g3 := by kernel_rfl
 g4 := by kernel_rfl }
open Go.RowKit Go.Lib in
/-- - -/
theorem Tryz.strings_Split (s sep : ByteArray) (m : Int) (w : World) (hs : s.size < 4294967281) (hm : w.cell? ⟨1, 0, none⟩ = some (.int .i64 m)) (h1 : 1 ≤ sep.size) :
  Calls Tryz.prog 56 #[.string s, .string sep] w fun e w' =>
   e = .returned (.slice (some ⟨w.heap.size, 0, none⟩) (Lib.countB s sep + 1) (Lib.countB s sep + 1)) ∧ w' = w.alloc (.cells ((Lib.splitB sep 0 (Lib.countB s sep) s).map Value.string).toArray 9) := Any.strings_Split Tryz.lays146 (by kernel_rfl) s sep m w hs hm h1
end Go.Proofs
end
section
set_option linter.unusedVariables false
set_option linter.unusedSimpArgs false
set_option linter.unusedSectionVars false
namespace Go.Proofs.YtjhfbmhblpjigaaGreatDoor.Med
open Go Go.Abs Go.Proofs
theorem trim54 (s c : ByteArray) (h : trimOk s c = true) : FnOk Tryz.prog 54 [.f (.lit (.string s)), .f (.lit (.string c))] (.f (.lit (.string (trimB s c)))) [.undef, .undef] := by
 simp only [trimOk, Bool.and_eq_true, decide_eq_true_eq, List.all_eq_true] at h
 obtain ⟨h1, h2, h3⟩ := h
 obtain ⟨body, hb⟩ : ∃ b, Tryz.f54.body = some b := ⟨_, rfl⟩
 refine fnOk_lit (P := Tryz.prog) Tryz.func54 (by kernel_rfl) hb (xs := [.string s, .string c]) rfl fun w => ?_
 exact Any.strings_Trim_laid Tryz.lays160 (by kernel_rfl) s c w (by omega) (by omega) fun j b e => h3 b (List.mem_of_getElem? e)
theorem itoa27 (n : Int) (h : itoaOk n = true) : FnOk Tryz.prog 27 [.f (.lit (.int .i64 n))] (.f (.lit (.string (itoaB n)))) [.undef] := by
 simp only [itoaOk, Bool.and_eq_true, decide_eq_true_eq] at h
 obtain ⟨body, hb⟩ : ∃ b, Tryz.f27.body = some b := ⟨_, rfl⟩
 refine fnOk_vals (P := Tryz.prog) Tryz.func27 (by kernel_rfl) hb (xs := [.int .i64 n]) rfl (fun hz hb O w p => repR_lit hz hb O w p _) fun A hz hb O w g => ?_
 refine Calls.mono (Any.strconv_Itoa Tryz.laysM171 n h.1 h.2 w (g.var (P := Tryz.prog) (b := 0) rfl (by kernel_rfl))) fun e w' ⟨he, k, os, hw⟩ => ⟨he, ?_⟩
 rw [hw]
 exact Lib.below_grow _ w (Nat.le_refl _) k os
theorem atoi58 (s : ByteArray) (h : atoiOk s = true) : FnOk Tryz.prog 58 [.f (.lit (.string s))] (.tup [.f (.lit (.int .i64 (atoiB s))), .f (.lit .nilIface)]) [.undef] := by
 simp only [atoiOk, Bool.and_eq_true, decide_eq_true_eq] at h
 obtain ⟨body, hb⟩ : ∃ b, Tryz.f58.body = some b := ⟨_, rfl⟩
 obtain ⟨n, hn⟩ := Option.isSome_iff_exists.1 h.2
 have hs : atoiB s = n := by simp [atoiB, hn]
 rw [hs]
 refine fnOk_vals (P := Tryz.prog) Tryz.func58 (by kernel_rfl) hb (xs := [.string s]) (c := .tuple #[.int .i64 n, .nilIface]) rfl (fun hz hb O w p => repR_tup hz hb O w p [.int .i64 n, .nilIface]) fun A hz hb O w g => ?_
 refine Calls.mono (Any.strconv_Atoi Tryz.lays172 s n h.1 hn w) fun e w' ⟨he, t, hw⟩ => ⟨he, ?_⟩
 rw [hw]
 exact Lib.bytesWorld_below w _ t
theorem cut55 (s c : ByteArray) (h : strOk s = true) : FnOk Tryz.prog 55 [.f (.lit (.string s)), .f (.lit (.string c))] (.tup [.f (.lit (.string (cutA s c))), .f (.lit (.string (cutZ s c))), .f (.lit (.bool (cutOn s c)))]) [.undef, .undef] := by
 simp only [strOk, decide_eq_true_eq] at h
 obtain ⟨body, hb⟩ : ∃ b, Tryz.f55.body = some b := ⟨_, rfl⟩
 refine fnOk_vals (P := Tryz.prog) Tryz.func55 (by kernel_rfl) hb (xs := [.string s, .string c]) (c := .tuple #[.string (cutA s c), .string (cutZ s c), .bool (cutOn s c)]) rfl
  (fun hz hb O w p => repR_tup hz hb O w p [.string (cutA s c), .string (cutZ s c), .bool (cutOn s c)]) fun A hz hb O w g => ?_
 obtain ⟨m, hm⟩ := g.cell (b := 1) (k := .i64) rfl
 refine Calls.mono (Any.strings_Cut Tryz.lays145 s c m w (by omega) hm) fun e w' ⟨he, n, hw⟩ => ⟨he, ?_⟩
 rw [hw]
 exact Lib.Lz.below_drewN (RowKit.Below.refl _ w) n
theorem split56 (s c : ByteArray) (h : splitOk s c = true) : FnOk Tryz.prog 56 [.f (.lit (.string s)), .f (.lit (.string c))] (.own [.str] (splitR s c)) [.undef, .undef] := by
 simp only [splitOk, strOk, Bool.and_eq_true, decide_eq_true_eq] at h
 obtain ⟨body, hb⟩ : ∃ b, Tryz.f56.body = some b := ⟨_, rfl⟩
 refine split_ok (P := Tryz.prog) Tryz.func56 (by kernel_rfl) hb h.2 (t := Tryz.lays146_ren.t 9) fun A hz hb O w g => ?_
 obtain ⟨m, hm⟩ := g.cell (b := 1) (k := .i64) rfl
 exact Any.strings_Split Tryz.lays146 (by kernel_rfl) s c m w (by omega) hm h.2
end Go.Proofs.YtjhfbmhblpjigaaGreatDoor.Med
end
section
set_option linter.unusedVariables false
set_option linter.unusedSimpArgs false
set_option linter.unusedSectionVars false
namespace Go.Proofs.YtjhfbmhblpjigaaGreatDoor.Med
open Go Go.Abs Go.Proofs
set_option linter.unusedVariables false
set_option maxHeartbeats 8000000
set_option maxRecDepth 100000
theorem hM : Tryz.prog.follows .mixedOrders = true := by kernel_rfl
theorem idx102 (s : ByteArray) (c : Int) : FnOk Tryz.prog 102 [.f (.lit (.string s)), .f (.lit (.int .u8 c))] (vInt .i64 (idxByte s c)) [.undef, .undef] :=
 idx_ok (fn := Tryz.f102) Tryz.func102 (by kernel_rfl) (by kernel_rfl) (by kernel_rfl) (by kernel_rfl) s c
abbrev tyC : List LT := [.int .i64, .int .i64, .str]
theorem cl37a (cap : Nat) (R : Type) (k : V → List V → Option R) : runK Tryz.prog H noT noL 37 [.f (.lit (.slice none 0 cap))] k = k (.own tyC []) [.undef] := by kernel_rfl
theorem cl37b (a : Addr) (cap : Nat) (R : Type) (k : V → List V → Option R) : runK Tryz.prog H noT noL 37 [.f (.lit (.slice (some a) 0 cap))] k = k (.own tyC []) [.undef] := by kernel_rfl
theorem cl37c (r : List F) (rs : Abs.Rows) (R : Type) (k : V → List V → Option R) : runK Tryz.prog H noT noL 37 [.bor tyC (r :: rs)] k = bif decide (0 + (r :: rs).length ≤ rowMax) then k (.own tyC (r :: rs)) [.undef] else none := by kernel_rfl
theorem clone37 (rows : Abs.Rows) (h : lenOk rows = true) : FnOk Tryz.prog 37 [.bor tyC rows] (.own tyC rows) [.undef] := by
 refine clone_ok (fun cap => fnOk_runK (tbl := noT) (lt := noL) (H := H) noT_ok hM noL_ok (cl37a cap)) (fun a cap => fnOk_runK (tbl := noT) (lt := noL) (H := H) noT_ok hM noL_ok (cl37b a cap)) (fun r rs hl => fnOk_runK (tbl := noT) (lt := noL) (H := H) noT_ok hM noL_ok fun R k => ?_) rows h
 rw [cl37c r rs R k, show decide (0 + (r :: rs).length ≤ rowMax) = true from by rw [Nat.zero_add]; exact hl]
 rfl
noncomputable def TC0 : Tbl := addT 102 (brIdx 102 noT) noT
theorem okTC0 : TblOk Tryz.prog TC0 := brIdx_ok noT_ok idx102
noncomputable def TC1 : Tbl := addT 54 (brTrim 54 TC0) TC0
theorem okTC1 : TblOk Tryz.prog TC1 := brTrim_ok okTC0 trim54
noncomputable def TC2 : Tbl := addT 27 (brItoa 27 TC1) TC1
theorem okTC2 : TblOk Tryz.prog TC2 := brItoa_ok okTC1 itoa27
noncomputable def TC3 : Tbl := addT 58 (brAtoi 58 TC2) TC2
theorem okTC3 : TblOk Tryz.prog TC3 := brAtoi_ok okTC2 atoi58
noncomputable def TC4 : Tbl := addT 55 (brCut 55 TC3) TC3
theorem okTC4 : TblOk Tryz.prog TC4 := brCut_ok okTC3 cut55
noncomputable def TC5 : Tbl := addT 56 (brSplit 56 TC4) TC4
theorem okTC5 : TblOk Tryz.prog TC5 := brSplit_ok okTC4 split56
noncomputable def TC6 : Tbl := addT 37 (brClone tyC 37 TC5) TC5
theorem okTC6 : TblOk Tryz.prog TC6 := brClone_ok okTC5 clone37
abbrev W1 : List V := [.undef, .undef]
abbrev W2 (a0 a1 : Int) : List V := [.f (.lit (.int .i64 a0)), .f (.lit (.int .i64 a1))]
noncomputable def T0 (_ : Nat) : Tbl := TC6
noncomputable def L0 (_ : Nat) : LTbl := noL
theorem okT0 (m : Nat) : TblOk Tryz.prog (T0 m) := okTC6
theorem okL0 (m : Nat) : LTOk Tryz.prog H (L0 m) := noL_ok
/-- - -/
noncomputable def Fn61 {R : Type} (m : Nat) : Int → Int → (Int → Option R) → Option R := match m with
 | 0 => fun _ _ _ => none
 | m + 1 => fun i0 i1 k =>
 bif decide (i1 < (1 : Int)) then (k ((0 : Int))) else
 (bif decide (i1 ≠ (0 : Int)) then (bif decide (Int.tmod i0 i1 < (0 : Int)) then (k (IntKind.wrap IntKind.i64 (Int.tmod i0 i1 + i1))) else
 (k (Int.tmod i0 i1))) else
 (none))
noncomputable def brFn61 (m : Nat) (T : Tbl) (R : Type) (vs : List V) (k : V → List V → Option R) : Option R := match vs with
 | [.f (.lit (.int .i64 i0)), .f (.lit (.int .i64 i1))] => Fn61 m i0 i1 (fun i2 => k (V.f (F.lit (Value.int IntKind.i64 i2))) W1)
 | _ => T R 61 vs k
set_option maxRecDepth 100000 in
theorem evFn61 (m : Nat) (R : Type) (i0 i1 : Int) (k : V → List V → Option R) : runK Tryz.prog H (T0 m) (L0 m) 61 (W2 i0 i1) k = Fn61 (m + 1) i0 i1 (fun i2 => k (V.f (F.lit (Value.int IntKind.i64 i2))) W1) := by kernel_rfl
noncomputable def T1 (m : Nat) : Tbl := addT 61 (brFn61 m (T0 m)) (T0 m)
theorem okT1 (m : Nat) : TblOk Tryz.prog (T1 m) := addT_ok (okT0 m) fun R vs k x h => by
 unfold brFn61 at h
 split at h
 ·cases m with
  | zero => cases h
  | succ m => exact runK_some (okT0 m) hM (okL0 m) ((evFn61 m R _ _ k).trans h)
 ·exact okT0 m R 61 _ k x h

abbrev W3 (a0 : Abs.Rows) (a1 : Int) : List V := [.obj [.f (.lst [.int .i64] a0), .f (.lit (.int .i64 a1))], .undef]
abbrev W4 (a0 : Abs.Rows) (a1 a2 : Int) : List V := [.obj [.f (.lst [.int .i64] a0), .f (.lit (.int .i64 a1))], .f (.lit (.int .i64 a2))]
/-- - -/
noncomputable def Fn49 {R : Type} (m : Nat) : Abs.Rows → Int → Int → (Int → Int → Option R) → Option R := match m with
 | 0 => fun _ _ _ _ => none
 | m + 1 => fun r0 i1 i2 k =>
 bif (↑(List.length r0) : Int) == (0 : Int) then (Fn61 m (IntKind.wrap IntKind.i64 (IntKind.wrap IntKind.i64 (i1 + (1 : Int)) * (7919 : Int))) i2 (fun i3 => k i3 (IntKind.wrap IntKind.i64 (i1 + (1 : Int))))) else
 (bif decide ((↑(List.length r0) : Int) ≠ (0 : Int)) then (bif decide ((↑(List.length r0) : Int) ≠ (0 : Int)) then (bif decide ((0 : Int) ≤ Int.tmod (IntKind.wrap IntKind.i64 (IntKind.wrap IntKind.i64 (i1 + (1 : Int)) - (1 : Int))) (↑(List.length r0) : Int) ∧ Int.tmod (IntKind.wrap IntKind.i64 (IntKind.wrap IntKind.i64 (i1 + (1 : Int)) - (1 : Int))) (↑(List.length r0) : Int) < (↑(List.length r0) : Int)) then (Fn61 m (fI r0 (Int.toNat (Int.tmod (IntKind.wrap IntKind.i64 (IntKind.wrap IntKind.i64 (i1 + (1 : Int)) - (1 : Int))) (↑(List.length r0) : Int))) (0 : Nat)) ((1073741824 : Int)) (fun i4 => Fn61 m (IntKind.wrap IntKind.i64 (i4 + IntKind.wrap IntKind.i64 (IntKind.wrap IntKind.i64 (Int.tdiv (IntKind.wrap IntKind.i64 (IntKind.wrap IntKind.i64 (i1 + (1 : Int)) - (1 : Int))) (↑(List.length r0) : Int)) * IntKind.wrap IntKind.i64 ((7919 : Int) + Int.tmod (IntKind.wrap IntKind.i64 (IntKind.wrap IntKind.i64 (i1 + (1 : Int)) - (1 : Int))) (↑(List.length r0) : Int))))) i2 (fun i5 => letV (IntKind.wrap IntKind.i64 (i4 + IntKind.wrap IntKind.i64 (IntKind.wrap IntKind.i64 (Int.tdiv (IntKind.wrap IntKind.i64 (IntKind.wrap IntKind.i64 (i1 + (1 : Int)) - (1 : Int))) (↑(List.length r0) : Int)) * IntKind.wrap IntKind.i64 ((7919 : Int) + Int.tmod (IntKind.wrap IntKind.i64 (IntKind.wrap IntKind.i64 (i1 + (1 : Int)) - (1 : Int))) (↑(List.length r0) : Int))))) (fun i6 => letV (IntKind.wrap IntKind.i64 (IntKind.wrap IntKind.i64 (Int.tdiv (IntKind.wrap IntKind.i64 (IntKind.wrap IntKind.i64 (i1 + (1 : Int)) - (1 : Int))) (↑(List.length r0) : Int)) * IntKind.wrap IntKind.i64 ((7919 : Int) + Int.tmod (IntKind.wrap IntKind.i64 (IntKind.wrap IntKind.i64 (i1 + (1 : Int)) - (1 : Int))) (↑(List.length r0) : Int)))) (fun i7 => k i5 (IntKind.wrap IntKind.i64 (i1 + (1 : Int)))))))) else
 (none)) else
 (none)) else
 (none))
noncomputable def brFn49 (m : Nat) (T : Tbl) (R : Type) (vs : List V) (k : V → List V → Option R) : Option R := match vs with
 | [.obj [.f (.lst [.int .i64] r0), .f (.lit (.int .i64 i1))], .f (.lit (.int .i64 i2))] => Fn49 m r0 i1 i2 (fun i8 i9 => k (V.f (F.lit (Value.int IntKind.i64 i8))) (W3 r0 i9))
 | _ => T R 49 vs k
set_option maxRecDepth 100000 in
theorem evFn49 (m : Nat) (R : Type) (r0 : Abs.Rows) (i1 i2 : Int) (k : V → List V → Option R) : runK Tryz.prog H (T1 m) (L0 m) 49 (W4 r0 i1 i2) k = Fn49 (m + 1) r0 i1 i2 (fun i8 i9 => k (V.f (F.lit (Value.int IntKind.i64 i8))) (W3 r0 i9)) := by kernel_rfl
noncomputable def T2 (m : Nat) : Tbl := addT 49 (brFn49 m (T1 m)) (T1 m)
theorem okT2 (m : Nat) : TblOk Tryz.prog (T2 m) := addT_ok (okT1 m) fun R vs k x h => by
 unfold brFn49 at h
 split at h
 ·cases m with
  | zero => cases h
  | succ m => exact runK_some (okT1 m) hM (okL0 m) ((evFn49 m R _ _ _ k).trans h)
 ·exact okT1 m R 49 _ k x h

abbrev W5 (a0 : Abs.Rows) (a1 : Int) (a2 : Abs.Rows) : List V := [.obj [.f (.lst [.int .i64] a0), .f (.lit (.int .i64 a1))], .bor [.int .i64] a2]
/-- - -/
noncomputable def Fn22 {R : Type} (m : Nat) : Abs.Rows → Int → Abs.Rows → (Int → Int → Option R) → Option R := match m with
 | 0 => fun _ _ _ _ => none
 | m + 1 => fun r0 i1 r2 k =>
 Fn49 m r0 i1 ((↑(List.length r2) : Int)) (fun i3 i4 => bif decide ((0 : Int) ≤ i3 ∧ i3 < (↑(List.length r2) : Int)) then (k (fI r2 (Int.toNat i3) (0 : Nat)) i4) else
 (none))
noncomputable def brFn22 (m : Nat) (T : Tbl) (R : Type) (vs : List V) (k : V → List V → Option R) : Option R := match vs with
 | [.obj [.f (.lst [.int .i64] r0), .f (.lit (.int .i64 i1))], .bor [.int .i64] r2] => Fn22 m r0 i1 r2 (fun i5 i6 => k (V.f (F.lit (Value.int IntKind.i64 i5))) (W3 r0 i6))
 | _ => T R 22 vs k
set_option maxRecDepth 100000 in
theorem evFn22 (m : Nat) (R : Type) (r0 : Abs.Rows) (i1 : Int) (r2 : Abs.Rows) (k : V → List V → Option R) : runK Tryz.prog H (T2 m) (L0 m) 22 (W5 r0 i1 r2) k = Fn22 (m + 1) r0 i1 r2 (fun i5 i6 => k (V.f (F.lit (Value.int IntKind.i64 i5))) (W3 r0 i6)) := by kernel_rfl
noncomputable def T3 (m : Nat) : Tbl := addT 22 (brFn22 m (T2 m)) (T2 m)
theorem okT3 (m : Nat) : TblOk Tryz.prog (T3 m) := addT_ok (okT2 m) fun R vs k x h => by
 unfold brFn22 at h
 split at h
 ·cases m with
  | zero => cases h
  | succ m => exact runK_some (okT2 m) hM (okL0 m) ((evFn22 m R _ _ _ k).trans h)
 ·exact okT2 m R 22 _ k x h

abbrev W6 (a0 : Abs.Rows) (a1 : Int) (a2 : Abs.Rows) : List V := [.obj [.f (.lst [.int .i64] a0), .f (.lit (.int .i64 a1))], .bor [.str] a2]
/-- - -/
noncomputable def Fn21 {R : Type} (m : Nat) : Abs.Rows → Int → Abs.Rows → (ByteArray → Int → Option R) → Option R := match m with
 | 0 => fun _ _ _ _ => none
 | m + 1 => fun r0 i1 r2 k =>
 Fn49 m r0 i1 ((↑(List.length r2) : Int)) (fun i3 i4 => bif decide ((0 : Int) ≤ i3 ∧ i3 < (↑(List.length r2) : Int)) then (k (fS r2 (Int.toNat i3) (0 : Nat)) i4) else
 (none))
noncomputable def brFn21 (m : Nat) (T : Tbl) (R : Type) (vs : List V) (k : V → List V → Option R) : Option R := match vs with
 | [.obj [.f (.lst [.int .i64] r0), .f (.lit (.int .i64 i1))], .bor [.str] r2] => Fn21 m r0 i1 r2 (fun s5 i6 => k (V.f (F.lit (Value.string s5))) (W3 r0 i6))
 | _ => T R 21 vs k
set_option maxRecDepth 100000 in
theorem evFn21 (m : Nat) (R : Type) (r0 : Abs.Rows) (i1 : Int) (r2 : Abs.Rows) (k : V → List V → Option R) : runK Tryz.prog H (T3 m) (L0 m) 21 (W6 r0 i1 r2) k = Fn21 (m + 1) r0 i1 r2 (fun s5 i6 => k (V.f (F.lit (Value.string s5))) (W3 r0 i6)) := by kernel_rfl
noncomputable def T4 (m : Nat) : Tbl := addT 21 (brFn21 m (T3 m)) (T3 m)
theorem okT4 (m : Nat) : TblOk Tryz.prog (T4 m) := addT_ok (okT3 m) fun R vs k x h => by
 unfold brFn21 at h
 split at h
 ·cases m with
  | zero => cases h
  | succ m => exact runK_some (okT3 m) hM (okL0 m) ((evFn21 m R _ _ _ k).trans h)
 ·exact okT3 m R 21 _ k x h

/-- - -/
noncomputable def Fn19 {R : Type} (m : Nat) : Abs.Rows → Int → Int → (Bool → Int → Option R) → Option R := match m with
 | 0 => fun _ _ _ _ => none
 | m + 1 => fun r0 i1 i2 k =>
 Fn49 m r0 i1 i2 (fun i3 i4 => k (i3 == (0 : Int)) i4)
noncomputable def brFn19 (m : Nat) (T : Tbl) (R : Type) (vs : List V) (k : V → List V → Option R) : Option R := match vs with
 | [.obj [.f (.lst [.int .i64] r0), .f (.lit (.int .i64 i1))], .f (.lit (.int .i64 i2))] => Fn19 m r0 i1 i2 (fun b5 i6 => k (V.f (F.lit (Value.bool b5))) (W3 r0 i6))
 | _ => T R 19 vs k
set_option maxRecDepth 100000 in
theorem evFn19 (m : Nat) (R : Type) (r0 : Abs.Rows) (i1 i2 : Int) (k : V → List V → Option R) : runK Tryz.prog H (T4 m) (L0 m) 19 (W4 r0 i1 i2) k = Fn19 (m + 1) r0 i1 i2 (fun b5 i6 => k (V.f (F.lit (Value.bool b5))) (W3 r0 i6)) := by kernel_rfl
noncomputable def T5 (m : Nat) : Tbl := addT 19 (brFn19 m (T4 m)) (T4 m)
theorem okT5 (m : Nat) : TblOk Tryz.prog (T5 m) := addT_ok (okT4 m) fun R vs k x h => by
 unfold brFn19 at h
 split at h
 ·cases m with
  | zero => cases h
  | succ m => exact runK_some (okT4 m) hM (okL0 m) ((evFn19 m R _ _ _ k).trans h)
 ·exact okT4 m R 19 _ k x h

abbrev W7 : List V := [.undef, .undef, .undef]
abbrev W8 (a0 a1 a2 : Int) : List V := [.f (.lit (.int .i64 a0)), .f (.lit (.int .i64 a1)), .f (.lit (.int .i64 a2))]
/-- - -/
noncomputable def Fn28 {R : Type} (m : Nat) : Int → Int → Int → (Bool → Option R) → Option R := match m with
 | 0 => fun _ _ _ _ => none
 | m + 1 => fun i0 i1 i2 k =>
 bif decide (i1 ≤ i0) then (k (decide (i0 ≤ i2))) else
 (k false)
noncomputable def brFn28 (m : Nat) (T : Tbl) (R : Type) (vs : List V) (k : V → List V → Option R) : Option R := match vs with
 | [.f (.lit (.int .i64 i0)), .f (.lit (.int .i64 i1)), .f (.lit (.int .i64 i2))] => Fn28 m i0 i1 i2 (fun b3 => k (V.f (F.lit (Value.bool b3))) W7)
 | _ => T R 28 vs k
set_option maxRecDepth 100000 in
theorem evFn28 (m : Nat) (R : Type) (i0 i1 i2 : Int) (k : V → List V → Option R) : runK Tryz.prog H (T5 m) (L0 m) 28 (W8 i0 i1 i2) k = Fn28 (m + 1) i0 i1 i2 (fun b3 => k (V.f (F.lit (Value.bool b3))) W7) := by kernel_rfl
noncomputable def T6 (m : Nat) : Tbl := addT 28 (brFn28 m (T5 m)) (T5 m)
theorem okT6 (m : Nat) : TblOk Tryz.prog (T6 m) := addT_ok (okT5 m) fun R vs k x h => by
 unfold brFn28 at h
 split at h
 ·cases m with
  | zero => cases h
  | succ m => exact runK_some (okT5 m) hM (okL0 m) ((evFn28 m R _ _ _ k).trans h)
 ·exact okT5 m R 28 _ k x h

abbrev W9 (a0 a1 : Int) (a2 : ByteArray) (a3 : Abs.Rows) : List V := [.agg [.f (.lit (.int .i64 a0)), .f (.lit (.int .i64 a1)), .f (.lit (.string a2))], .iref [.int .i64, .int .i64, .str] a3 0 0]
/-- - -/
noncomputable def Fn29 {R : Type} (m : Nat) : Int → Int → ByteArray → Int → Int → ByteArray → (Bool → Option R) → Option R := match m with
 | 0 => fun _ _ _ _ _ _ _ => none
 | m + 1 => fun i0 i1 s2 i3 i4 s5 k =>
 k (i0 == i3)
noncomputable def brFn29 (m : Nat) (T : Tbl) (R : Type) (vs : List V) (k : V → List V → Option R) : Option R := match vs with
 | [.agg [.f (.lit (.int .i64 i0)), .f (.lit (.int .i64 i1)), .f (.lit (.string s2))], .iref [.int .i64, .int .i64, .str] [[F.lit (Value.int IntKind.i64 i3), F.lit (Value.int IntKind.i64 i4), F.lit (Value.string s5)]] 0 0] => Fn29 m i0 i1 s2 i3 i4 s5 (fun b6 => k (V.f (F.lit (Value.bool b6))) W1)
 | _ => T R 29 vs k
set_option maxRecDepth 100000 in
theorem evFn29 (m : Nat) (R : Type) (i0 i1 : Int) (s2 : ByteArray) (i3 i4 : Int) (s5 : ByteArray) (k : V → List V → Option R) : runK Tryz.prog H (T6 m) (L0 m) 29 (W9 i0 i1 s2 [[F.lit (Value.int IntKind.i64 i3), F.lit (Value.int IntKind.i64 i4), F.lit (Value.string s5)]]) k = Fn29 (m + 1) i0 i1 s2 i3 i4 s5 (fun b6 => k (V.f (F.lit (Value.bool b6))) W1) := by kernel_rfl
noncomputable def T7 (m : Nat) : Tbl := addT 29 (brFn29 m (T6 m)) (T6 m)
theorem okT7 (m : Nat) : TblOk Tryz.prog (T7 m) := addT_ok (okT6 m) fun R vs k x h => by
 unfold brFn29 at h
 split at h
 ·cases m with
  | zero => cases h
  | succ m => exact runK_some (okT6 m) hM (okL0 m) ((evFn29 m R _ _ _ _ _ _ k).trans h)
 ·exact okT6 m R 29 _ k x h

abbrev W10 (a0 a1 : Abs.Rows) (a2 a3 a4 : Int) : List V := [.bor [.int .i64, .int .i64, .str] a0, .clos 29 [.iref [.int .i64, .int .i64, .str] a1 0 0], .f (.lit (.int .i64 a2)), .f (.lit (.int .i64 a3)), .f (.lit (.int .i64 a4)), .undef, .undef]
/-- - -/
noncomputable def Lp51_2_step {R : Type} (m : Nat) (kx0 : Int → Int → Option R) (kx1 : Int → Option R) (r0 : Abs.Rows) (i1 i2 : Int) (s3 : ByteArray) (i4 i5 : Int) (REC : Int → Option R) (i6 : Int) : Option R :=
 bif decide (i6 < i5) then (bif decide ((0 : Int) ≤ i6 ∧ i6 < (↑(List.length r0) : Int)) then (Fn29 m (fI r0 (Int.toNat i6) (0 : Nat)) (fI r0 (Int.toNat i6) (1 : Nat)) (fS r0 (Int.toNat i6) (2 : Nat)) i1 i2 s3 (fun b7 => bif b7 then (kx0 i6 i6) else
 (REC (IntKind.wrap IntKind.i64 (i6 + (1 : Int)))))) else
 (none)) else
 (kx1 i6)
noncomputable def Lp51_2 {R : Type} (m : Nat) (kx0 : Int → Int → Option R) (kx1 : Int → Option R) (r0 : Abs.Rows) (i1 i2 : Int) (s3 : ByteArray) (i4 i5 : Int) : Nat → Int → Option R
 | 0, _ => none
 | n + 1, i6 => Lp51_2_step m kx0 kx1 r0 i1 i2 s3 i4 i5 (Lp51_2 m kx0 kx1 r0 i1 i2 s3 i4 i5 n) i6
noncomputable def ELp51_2 (m : Nat) (R : Type) : Nat → List V → (Ex → List V → Option R) → Option R
 | 0, _, _ => none
 | n + 1, vs, k => match vs with
  | [.bor [.int .i64, .int .i64, .str] r0, .clos 29 [.iref [.int .i64, .int .i64, .str] [[F.lit (Value.int IntKind.i64 i1), F.lit (Value.int IntKind.i64 i2), F.lit (Value.string s3)]] 0 0], .f (.lit (.int .i64 i4)), .f (.lit (.int .i64 i5)), .f (.lit (.int .i64 i6)), .undef, .undef] => Lp51_2_step m (fun i8 i9 => k Ex.ret (W10 r0 [[F.lit (Value.int IntKind.i64 i1), F.lit (Value.int IntKind.i64 i2), F.lit (Value.string s3)]] i8 i5 i9)) (fun i10 => k (Ex.exit (0 : Nat)) (W10 r0 [[F.lit (Value.int IntKind.i64 i1), F.lit (Value.int IntKind.i64 i2), F.lit (Value.string s3)]] i4 i5 i10)) r0 i1 i2 s3 i4 i5 (fun i6 => ELp51_2 m R n (W10 r0 [[F.lit (Value.int IntKind.i64 i1), F.lit (Value.int IntKind.i64 i2), F.lit (Value.string s3)]] i4 i5 i6) k) i6
  | _ => none
noncomputable def brLp51_2 (m : Nat) (L : LTbl) (R : Type) (vs : List V) (k : Ex → List V → Option R) : Option R := match vs with
 | [.bor [.int .i64, .int .i64, .str] r0, .clos 29 [.iref [.int .i64, .int .i64, .str] [[F.lit (Value.int IntKind.i64 i1), F.lit (Value.int IntKind.i64 i2), F.lit (Value.string s3)]] 0 0], .f (.lit (.int .i64 i4)), .f (.lit (.int .i64 i5)), .f (.lit (.int .i64 i6)), .undef, .undef] => Lp51_2 m (fun i8 i9 => k Ex.ret (W10 r0 [[F.lit (Value.int IntKind.i64 i1), F.lit (Value.int IntKind.i64 i2), F.lit (Value.string s3)]] i8 i5 i9)) (fun i10 => k (Ex.exit (0 : Nat)) (W10 r0 [[F.lit (Value.int IntKind.i64 i1), F.lit (Value.int IntKind.i64 i2), F.lit (Value.string s3)]] i4 i5 i10)) r0 i1 i2 s3 i4 i5 m i6
 | _ => L R 51 2 vs k
set_option maxRecDepth 100000 in
theorem stLp51_2 (m n : Nat) (R : Type) (r0 : Abs.Rows) (i1 i2 : Int) (s3 : ByteArray) (i4 i5 i6 : Int) (k : Ex → List V → Option R) : codeK Tryz.prog H (T7 m) 51 (L0 m) 3 (loopBody Tryz.prog 51 2) (mkEnv [0, 1, 4, 7, 8, 19, 20] (W10 r0 [[F.lit (Value.int IntKind.i64 i1), F.lit (Value.int IntKind.i64 i2), F.lit (Value.string s3)]] i4 i5 i6) 0 (H.len 51)) (fun e env' => match e with | .normal => ELp51_2 m R n (vals [0, 1, 4, 7, 8, 19, 20] env') k | e => k e (vals [0, 1, 4, 7, 8, 19, 20] env')) = Lp51_2_step m (fun i8 i9 => k Ex.ret (W10 r0 [[F.lit (Value.int IntKind.i64 i1), F.lit (Value.int IntKind.i64 i2), F.lit (Value.string s3)]] i8 i5 i9)) (fun i10 => k (Ex.exit (0 : Nat)) (W10 r0 [[F.lit (Value.int IntKind.i64 i1), F.lit (Value.int IntKind.i64 i2), F.lit (Value.string s3)]] i4 i5 i10)) r0 i1 i2 s3 i4 i5 (fun i6 => ELp51_2 m R n (W10 r0 [[F.lit (Value.int IntKind.i64 i1), F.lit (Value.int IntKind.i64 i2), F.lit (Value.string s3)]] i4 i5 i6) k) i6 := by kernel_rfl
theorem eqLp51_2 (m : Nat) (R : Type) (r0 : Abs.Rows) (i1 i2 : Int) (s3 : ByteArray) (i4 i5 : Int) (k : Ex → List V → Option R) : ∀ (n : Nat) (i6 : Int), ELp51_2 m R n (W10 r0 [[F.lit (Value.int IntKind.i64 i1), F.lit (Value.int IntKind.i64 i2), F.lit (Value.string s3)]] i4 i5 i6) k = Lp51_2 m (fun i8 i9 => k Ex.ret (W10 r0 [[F.lit (Value.int IntKind.i64 i1), F.lit (Value.int IntKind.i64 i2), F.lit (Value.string s3)]] i8 i5 i9)) (fun i10 => k (Ex.exit (0 : Nat)) (W10 r0 [[F.lit (Value.int IntKind.i64 i1), F.lit (Value.int IntKind.i64 i2), F.lit (Value.string s3)]] i4 i5 i10)) r0 i1 i2 s3 i4 i5 n i6
 | 0, _ => rfl
 | n + 1, i6 => by
  simp only [ELp51_2, Lp51_2, W10]
  congr 1
  funext i6
  exact eqLp51_2 m R r0 i1 i2 s3 i4 i5 k n i6
noncomputable def L1 (m : Nat) : LTbl := addB 51 2 (brLp51_2 m (L0 m)) (L0 m)
theorem okL1 (m : Nat) : LTOk Tryz.prog H (L1 m) := addB_ok (okT7 m) hM (okL0 m) (l := [0, 1, 4, 7, 8, 19, 20]) (by kernel_rfl) (by kernel_rfl) m (fun R n vs k => ELp51_2 m R n vs k) (fun R vs k => rfl) (fun R n vs k x h => by
   simp only [ELp51_2] at h
   split at h
   ·exact (stLp51_2 m n R _ _ _ _ _ _ _ k).trans h
   ·cases h) fun R vs k x h => by
  unfold brLp51_2 at h
  split at h
  ·exact .inl ((eqLp51_2 m R _ _ _ _ _ _ k m _).trans h)
  ·exact .inr h

abbrev W11 (a0 a1 : Abs.Rows) : List V := [.bor [.int .i64, .int .i64, .str] a0, .clos 29 [.iref [.int .i64, .int .i64, .str] a1 0 0]]
/-- - -/
noncomputable def Fn51 {R : Type} (m : Nat) : Abs.Rows → Int → Int → ByteArray → (Int → Option R) → Option R := match m with
 | 0 => fun _ _ _ _ _ => none
 | m + 1 => fun r0 i1 i2 s3 k =>
 Lp51_2 m (fun i4 i5 => k i4) (fun i6 => k ((-1 : Int))) r0 i1 i2 s3 ((0 : Int)) ((↑(List.length r0) : Int)) m ((0 : Int))
noncomputable def brFn51 (m : Nat) (T : Tbl) (R : Type) (vs : List V) (k : V → List V → Option R) : Option R := match vs with
 | [.bor [.int .i64, .int .i64, .str] r0, .clos 29 [.iref [.int .i64, .int .i64, .str] [[F.lit (Value.int IntKind.i64 i1), F.lit (Value.int IntKind.i64 i2), F.lit (Value.string s3)]] 0 0]] => Fn51 m r0 i1 i2 s3 (fun i7 => k (V.f (F.lit (Value.int IntKind.i64 i7))) W1)
 | _ => T R 51 vs k
set_option maxRecDepth 100000 in
theorem evFn51 (m : Nat) (R : Type) (r0 : Abs.Rows) (i1 i2 : Int) (s3 : ByteArray) (k : V → List V → Option R) : runK Tryz.prog H (T7 m) (L1 m) 51 (W11 r0 [[F.lit (Value.int IntKind.i64 i1), F.lit (Value.int IntKind.i64 i2), F.lit (Value.string s3)]]) k = Fn51 (m + 1) r0 i1 i2 s3 (fun i7 => k (V.f (F.lit (Value.int IntKind.i64 i7))) W1) := by kernel_rfl
noncomputable def T8 (m : Nat) : Tbl := addT 51 (brFn51 m (T7 m)) (T7 m)
theorem okT8 (m : Nat) : TblOk Tryz.prog (T8 m) := addT_ok (okT7 m) fun R vs k x h => by
 unfold brFn51 at h
 split at h
 ·cases m with
  | zero => cases h
  | succ m => exact runK_some (okT7 m) hM (okL1 m) ((evFn51 m R _ _ _ _ k).trans h)
 ·exact okT7 m R 51 _ k x h

/-- - -/
noncomputable def Fn24 {R : Type} (m : Nat) : Abs.Rows → Int → Int → ByteArray → (Bool → Option R) → Option R := match m with
 | 0 => fun _ _ _ _ _ => none
 | m + 1 => fun r0 i1 i2 s3 k =>
 Fn51 m r0 i1 i2 s3 (fun i4 => k (decide (i4 ≥ (0 : Int))))
noncomputable def brFn24 (m : Nat) (T : Tbl) (R : Type) (vs : List V) (k : V → List V → Option R) : Option R := match vs with
 | [.bor [.int .i64, .int .i64, .str] r0, .clos 29 [.iref [.int .i64, .int .i64, .str] [[F.lit (Value.int IntKind.i64 i1), F.lit (Value.int IntKind.i64 i2), F.lit (Value.string s3)]] 0 0]] => Fn24 m r0 i1 i2 s3 (fun b5 => k (V.f (F.lit (Value.bool b5))) W1)
 | _ => T R 24 vs k
set_option maxRecDepth 100000 in
theorem evFn24 (m : Nat) (R : Type) (r0 : Abs.Rows) (i1 i2 : Int) (s3 : ByteArray) (k : V → List V → Option R) : runK Tryz.prog H (T8 m) (L1 m) 24 (W11 r0 [[F.lit (Value.int IntKind.i64 i1), F.lit (Value.int IntKind.i64 i2), F.lit (Value.string s3)]]) k = Fn24 (m + 1) r0 i1 i2 s3 (fun b5 => k (V.f (F.lit (Value.bool b5))) W1) := by kernel_rfl
noncomputable def T9 (m : Nat) : Tbl := addT 24 (brFn24 m (T8 m)) (T8 m)
theorem okT9 (m : Nat) : TblOk Tryz.prog (T9 m) := addT_ok (okT8 m) fun R vs k x h => by
 unfold brFn24 at h
 split at h
 ·cases m with
  | zero => cases h
  | succ m => exact runK_some (okT8 m) hM (okL1 m) ((evFn24 m R _ _ _ _ k).trans h)
 ·exact okT8 m R 24 _ k x h

abbrev W12 (a0 : ByteArray) (a1 : Int) : List V := [.f (.lit (.string a0)), .f (.lit (.int .u8 a1))]
/-- - -/
noncomputable def Fn82 {R : Type} (m : Nat) : ByteArray → Int → (Int → Option R) → Option R := match m with
 | 0 => fun _ _ _ => none
 | m + 1 => fun s0 i1 k =>
 k (idxByte s0 i1)
noncomputable def brFn82 (m : Nat) (T : Tbl) (R : Type) (vs : List V) (k : V → List V → Option R) : Option R := match vs with
 | [.f (.lit (.string s0)), .f (.lit (.int .u8 i1))] => Fn82 m s0 i1 (fun i2 => k (V.f (F.lit (Value.int IntKind.i64 i2))) W1)
 | _ => T R 82 vs k
set_option maxRecDepth 100000 in
theorem evFn82 (m : Nat) (R : Type) (s0 : ByteArray) (i1 : Int) (k : V → List V → Option R) : runK Tryz.prog H (T9 m) (L1 m) 82 (W12 s0 i1) k = Fn82 (m + 1) s0 i1 (fun i2 => k (V.f (F.lit (Value.int IntKind.i64 i2))) W1) := by kernel_rfl
noncomputable def T10 (m : Nat) : Tbl := addT 82 (brFn82 m (T9 m)) (T9 m)
theorem okT10 (m : Nat) : TblOk Tryz.prog (T10 m) := addT_ok (okT9 m) fun R vs k x h => by
 unfold brFn82 at h
 split at h
 ·cases m with
  | zero => cases h
  | succ m => exact runK_some (okT9 m) hM (okL1 m) ((evFn82 m R _ _ k).trans h)
 ·exact okT9 m R 82 _ k x h

/-- - -/
noncomputable def Fn63 {R : Type} (m : Nat) : ByteArray → Int → (Int → Option R) → Option R := match m with
 | 0 => fun _ _ _ => none
 | m + 1 => fun s0 i1 k =>
 Fn82 m s0 i1 (fun i2 => k i2)
noncomputable def brFn63 (m : Nat) (T : Tbl) (R : Type) (vs : List V) (k : V → List V → Option R) : Option R := match vs with
 | [.f (.lit (.string s0)), .f (.lit (.int .u8 i1))] => Fn63 m s0 i1 (fun i3 => k (V.f (F.lit (Value.int IntKind.i64 i3))) W1)
 | _ => T R 63 vs k
set_option maxRecDepth 100000 in
theorem evFn63 (m : Nat) (R : Type) (s0 : ByteArray) (i1 : Int) (k : V → List V → Option R) : runK Tryz.prog H (T10 m) (L1 m) 63 (W12 s0 i1) k = Fn63 (m + 1) s0 i1 (fun i3 => k (V.f (F.lit (Value.int IntKind.i64 i3))) W1) := by kernel_rfl
noncomputable def T11 (m : Nat) : Tbl := addT 63 (brFn63 m (T10 m)) (T10 m)
theorem okT11 (m : Nat) : TblOk Tryz.prog (T11 m) := addT_ok (okT10 m) fun R vs k x h => by
 unfold brFn63 at h
 split at h
 ·cases m with
  | zero => cases h
  | succ m => exact runK_some (okT10 m) hM (okL1 m) ((evFn63 m R _ _ k).trans h)
 ·exact okT10 m R 63 _ k x h

abbrev W13 (a0 a1 : ByteArray) (a2 : Bool) (a3 a4 : Int) : List V := [.f (.lit (.string a0)), .f (.lit (.string a1)), .f (.lit (.bool a2)), .f (.lit (.int .i64 a3)), .f (.lit (.int .i64 a4)), .undef, .undef]
/-- - -/
noncomputable def Lp53_2_step {R : Type} (m : Nat) (kx0 : Bool → Int → Option R) (kx1 : Int → Option R) (s0 s1 : ByteArray) (b2 : Bool) (i3 : Int) (REC : Int → Option R) (i4 : Int) : Option R :=
 bif decide (i4 < i3) then (bif decide ((0 : Int) ≤ i4 ∧ i4 < (↑(ByteArray.size s0) : Int)) then (Fn63 m s1 ((↑(UInt8.toNat (Array.getD (ByteArray.data s0) (Int.toNat i4) (0 : UInt8))) : Int)) (fun i5 => bif decide (i5 < (0 : Int)) then (kx0 false i4) else
 (REC (IntKind.wrap IntKind.i64 (i4 + (1 : Int)))))) else
 (none)) else
 (kx1 i4)
noncomputable def Lp53_2 {R : Type} (m : Nat) (kx0 : Bool → Int → Option R) (kx1 : Int → Option R) (s0 s1 : ByteArray) (b2 : Bool) (i3 : Int) : Nat → Int → Option R
 | 0, _ => none
 | n + 1, i4 => Lp53_2_step m kx0 kx1 s0 s1 b2 i3 (Lp53_2 m kx0 kx1 s0 s1 b2 i3 n) i4
noncomputable def ELp53_2 (m : Nat) (R : Type) : Nat → List V → (Ex → List V → Option R) → Option R
 | 0, _, _ => none
 | n + 1, vs, k => match vs with
  | [.f (.lit (.string s0)), .f (.lit (.string s1)), .f (.lit (.bool b2)), .f (.lit (.int .i64 i3)), .f (.lit (.int .i64 i4)), .undef, .undef] => Lp53_2_step m (fun b6 i7 => k Ex.ret (W13 s0 s1 b6 i3 i7)) (fun i8 => k (Ex.exit (0 : Nat)) (W13 s0 s1 b2 i3 i8)) s0 s1 b2 i3 (fun i4 => ELp53_2 m R n (W13 s0 s1 b2 i3 i4) k) i4
  | _ => none
noncomputable def brLp53_2 (m : Nat) (L : LTbl) (R : Type) (vs : List V) (k : Ex → List V → Option R) : Option R := match vs with
 | [.f (.lit (.string s0)), .f (.lit (.string s1)), .f (.lit (.bool b2)), .f (.lit (.int .i64 i3)), .f (.lit (.int .i64 i4)), .undef, .undef] => Lp53_2 m (fun b6 i7 => k Ex.ret (W13 s0 s1 b6 i3 i7)) (fun i8 => k (Ex.exit (0 : Nat)) (W13 s0 s1 b2 i3 i8)) s0 s1 b2 i3 m i4
 | _ => L R 53 2 vs k
set_option maxRecDepth 100000 in
theorem stLp53_2 (m n : Nat) (R : Type) (s0 s1 : ByteArray) (b2 : Bool) (i3 i4 : Int) (k : Ex → List V → Option R) : codeK Tryz.prog H (T11 m) 53 (L1 m) 3 (loopBody Tryz.prog 53 2) (mkEnv [0, 1, 4, 7, 8, 18, 19] (W13 s0 s1 b2 i3 i4) 0 (H.len 53)) (fun e env' => match e with | .normal => ELp53_2 m R n (vals [0, 1, 4, 7, 8, 18, 19] env') k | e => k e (vals [0, 1, 4, 7, 8, 18, 19] env')) = Lp53_2_step m (fun b6 i7 => k Ex.ret (W13 s0 s1 b6 i3 i7)) (fun i8 => k (Ex.exit (0 : Nat)) (W13 s0 s1 b2 i3 i8)) s0 s1 b2 i3 (fun i4 => ELp53_2 m R n (W13 s0 s1 b2 i3 i4) k) i4 := by kernel_rfl
theorem eqLp53_2 (m : Nat) (R : Type) (s0 s1 : ByteArray) (b2 : Bool) (i3 : Int) (k : Ex → List V → Option R) : ∀ (n : Nat) (i4 : Int), ELp53_2 m R n (W13 s0 s1 b2 i3 i4) k = Lp53_2 m (fun b6 i7 => k Ex.ret (W13 s0 s1 b6 i3 i7)) (fun i8 => k (Ex.exit (0 : Nat)) (W13 s0 s1 b2 i3 i8)) s0 s1 b2 i3 n i4
 | 0, _ => rfl
 | n + 1, i4 => by
  simp only [ELp53_2, Lp53_2, W13]
  congr 1
  funext i4
  exact eqLp53_2 m R s0 s1 b2 i3 k n i4
noncomputable def L2 (m : Nat) : LTbl := addB 53 2 (brLp53_2 m (L1 m)) (L1 m)
theorem okL2 (m : Nat) : LTOk Tryz.prog H (L2 m) := addB_ok (okT11 m) hM (okL1 m) (l := [0, 1, 4, 7, 8, 18, 19]) (by kernel_rfl) (by kernel_rfl) m (fun R n vs k => ELp53_2 m R n vs k) (fun R vs k => rfl) (fun R n vs k x h => by
   simp only [ELp53_2] at h
   split at h
   ·exact (stLp53_2 m n R _ _ _ _ _ k).trans h
   ·cases h) fun R vs k x h => by
  unfold brLp53_2 at h
  split at h
  ·exact .inl ((eqLp53_2 m R _ _ _ _ k m _).trans h)
  ·exact .inr h

abbrev W14 (a0 a1 : ByteArray) : List V := [.f (.lit (.string a0)), .f (.lit (.string a1))]
/-- - -/
noncomputable def Fn53 {R : Type} (m : Nat) : ByteArray → ByteArray → (Bool → Option R) → Option R := match m with
 | 0 => fun _ _ _ => none
 | m + 1 => fun s0 s1 k =>
 Lp53_2 m (fun b2 i3 => k b2) (fun i4 => k true) s0 s1 false ((↑(ByteArray.size s0) : Int)) m ((0 : Int))
noncomputable def brFn53 (m : Nat) (T : Tbl) (R : Type) (vs : List V) (k : V → List V → Option R) : Option R := match vs with
 | [.f (.lit (.string s0)), .f (.lit (.string s1))] => Fn53 m s0 s1 (fun b5 => k (V.f (F.lit (Value.bool b5))) W1)
 | _ => T R 53 vs k
set_option maxRecDepth 100000 in
theorem evFn53 (m : Nat) (R : Type) (s0 s1 : ByteArray) (k : V → List V → Option R) : runK Tryz.prog H (T11 m) (L2 m) 53 (W14 s0 s1) k = Fn53 (m + 1) s0 s1 (fun b5 => k (V.f (F.lit (Value.bool b5))) W1) := by kernel_rfl
noncomputable def T12 (m : Nat) : Tbl := addT 53 (brFn53 m (T11 m)) (T11 m)
theorem okT12 (m : Nat) : TblOk Tryz.prog (T12 m) := addT_ok (okT11 m) fun R vs k x h => by
 unfold brFn53 at h
 split at h
 ·cases m with
  | zero => cases h
  | succ m => exact runK_some (okT11 m) hM (okL2 m) ((evFn53 m R _ _ k).trans h)
 ·exact okT11 m R 53 _ k x h

abbrev W15 : List V := [.undef]
abbrev W16 (a0 : ByteArray) : List V := [.f (.lit (.string a0))]
/-- - -/
noncomputable def Fn30 {R : Type} (m : Nat) : ByteArray → (Bool → Option R) → Option R := match m with
 | 0 => fun _ _ => none
 | m + 1 => fun s0 k =>
 Fn28 m ((↑(ByteArray.size s0) : Int)) ((1 : Int)) ((40 : Int)) (fun b1 => bif b1 then (bif decide ((0 : Int) ≤ (1 : Int) ∧ (1 : Int) ≤ (↑(ByteArray.size s0) : Int)) then (Fn53 m (ByteArray.extract s0 (0 : Nat) (Int.toNat (1 : Int))) ({ data := #[(97 : UInt8), (98 : UInt8), (99 : UInt8), (100 : UInt8), (101 : UInt8), (102 : UInt8), (103 : UInt8), (104 : UInt8), (105 : UInt8), (106 : UInt8), (107 : UInt8), (108 : UInt8), (109 : UInt8), (110 : UInt8), (111 : UInt8), (112 : UInt8), (113 : UInt8), (114 : UInt8), (115 : UInt8), (116 : UInt8), (117 : UInt8), (118 : UInt8), (119 : UInt8), (120 : UInt8), (121 : UInt8), (122 : UInt8)] }) (fun b2 => bif b2 then (Fn53 m s0 ({ data := #[(97 : UInt8), (98 : UInt8), (99 : UInt8), (100 : UInt8), (101 : UInt8), (102 : UInt8), (103 : UInt8), (104 : UInt8), (105 : UInt8), (106 : UInt8), (107 : UInt8), (108 : UInt8), (109 : UInt8), (110 : UInt8), (111 : UInt8), (112 : UInt8), (113 : UInt8), (114 : UInt8), (115 : UInt8), (116 : UInt8), (117 : UInt8), (118 : UInt8), (119 : UInt8), (120 : UInt8), (121 : UInt8), (122 : UInt8), (48 : UInt8), (49 : UInt8), (50 : UInt8), (51 : UInt8), (52 : UInt8), (53 : UInt8), (54 : UInt8), (55 : UInt8), (56 : UInt8), (57 : UInt8), (45 : UInt8), (95 : UInt8)] }) (fun b3 => k b3)) else
 (k false))) else
 (none)) else
 (k false))
noncomputable def brFn30 (m : Nat) (T : Tbl) (R : Type) (vs : List V) (k : V → List V → Option R) : Option R := match vs with
 | [.f (.lit (.string s0))] => Fn30 m s0 (fun b4 => k (V.f (F.lit (Value.bool b4))) W15)
 | _ => T R 30 vs k
set_option maxRecDepth 100000 in
theorem evFn30 (m : Nat) (R : Type) (s0 : ByteArray) (k : V → List V → Option R) : runK Tryz.prog H (T12 m) (L2 m) 30 (W16 s0) k = Fn30 (m + 1) s0 (fun b4 => k (V.f (F.lit (Value.bool b4))) W15) := by kernel_rfl
noncomputable def T13 (m : Nat) : Tbl := addT 30 (brFn30 m (T12 m)) (T12 m)
theorem okT13 (m : Nat) : TblOk Tryz.prog (T13 m) := addT_ok (okT12 m) fun R vs k x h => by
 unfold brFn30 at h
 split at h
 ·cases m with
  | zero => cases h
  | succ m => exact runK_some (okT12 m) hM (okL2 m) ((evFn30 m R _ k).trans h)
 ·exact okT12 m R 30 _ k x h

/-- - -/
noncomputable def Fn31 {R : Type} (m : Nat) : Int → Int → ByteArray → Int → Int → ByteArray → (Bool → Option R) → Option R := match m with
 | 0 => fun _ _ _ _ _ _ _ => none
 | m + 1 => fun i0 i1 s2 i3 i4 s5 k =>
 bif ByteArray.toList s2 == ByteArray.toList s5 then (k (i1 == i4)) else
 (k false)
noncomputable def brFn31 (m : Nat) (T : Tbl) (R : Type) (vs : List V) (k : V → List V → Option R) : Option R := match vs with
 | [.agg [.f (.lit (.int .i64 i0)), .f (.lit (.int .i64 i1)), .f (.lit (.string s2))], .iref [.int .i64, .int .i64, .str] [[F.lit (Value.int IntKind.i64 i3), F.lit (Value.int IntKind.i64 i4), F.lit (Value.string s5)]] 0 0] => Fn31 m i0 i1 s2 i3 i4 s5 (fun b6 => k (V.f (F.lit (Value.bool b6))) W1)
 | _ => T R 31 vs k
set_option maxRecDepth 100000 in
theorem evFn31 (m : Nat) (R : Type) (i0 i1 : Int) (s2 : ByteArray) (i3 i4 : Int) (s5 : ByteArray) (k : V → List V → Option R) : runK Tryz.prog H (T13 m) (L2 m) 31 (W9 i0 i1 s2 [[F.lit (Value.int IntKind.i64 i3), F.lit (Value.int IntKind.i64 i4), F.lit (Value.string s5)]]) k = Fn31 (m + 1) i0 i1 s2 i3 i4 s5 (fun b6 => k (V.f (F.lit (Value.bool b6))) W1) := by kernel_rfl
noncomputable def T14 (m : Nat) : Tbl := addT 31 (brFn31 m (T13 m)) (T13 m)
theorem okT14 (m : Nat) : TblOk Tryz.prog (T14 m) := addT_ok (okT13 m) fun R vs k x h => by
 unfold brFn31 at h
 split at h
 ·cases m with
  | zero => cases h
  | succ m => exact runK_some (okT13 m) hM (okL2 m) ((evFn31 m R _ _ _ _ _ _ k).trans h)
 ·exact okT13 m R 31 _ k x h

abbrev W17 (a0 a1 : Abs.Rows) (a2 a3 a4 : Int) : List V := [.bor [.int .i64, .int .i64, .str] a0, .clos 31 [.iref [.int .i64, .int .i64, .str] a1 0 0], .f (.lit (.int .i64 a2)), .f (.lit (.int .i64 a3)), .f (.lit (.int .i64 a4)), .undef, .undef]
/-- - -/
noncomputable def Lp51_2v1_step {R : Type} (m : Nat) (kx0 : Int → Int → Option R) (kx1 : Int → Option R) (r0 : Abs.Rows) (i1 i2 : Int) (s3 : ByteArray) (i4 i5 : Int) (REC : Int → Option R) (i6 : Int) : Option R :=
 bif decide (i6 < i5) then (bif decide ((0 : Int) ≤ i6 ∧ i6 < (↑(List.length r0) : Int)) then (Fn31 m (fI r0 (Int.toNat i6) (0 : Nat)) (fI r0 (Int.toNat i6) (1 : Nat)) (fS r0 (Int.toNat i6) (2 : Nat)) i1 i2 s3 (fun b7 => bif b7 then (kx0 i6 i6) else
 (REC (IntKind.wrap IntKind.i64 (i6 + (1 : Int)))))) else
 (none)) else
 (kx1 i6)
noncomputable def Lp51_2v1 {R : Type} (m : Nat) (kx0 : Int → Int → Option R) (kx1 : Int → Option R) (r0 : Abs.Rows) (i1 i2 : Int) (s3 : ByteArray) (i4 i5 : Int) : Nat → Int → Option R
 | 0, _ => none
 | n + 1, i6 => Lp51_2v1_step m kx0 kx1 r0 i1 i2 s3 i4 i5 (Lp51_2v1 m kx0 kx1 r0 i1 i2 s3 i4 i5 n) i6
noncomputable def ELp51_2v1 (m : Nat) (R : Type) : Nat → List V → (Ex → List V → Option R) → Option R
 | 0, _, _ => none
 | n + 1, vs, k => match vs with
  | [.bor [.int .i64, .int .i64, .str] r0, .clos 31 [.iref [.int .i64, .int .i64, .str] [[F.lit (Value.int IntKind.i64 i1), F.lit (Value.int IntKind.i64 i2), F.lit (Value.string s3)]] 0 0], .f (.lit (.int .i64 i4)), .f (.lit (.int .i64 i5)), .f (.lit (.int .i64 i6)), .undef, .undef] => Lp51_2v1_step m (fun i8 i9 => k Ex.ret (W17 r0 [[F.lit (Value.int IntKind.i64 i1), F.lit (Value.int IntKind.i64 i2), F.lit (Value.string s3)]] i8 i5 i9)) (fun i10 => k (Ex.exit (0 : Nat)) (W17 r0 [[F.lit (Value.int IntKind.i64 i1), F.lit (Value.int IntKind.i64 i2), F.lit (Value.string s3)]] i4 i5 i10)) r0 i1 i2 s3 i4 i5 (fun i6 => ELp51_2v1 m R n (W17 r0 [[F.lit (Value.int IntKind.i64 i1), F.lit (Value.int IntKind.i64 i2), F.lit (Value.string s3)]] i4 i5 i6) k) i6
  | _ => none
noncomputable def brLp51_2v1 (m : Nat) (L : LTbl) (R : Type) (vs : List V) (k : Ex → List V → Option R) : Option R := match vs with
 | [.bor [.int .i64, .int .i64, .str] r0, .clos 31 [.iref [.int .i64, .int .i64, .str] [[F.lit (Value.int IntKind.i64 i1), F.lit (Value.int IntKind.i64 i2), F.lit (Value.string s3)]] 0 0], .f (.lit (.int .i64 i4)), .f (.lit (.int .i64 i5)), .f (.lit (.int .i64 i6)), .undef, .undef] => Lp51_2v1 m (fun i8 i9 => k Ex.ret (W17 r0 [[F.lit (Value.int IntKind.i64 i1), F.lit (Value.int IntKind.i64 i2), F.lit (Value.string s3)]] i8 i5 i9)) (fun i10 => k (Ex.exit (0 : Nat)) (W17 r0 [[F.lit (Value.int IntKind.i64 i1), F.lit (Value.int IntKind.i64 i2), F.lit (Value.string s3)]] i4 i5 i10)) r0 i1 i2 s3 i4 i5 m i6
 | _ => L R 51 2 vs k
set_option maxRecDepth 100000 in
theorem stLp51_2v1 (m n : Nat) (R : Type) (r0 : Abs.Rows) (i1 i2 : Int) (s3 : ByteArray) (i4 i5 i6 : Int) (k : Ex → List V → Option R) : codeK Tryz.prog H (T14 m) 51 (L2 m) 3 (loopBody Tryz.prog 51 2) (mkEnv [0, 1, 4, 7, 8, 19, 20] (W17 r0 [[F.lit (Value.int IntKind.i64 i1), F.lit (Value.int IntKind.i64 i2), F.lit (Value.string s3)]] i4 i5 i6) 0 (H.len 51)) (fun e env' => match e with | .normal => ELp51_2v1 m R n (vals [0, 1, 4, 7, 8, 19, 20] env') k | e => k e (vals [0, 1, 4, 7, 8, 19, 20] env')) = Lp51_2v1_step m (fun i8 i9 => k Ex.ret (W17 r0 [[F.lit (Value.int IntKind.i64 i1), F.lit (Value.int IntKind.i64 i2), F.lit (Value.string s3)]] i8 i5 i9)) (fun i10 => k (Ex.exit (0 : Nat)) (W17 r0 [[F.lit (Value.int IntKind.i64 i1), F.lit (Value.int IntKind.i64 i2), F.lit (Value.string s3)]] i4 i5 i10)) r0 i1 i2 s3 i4 i5 (fun i6 => ELp51_2v1 m R n (W17 r0 [[F.lit (Value.int IntKind.i64 i1), F.lit (Value.int IntKind.i64 i2), F.lit (Value.string s3)]] i4 i5 i6) k) i6 := by kernel_rfl
theorem eqLp51_2v1 (m : Nat) (R : Type) (r0 : Abs.Rows) (i1 i2 : Int) (s3 : ByteArray) (i4 i5 : Int) (k : Ex → List V → Option R) : ∀ (n : Nat) (i6 : Int), ELp51_2v1 m R n (W17 r0 [[F.lit (Value.int IntKind.i64 i1), F.lit (Value.int IntKind.i64 i2), F.lit (Value.string s3)]] i4 i5 i6) k = Lp51_2v1 m (fun i8 i9 => k Ex.ret (W17 r0 [[F.lit (Value.int IntKind.i64 i1), F.lit (Value.int IntKind.i64 i2), F.lit (Value.string s3)]] i8 i5 i9)) (fun i10 => k (Ex.exit (0 : Nat)) (W17 r0 [[F.lit (Value.int IntKind.i64 i1), F.lit (Value.int IntKind.i64 i2), F.lit (Value.string s3)]] i4 i5 i10)) r0 i1 i2 s3 i4 i5 n i6
 | 0, _ => rfl
 | n + 1, i6 => by
  simp only [ELp51_2v1, Lp51_2v1, W17]
  congr 1
  funext i6
  exact eqLp51_2v1 m R r0 i1 i2 s3 i4 i5 k n i6
noncomputable def L3 (m : Nat) : LTbl := addB 51 2 (brLp51_2v1 m (L2 m)) (L2 m)
theorem okL3 (m : Nat) : LTOk Tryz.prog H (L3 m) := addB_ok (okT14 m) hM (okL2 m) (l := [0, 1, 4, 7, 8, 19, 20]) (by kernel_rfl) (by kernel_rfl) m (fun R n vs k => ELp51_2v1 m R n vs k) (fun R vs k => rfl) (fun R n vs k x h => by
   simp only [ELp51_2v1] at h
   split at h
   ·exact (stLp51_2v1 m n R _ _ _ _ _ _ _ k).trans h
   ·cases h) fun R vs k x h => by
  unfold brLp51_2v1 at h
  split at h
  ·exact .inl ((eqLp51_2v1 m R _ _ _ _ _ _ k m _).trans h)
  ·exact .inr h

abbrev W18 (a0 a1 : Abs.Rows) : List V := [.bor [.int .i64, .int .i64, .str] a0, .clos 31 [.iref [.int .i64, .int .i64, .str] a1 0 0]]
/-- - -/
noncomputable def Fn51v1 {R : Type} (m : Nat) : Abs.Rows → Int → Int → ByteArray → (Int → Option R) → Option R := match m with
 | 0 => fun _ _ _ _ _ => none
 | m + 1 => fun r0 i1 i2 s3 k =>
 Lp51_2v1 m (fun i4 i5 => k i4) (fun i6 => k ((-1 : Int))) r0 i1 i2 s3 ((0 : Int)) ((↑(List.length r0) : Int)) m ((0 : Int))
noncomputable def brFn51v1 (m : Nat) (T : Tbl) (R : Type) (vs : List V) (k : V → List V → Option R) : Option R := match vs with
 | [.bor [.int .i64, .int .i64, .str] r0, .clos 31 [.iref [.int .i64, .int .i64, .str] [[F.lit (Value.int IntKind.i64 i1), F.lit (Value.int IntKind.i64 i2), F.lit (Value.string s3)]] 0 0]] => Fn51v1 m r0 i1 i2 s3 (fun i7 => k (V.f (F.lit (Value.int IntKind.i64 i7))) W1)
 | _ => T R 51 vs k
set_option maxRecDepth 100000 in
theorem evFn51v1 (m : Nat) (R : Type) (r0 : Abs.Rows) (i1 i2 : Int) (s3 : ByteArray) (k : V → List V → Option R) : runK Tryz.prog H (T14 m) (L3 m) 51 (W18 r0 [[F.lit (Value.int IntKind.i64 i1), F.lit (Value.int IntKind.i64 i2), F.lit (Value.string s3)]]) k = Fn51v1 (m + 1) r0 i1 i2 s3 (fun i7 => k (V.f (F.lit (Value.int IntKind.i64 i7))) W1) := by kernel_rfl
noncomputable def T15 (m : Nat) : Tbl := addT 51 (brFn51v1 m (T14 m)) (T14 m)
theorem okT15 (m : Nat) : TblOk Tryz.prog (T15 m) := addT_ok (okT14 m) fun R vs k x h => by
 unfold brFn51v1 at h
 split at h
 ·cases m with
  | zero => cases h
  | succ m => exact runK_some (okT14 m) hM (okL3 m) ((evFn51v1 m R _ _ _ _ k).trans h)
 ·exact okT14 m R 51 _ k x h

/-- - -/
noncomputable def Fn24v1 {R : Type} (m : Nat) : Abs.Rows → Int → Int → ByteArray → (Bool → Option R) → Option R := match m with
 | 0 => fun _ _ _ _ _ => none
 | m + 1 => fun r0 i1 i2 s3 k =>
 Fn51v1 m r0 i1 i2 s3 (fun i4 => k (decide (i4 ≥ (0 : Int))))
noncomputable def brFn24v1 (m : Nat) (T : Tbl) (R : Type) (vs : List V) (k : V → List V → Option R) : Option R := match vs with
 | [.bor [.int .i64, .int .i64, .str] r0, .clos 31 [.iref [.int .i64, .int .i64, .str] [[F.lit (Value.int IntKind.i64 i1), F.lit (Value.int IntKind.i64 i2), F.lit (Value.string s3)]] 0 0]] => Fn24v1 m r0 i1 i2 s3 (fun b5 => k (V.f (F.lit (Value.bool b5))) W1)
 | _ => T R 24 vs k
set_option maxRecDepth 100000 in
theorem evFn24v1 (m : Nat) (R : Type) (r0 : Abs.Rows) (i1 i2 : Int) (s3 : ByteArray) (k : V → List V → Option R) : runK Tryz.prog H (T15 m) (L3 m) 24 (W18 r0 [[F.lit (Value.int IntKind.i64 i1), F.lit (Value.int IntKind.i64 i2), F.lit (Value.string s3)]]) k = Fn24v1 (m + 1) r0 i1 i2 s3 (fun b5 => k (V.f (F.lit (Value.bool b5))) W1) := by kernel_rfl
noncomputable def T16 (m : Nat) : Tbl := addT 24 (brFn24v1 m (T15 m)) (T15 m)
theorem okT16 (m : Nat) : TblOk Tryz.prog (T16 m) := addT_ok (okT15 m) fun R vs k x h => by
 unfold brFn24v1 at h
 split at h
 ·cases m with
  | zero => cases h
  | succ m => exact runK_some (okT15 m) hM (okL3 m) ((evFn24v1 m R _ _ _ _ k).trans h)
 ·exact okT15 m R 24 _ k x h

abbrev W19 (a0 : Abs.Rows) (a1 : Int) (a2 : Abs.Rows) (a3 a4 : Int) : List V := [.bor [.int .i64, .int .i64, .str] a0, .f (.lit (.int .i64 a1)), .bor [.int .i64, .int .i64, .str] a2, .f (.lit (.int .i64 a3)), .f (.lit (.int .i64 a4)), .undef]
/-- - -/
noncomputable def Lp8_5_step {R : Type} (m : Nat) (kx0 : Int → Int → Option R) (kx1 : Int → Option R) (r0 : Abs.Rows) (i1 : Int) (r2 : Abs.Rows) (i3 : Int) (REC : Int → Option R) (i4 : Int) : Option R :=
 bif decide (i4 < i3) then (bif decide ((0 : Int) ≤ i4 ∧ i4 < (↑(List.length r2) : Int)) then (Fn28 m (fI r2 (Int.toNat i4) (0 : Nat)) ((0 : Int)) ((127 : Int)) (fun b5 => bif !b5 then (kx0 ((1 : Int)) i4) else
 (bif decide ((0 : Int) ≤ i4 ∧ i4 ≤ (↑(List.length r0) : Int)) then (Fn24 m (List.take (Int.toNat i4 - (0 : Nat)) (List.drop (0 : Nat) r0)) (fI r2 (Int.toNat i4) (0 : Nat)) (fI r2 (Int.toNat i4) (1 : Nat)) (fS r2 (Int.toNat i4) (2 : Nat)) (fun b6 => bif b6 then (kx0 ((6 : Int)) i4) else
 (Fn30 m (fS r2 (Int.toNat i4) (2 : Nat)) (fun b7 => bif !b7 then (kx0 ((5 : Int)) i4) else
 (Fn28 m (fI r2 (Int.toNat i4) (1 : Nat)) ((1000 : Int)) ((96000 : Int)) (fun b8 => bif !b8 then (kx0 ((1 : Int)) i4) else
 (bif decide ((0 : Int) ≤ i4 ∧ i4 ≤ (↑(List.length r0) : Int)) then (Fn24v1 m (List.take (Int.toNat i4 - (0 : Nat)) (List.drop (0 : Nat) r0)) (fI r2 (Int.toNat i4) (0 : Nat)) (fI r2 (Int.toNat i4) (1 : Nat)) (fS r2 (Int.toNat i4) (2 : Nat)) (fun b9 => bif b9 then (kx0 ((6 : Int)) i4) else
 (REC (IntKind.wrap IntKind.i64 (i4 + (1 : Int)))))) else
 (none)))))))) else
 (none)))) else
 (none)) else
 (kx1 i4)
noncomputable def Lp8_5 {R : Type} (m : Nat) (kx0 : Int → Int → Option R) (kx1 : Int → Option R) (r0 : Abs.Rows) (i1 : Int) (r2 : Abs.Rows) (i3 : Int) : Nat → Int → Option R
 | 0, _ => none
 | n + 1, i4 => Lp8_5_step m kx0 kx1 r0 i1 r2 i3 (Lp8_5 m kx0 kx1 r0 i1 r2 i3 n) i4
noncomputable def ELp8_5 (m : Nat) (R : Type) : Nat → List V → (Ex → List V → Option R) → Option R
 | 0, _, _ => none
 | n + 1, vs, k => match vs with
  | [.bor [.int .i64, .int .i64, .str] r0, .f (.lit (.int .i64 i1)), .bor [.int .i64, .int .i64, .str] r2, .f (.lit (.int .i64 i3)), .f (.lit (.int .i64 i4)), .undef] => Lp8_5_step m (fun i10 i11 => k Ex.ret (W19 r0 i10 r2 i3 i11)) (fun i12 => k (Ex.exit (0 : Nat)) (W19 r0 i1 r2 i3 i12)) r0 i1 r2 i3 (fun i4 => ELp8_5 m R n (W19 r0 i1 r2 i3 i4) k) i4
  | _ => none
noncomputable def brLp8_5 (m : Nat) (L : LTbl) (R : Type) (vs : List V) (k : Ex → List V → Option R) : Option R := match vs with
 | [.bor [.int .i64, .int .i64, .str] r0, .f (.lit (.int .i64 i1)), .bor [.int .i64, .int .i64, .str] r2, .f (.lit (.int .i64 i3)), .f (.lit (.int .i64 i4)), .undef] => Lp8_5 m (fun i10 i11 => k Ex.ret (W19 r0 i10 r2 i3 i11)) (fun i12 => k (Ex.exit (0 : Nat)) (W19 r0 i1 r2 i3 i12)) r0 i1 r2 i3 m i4
 | _ => L R 8 5 vs k
set_option maxRecDepth 100000 in
theorem stLp8_5 (m n : Nat) (R : Type) (r0 : Abs.Rows) (i1 : Int) (r2 : Abs.Rows) (i3 i4 : Int) (k : Ex → List V → Option R) : codeK Tryz.prog H (T16 m) 8 (L3 m) 6 (loopBody Tryz.prog 8 5) (mkEnv [0, 2, 8, 9, 10, 43] (W19 r0 i1 r2 i3 i4) 0 (H.len 8)) (fun e env' => match e with | .normal => ELp8_5 m R n (vals [0, 2, 8, 9, 10, 43] env') k | e => k e (vals [0, 2, 8, 9, 10, 43] env')) = Lp8_5_step m (fun i10 i11 => k Ex.ret (W19 r0 i10 r2 i3 i11)) (fun i12 => k (Ex.exit (0 : Nat)) (W19 r0 i1 r2 i3 i12)) r0 i1 r2 i3 (fun i4 => ELp8_5 m R n (W19 r0 i1 r2 i3 i4) k) i4 := by kernel_rfl
theorem eqLp8_5 (m : Nat) (R : Type) (r0 : Abs.Rows) (i1 : Int) (r2 : Abs.Rows) (i3 : Int) (k : Ex → List V → Option R) : ∀ (n : Nat) (i4 : Int), ELp8_5 m R n (W19 r0 i1 r2 i3 i4) k = Lp8_5 m (fun i10 i11 => k Ex.ret (W19 r0 i10 r2 i3 i11)) (fun i12 => k (Ex.exit (0 : Nat)) (W19 r0 i1 r2 i3 i12)) r0 i1 r2 i3 n i4
 | 0, _ => rfl
 | n + 1, i4 => by
  simp only [ELp8_5, Lp8_5, W19]
  congr 1
  funext i4
  exact eqLp8_5 m R r0 i1 r2 i3 k n i4
noncomputable def L4 (m : Nat) : LTbl := addB 8 5 (brLp8_5 m (L3 m)) (L3 m)
theorem okL4 (m : Nat) : LTOk Tryz.prog H (L4 m) := addB_ok (okT16 m) hM (okL3 m) (l := [0, 2, 8, 9, 10, 43]) (by kernel_rfl) (by kernel_rfl) m (fun R n vs k => ELp8_5 m R n vs k) (fun R vs k => rfl) (fun R n vs k x h => by
   simp only [ELp8_5] at h
   split at h
   ·exact (stLp8_5 m n R _ _ _ _ _ k).trans h
   ·cases h) fun R vs k x h => by
  unfold brLp8_5 at h
  split at h
  ·exact .inl ((eqLp8_5 m R _ _ _ _ k m _).trans h)
  ·exact .inr h

abbrev W20 (a0 : Abs.Rows) : List V := [.bor [.int .i64, .int .i64, .str] a0]
/-- - -/
noncomputable def Fn8 {R : Type} (m : Nat) : Abs.Rows → (Int → Option R) → Option R := match m with
 | 0 => fun _ _ => none
 | m + 1 => fun r0 k =>
 bif decide ((↑(List.length r0) : Int) > (20 : Int)) then (k ((2 : Int))) else
 (Lp8_5 m (fun i1 i2 => k i1) (fun i3 => k ((0 : Int))) r0 ((0 : Int)) r0 ((↑(List.length r0) : Int)) m ((0 : Int)))
noncomputable def brFn8 (m : Nat) (T : Tbl) (R : Type) (vs : List V) (k : V → List V → Option R) : Option R := match vs with
 | [.bor [.int .i64, .int .i64, .str] r0] => Fn8 m r0 (fun i4 => k (V.f (F.lit (Value.int IntKind.i64 i4))) W15)
 | _ => T R 8 vs k
set_option maxRecDepth 100000 in
theorem evFn8 (m : Nat) (R : Type) (r0 : Abs.Rows) (k : V → List V → Option R) : runK Tryz.prog H (T16 m) (L4 m) 8 (W20 r0) k = Fn8 (m + 1) r0 (fun i4 => k (V.f (F.lit (Value.int IntKind.i64 i4))) W15) := by kernel_rfl
noncomputable def T17 (m : Nat) : Tbl := addT 8 (brFn8 m (T16 m)) (T16 m)
theorem okT17 (m : Nat) : TblOk Tryz.prog (T17 m) := addT_ok (okT16 m) fun R vs k x h => by
 unfold brFn8 at h
 split at h
 ·cases m with
  | zero => cases h
  | succ m => exact runK_some (okT16 m) hM (okL4 m) ((evFn8 m R _ k).trans h)
 ·exact okT16 m R 8 _ k x h

abbrev W21 (a0 a1 : Abs.Rows) (a2 a3 : Int) (a4 : Abs.Rows) (a5 : Int) : List V := [.ref 45 0, .own [.int .i64, .int .i64, .str] a0, .own [.int .i64] a1, .f (.lit (.int .i64 a2)), .f (.lit (.int .i64 a3)), .obj [.f (.lst [.int .i64] a4), .f (.lit (.int .i64 a5))]]
abbrev K1Lp18_3 {R : Type} (k : Ex → List V → Option R) (r0 : Abs.Rows) (i1 : Int) (r2 : Abs.Rows) : Abs.Rows → Int → Int → Option R := fun r3 i4 i5 => k (Ex.exit (0 : Nat)) (W21 r3 r0 i1 i4 r2 i5)
/-- - -/
noncomputable def Lp18_3_step {R : Type} (m : Nat) (kx0 : Abs.Rows → Int → Int → Option R) (r0 : Abs.Rows) (i1 : Int) (r2 : Abs.Rows) (REC : Abs.Rows → Int → Int → Option R) (r6 : Abs.Rows) (i7 i8 : Int) : Option R :=
 bif decide (i7 < i1) then (bif decide ((0 : Int) ≤ i7 ∧ i7 < (↑(List.length r0) : Int)) then (Fn22 m r2 i8 ([[F.lit (Value.int IntKind.i64 (fI r0 (Int.toNat i7) (0 : Nat)))], [F.lit (Value.int IntKind.i64 (fI r0 (Int.toNat i7) (0 : Nat)))], [F.lit (Value.int IntKind.i64 (IntKind.wrap IntKind.i64 (fI r0 (Int.toNat i7) (0 : Nat) + (1 : Int))))]]) (fun i9 i10 => Fn21 m r2 i10 ([[F.lit (Value.string { data := #[(109 : UInt8), (117 : UInt8)] })], [F.lit (Value.string { data := #[(97 : UInt8)] })], [F.lit (Value.string { data := #[(119 : UInt8), (105 : UInt8), (100 : UInt8), (101 : UInt8)] })]]) (fun s11 i12 => Fn22 m r2 i12 ([[F.lit (Value.int IntKind.i64 (8000 : Int))], [F.lit (Value.int IntKind.i64 (8000 : Int))], [F.lit (Value.int IntKind.i64 (16000 : Int))]]) (fun i13 i14 => Fn19 m r2 i14 ((3 : Int)) (fun b15 i16 => bif !b15 then (bif lenOk r6 then (bif decide (List.length r6 + List.length [[F.lit (Value.int IntKind.i64 i9), F.lit (Value.int IntKind.i64 i13), F.lit (Value.string s11)]] ≤ rowMax) then (letV (r6 ++ [[F.lit (Value.int IntKind.i64 i9), F.lit (Value.int IntKind.i64 i13), F.lit (Value.string s11)]]) (fun r17 => Fn8 m r17 (fun i18 => bif i18 == (0 : Int) then (bif decide (List.length r6 + List.length [[F.lit (Value.int IntKind.i64 i9), F.lit (Value.int IntKind.i64 i13), F.lit (Value.string s11)]] ≤ rowMax) then (letV (r6 ++ [[F.lit (Value.int IntKind.i64 i9), F.lit (Value.int IntKind.i64 i13), F.lit (Value.string s11)]]) (fun r19 => REC r19 (IntKind.wrap IntKind.i64 (i7 + (1 : Int))) i16)) else
 (none)) else
 (REC r6 (IntKind.wrap IntKind.i64 (i7 + (1 : Int))) i16)))) else
 (none)) else
 (none)) else
 (REC r6 (IntKind.wrap IntKind.i64 (i7 + (1 : Int))) i16)))))) else
 (none)) else
 (kx0 r6 i7 i8)
noncomputable def Lp18_3 {R : Type} (m : Nat) (kx0 : Abs.Rows → Int → Int → Option R) (r0 : Abs.Rows) (i1 : Int) (r2 : Abs.Rows) : Nat → Abs.Rows → Int → Int → Option R
 | 0, _, _, _ => none
 | n + 1, r6, i7, i8 => Lp18_3_step m kx0 r0 i1 r2 (Lp18_3 m kx0 r0 i1 r2 n) r6 i7 i8
noncomputable def ELp18_3 (m : Nat) (R : Type) : Nat → List V → (Ex → List V → Option R) → Option R
 | 0, _, _ => none
 | n + 1, vs, k => match vs with
  | [.ref 45 0, .own [.int .i64, .int .i64, .str] r6, .own [.int .i64] r0, .f (.lit (.int .i64 i1)), .f (.lit (.int .i64 i7)), .obj [.f (.lst [.int .i64] r2), .f (.lit (.int .i64 i8))]] => Lp18_3_step m (K1Lp18_3 k r0 i1 r2) r0 i1 r2 (fun r6 i7 i8 => ELp18_3 m R n (W21 r6 r0 i1 i7 r2 i8) k) r6 i7 i8
  | _ => none
noncomputable def brLp18_3 (m : Nat) (L : LTbl) (R : Type) (vs : List V) (k : Ex → List V → Option R) : Option R := match vs with
 | [.ref 45 0, .own [.int .i64, .int .i64, .str] r6, .own [.int .i64] r0, .f (.lit (.int .i64 i1)), .f (.lit (.int .i64 i7)), .obj [.f (.lst [.int .i64] r2), .f (.lit (.int .i64 i8))]] => Lp18_3 m (K1Lp18_3 k r0 i1 r2) r0 i1 r2 m r6 i7 i8
 | _ => L R 18 3 vs k
set_option maxRecDepth 100000 in
theorem stLp18_3 (m n : Nat) (R : Type) (r6 r0 : Abs.Rows) (i1 i7 : Int) (r2 : Abs.Rows) (i8 : Int) (k : Ex → List V → Option R) : codeK Tryz.prog H (T17 m) 18 (L4 m) 4 (loopBody Tryz.prog 18 3) (mkEnv [0, 3, 7, 8, 9, 45] (W21 r6 r0 i1 i7 r2 i8) 0 (H.len 18)) (fun e env' => match e with | .normal => ELp18_3 m R n (vals [0, 3, 7, 8, 9, 45] env') k | e => k e (vals [0, 3, 7, 8, 9, 45] env')) = Lp18_3_step m (K1Lp18_3 k r0 i1 r2) r0 i1 r2 (fun r6 i7 i8 => ELp18_3 m R n (W21 r6 r0 i1 i7 r2 i8) k) r6 i7 i8 := by kernel_rfl
theorem eqLp18_3 (m : Nat) (R : Type) (r0 : Abs.Rows) (i1 : Int) (r2 : Abs.Rows) (k : Ex → List V → Option R) : ∀ (n : Nat) (r6 : Abs.Rows) (i7 i8 : Int), ELp18_3 m R n (W21 r6 r0 i1 i7 r2 i8) k = Lp18_3 m (K1Lp18_3 k r0 i1 r2) r0 i1 r2 n r6 i7 i8
 | 0, _, _, _ => rfl
 | n + 1, r6, i7, i8 => by
  simp only [ELp18_3, Lp18_3, W21]
  congr 1
  funext r6 i7 i8
  exact eqLp18_3 m R r0 i1 r2 k n r6 i7 i8
noncomputable def L5 (m : Nat) : LTbl := addB 18 3 (brLp18_3 m (L4 m)) (L4 m)
theorem okL5 (m : Nat) : LTOk Tryz.prog H (L5 m) := addB_ok (okT17 m) hM (okL4 m) (l := [0, 3, 7, 8, 9, 45]) (by kernel_rfl) (by kernel_rfl) m (fun R n vs k => ELp18_3 m R n vs k) (fun R vs k => rfl) (fun R n vs k x h => by
   simp only [ELp18_3] at h
   split at h
   ·exact (stLp18_3 m n R _ _ _ _ _ _ k).trans h
   ·cases h) fun R vs k x h => by
  unfold brLp18_3 at h
  split at h
  ·exact .inl ((eqLp18_3 m R _ _ _ k m _ _ _).trans h)
  ·exact .inr h

abbrev W22 (a0 : Abs.Rows) (a1 : Int) : List V := [.obj [.f (.lst [.int .i64] a0), .f (.lit (.int .i64 a1))]]
/-- - -/
noncomputable def Fn18 {R : Type} (m : Nat) : Abs.Rows → Int → (Abs.Rows → Int → Option R) → Option R := match m with
 | 0 => fun _ _ _ => none
 | m + 1 => fun r0 i1 k =>
 Lp18_3 m (fun r2 i3 i4 => k r2 i4) ([[F.lit (Value.int IntKind.i64 (0 : Int))], [F.lit (Value.int IntKind.i64 (8 : Int))], [F.lit (Value.int IntKind.i64 (9 : Int))], [F.lit (Value.int IntKind.i64 (96 : Int))]]) ((↑(List.length [[F.lit (Value.int IntKind.i64 (0 : Int))], [F.lit (Value.int IntKind.i64 (8 : Int))], [F.lit (Value.int IntKind.i64 (9 : Int))], [F.lit (Value.int IntKind.i64 (96 : Int))]]) : Int)) r0 m rows0 ((0 : Int)) i1
noncomputable def brFn18 (m : Nat) (T : Tbl) (R : Type) (vs : List V) (k : V → List V → Option R) : Option R := match vs with
 | [.obj [.f (.lst [.int .i64] r0), .f (.lit (.int .i64 i1))]] => Fn18 m r0 i1 (fun r5 i6 => k (V.own [LT.int IntKind.i64, LT.int IntKind.i64, LT.str] r5) (W22 r0 i6))
 | _ => T R 18 vs k
set_option maxRecDepth 100000 in
theorem evFn18 (m : Nat) (R : Type) (r0 : Abs.Rows) (i1 : Int) (k : V → List V → Option R) : runK Tryz.prog H (T17 m) (L5 m) 18 (W22 r0 i1) k = Fn18 (m + 1) r0 i1 (fun r5 i6 => k (V.own [LT.int IntKind.i64, LT.int IntKind.i64, LT.str] r5) (W22 r0 i6)) := by kernel_rfl
noncomputable def T18 (m : Nat) : Tbl := addT 18 (brFn18 m (T17 m)) (T17 m)
theorem okT18 (m : Nat) : TblOk Tryz.prog (T18 m) := addT_ok (okT17 m) fun R vs k x h => by
 unfold brFn18 at h
 split at h
 ·cases m with
  | zero => cases h
  | succ m => exact runK_some (okT17 m) hM (okL5 m) ((evFn18 m R _ _ k).trans h)
 ·exact okT17 m R 18 _ k x h

abbrev W23 (a0 : Abs.Rows) (a1 : Int) : List V := [.obj [.f (.lst [.int .i64] a0), .f (.lit (.int .i64 a1))], .undef, .undef]
abbrev W24 (a0 : Abs.Rows) (a1 a2 a3 : Int) : List V := [.obj [.f (.lst [.int .i64] a0), .f (.lit (.int .i64 a1))], .f (.lit (.int .i64 a2)), .f (.lit (.int .i64 a3))]
/-- - -/
noncomputable def Fn50 {R : Type} (m : Nat) : Abs.Rows → Int → Int → Int → (Int → Int → Option R) → Option R := match m with
 | 0 => fun _ _ _ _ _ => none
 | m + 1 => fun r0 i1 i2 i3 k =>
 bif decide (i3 < i2) then (k i2 i1) else
 (Fn49 m r0 i1 (IntKind.wrap IntKind.i64 (IntKind.wrap IntKind.i64 (i3 - i2) + (1 : Int))) (fun i4 i5 => k (IntKind.wrap IntKind.i64 (i2 + i4)) i5))
noncomputable def brFn50 (m : Nat) (T : Tbl) (R : Type) (vs : List V) (k : V → List V → Option R) : Option R := match vs with
 | [.obj [.f (.lst [.int .i64] r0), .f (.lit (.int .i64 i1))], .f (.lit (.int .i64 i2)), .f (.lit (.int .i64 i3))] => Fn50 m r0 i1 i2 i3 (fun i6 i7 => k (V.f (F.lit (Value.int IntKind.i64 i6))) (W23 r0 i7))
 | _ => T R 50 vs k
set_option maxRecDepth 100000 in
theorem evFn50 (m : Nat) (R : Type) (r0 : Abs.Rows) (i1 i2 i3 : Int) (k : V → List V → Option R) : runK Tryz.prog H (T18 m) (L5 m) 50 (W24 r0 i1 i2 i3) k = Fn50 (m + 1) r0 i1 i2 i3 (fun i6 i7 => k (V.f (F.lit (Value.int IntKind.i64 i6))) (W23 r0 i7)) := by kernel_rfl
noncomputable def T19 (m : Nat) : Tbl := addT 50 (brFn50 m (T18 m)) (T18 m)
theorem okT19 (m : Nat) : TblOk Tryz.prog (T19 m) := addT_ok (okT18 m) fun R vs k x h => by
 unfold brFn50 at h
 split at h
 ·cases m with
  | zero => cases h
  | succ m => exact runK_some (okT18 m) hM (okL5 m) ((evFn50 m R _ _ _ _ k).trans h)
 ·exact okT18 m R 50 _ k x h

/-- - -/
noncomputable def Fn20 {R : Type} (m : Nat) : Abs.Rows → Int → Int → Int → (Int → Int → Option R) → Option R := match m with
 | 0 => fun _ _ _ _ _ => none
 | m + 1 => fun r0 i1 i2 i3 k =>
 Fn19 m r0 i1 ((12 : Int)) (fun b4 i5 => bif b4 then (Fn22 m r0 i5 ([[F.lit (Value.int IntKind.i64 (IntKind.wrap IntKind.i64 (i2 - (1 : Int))))], [F.lit (Value.int IntKind.i64 (IntKind.wrap IntKind.i64 (i3 + (1 : Int))))], [F.lit (Value.int IntKind.i64 i2)], [F.lit (Value.int IntKind.i64 i3)], [F.lit (Value.int IntKind.i64 (-1099511627776 : Int))], [F.lit (Value.int IntKind.i64 (1099511627776 : Int))]]) (fun i6 i7 => k i6 i7)) else
 (Fn50 m r0 i5 i2 i3 (fun i8 i9 => k i8 i9)))
noncomputable def brFn20 (m : Nat) (T : Tbl) (R : Type) (vs : List V) (k : V → List V → Option R) : Option R := match vs with
 | [.obj [.f (.lst [.int .i64] r0), .f (.lit (.int .i64 i1))], .f (.lit (.int .i64 i2)), .f (.lit (.int .i64 i3))] => Fn20 m r0 i1 i2 i3 (fun i10 i11 => k (V.f (F.lit (Value.int IntKind.i64 i10))) (W23 r0 i11))
 | _ => T R 20 vs k
set_option maxRecDepth 100000 in
theorem evFn20 (m : Nat) (R : Type) (r0 : Abs.Rows) (i1 i2 i3 : Int) (k : V → List V → Option R) : runK Tryz.prog H (T19 m) (L5 m) 20 (W24 r0 i1 i2 i3) k = Fn20 (m + 1) r0 i1 i2 i3 (fun i10 i11 => k (V.f (F.lit (Value.int IntKind.i64 i10))) (W23 r0 i11)) := by kernel_rfl
noncomputable def T20 (m : Nat) : Tbl := addT 20 (brFn20 m (T19 m)) (T19 m)
theorem okT20 (m : Nat) : TblOk Tryz.prog (T20 m) := addT_ok (okT19 m) fun R vs k x h => by
 unfold brFn20 at h
 split at h
 ·cases m with
  | zero => cases h
  | succ m => exact runK_some (okT19 m) hM (okL5 m) ((evFn20 m R _ _ _ _ k).trans h)
 ·exact okT19 m R 20 _ k x h

/-- - -/
noncomputable def Fn4 {R : Type} (m : Nat) : Abs.Rows → Int → (Abs.Rows → Int → Option R) → Option R := match m with
 | 0 => fun _ _ _ => none
 | m + 1 => fun r0 i1 k =>
 Fn18 m r0 i1 (fun r2 i3 => Fn19 m r0 i3 ((10 : Int)) (fun b4 i5 => bif b4 then (Fn20 m r0 i5 ((0 : Int)) ((127 : Int)) (fun i6 i7 => Fn21 m r0 i7 ([[F.lit (Value.string { data := #[(109 : UInt8), (117 : UInt8)] })], [F.lit (Value.string { data := #[] })], [F.lit (Value.string { data := #[(65 : UInt8)] })]]) (fun s8 i9 => Fn20 m r0 i9 ((1000 : Int)) ((96000 : Int)) (fun i10 i11 => bif decide (List.length r2 + List.length [[F.lit (Value.int IntKind.i64 i6), F.lit (Value.int IntKind.i64 i10), F.lit (Value.string s8)]] ≤ rowMax) then (letV (r2 ++ [[F.lit (Value.int IntKind.i64 i6), F.lit (Value.int IntKind.i64 i10), F.lit (Value.string s8)]]) (fun r12 => k r12 i11)) else
 (none))))) else
 (k r2 i5)))
noncomputable def brFn4 (m : Nat) (T : Tbl) (R : Type) (vs : List V) (k : V → List V → Option R) : Option R := match vs with
 | [.obj [.f (.lst [.int .i64] r0), .f (.lit (.int .i64 i1))]] => Fn4 m r0 i1 (fun r13 i14 => k (V.own [LT.int IntKind.i64, LT.int IntKind.i64, LT.str] r13) (W22 r0 i14))
 | _ => T R 4 vs k
set_option maxRecDepth 100000 in
theorem evFn4 (m : Nat) (R : Type) (r0 : Abs.Rows) (i1 : Int) (k : V → List V → Option R) : runK Tryz.prog H (T20 m) (L5 m) 4 (W22 r0 i1) k = Fn4 (m + 1) r0 i1 (fun r13 i14 => k (V.own [LT.int IntKind.i64, LT.int IntKind.i64, LT.str] r13) (W22 r0 i14)) := by kernel_rfl
noncomputable def T21 (m : Nat) : Tbl := addT 4 (brFn4 m (T20 m)) (T20 m)
theorem okT21 (m : Nat) : TblOk Tryz.prog (T21 m) := addT_ok (okT20 m) fun R vs k x h => by
 unfold brFn4 at h
 split at h
 ·cases m with
  | zero => cases h
  | succ m => exact runK_some (okT20 m) hM (okL5 m) ((evFn4 m R _ _ k).trans h)
 ·exact okT20 m R 4 _ k x h

abbrev W25 (a0 : Abs.Rows) (a1 : ByteArray) (a2 : Abs.Rows) (a3 a4 : Int) : List V := [.bor [.int .i64, .int .i64, .str] a0, .f (.lit (.string a1)), .bor [.int .i64, .int .i64, .str] a2, .f (.lit (.int .i64 a3)), .f (.lit (.int .i64 a4)), .undef]
/-- - -/
noncomputable def Lp13_3_step {R : Type} (m : Nat) (kx0 : ByteArray → Int → Option R) (r0 r1 : Abs.Rows) (i2 : Int) (REC : ByteArray → Int → Option R) (s3 : ByteArray) (i4 : Int) : Option R :=
 bif decide (i4 < i2) then (bif decide ((0 : Int) ≤ i4 ∧ i4 < (↑(List.length r1) : Int)) then (bif itoaOk (fI r1 (Int.toNat i4) (0 : Nat)) then (bif decide (ByteArray.size (itoaB (fI r1 (Int.toNat i4) (0 : Nat))) + ByteArray.size { data := #[(32 : UInt8)] } ≤ strMax) then (bif decide (ByteArray.size (itoaB (fI r1 (Int.toNat i4) (0 : Nat)) ++ { data := #[(32 : UInt8)] }) + ByteArray.size (fS r1 (Int.toNat i4) (2 : Nat)) ≤ strMax) then (letV (itoaB (fI r1 (Int.toNat i4) (0 : Nat)) ++ { data := #[(32 : UInt8)] } ++ fS r1 (Int.toNat i4) (2 : Nat)) (fun s5 => bif decide (ByteArray.size s5 + ByteArray.size { data := #[(32 : UInt8)] } ≤ strMax) then (bif itoaOk (fI r1 (Int.toNat i4) (1 : Nat)) then (bif decide (ByteArray.size (s5 ++ { data := #[(32 : UInt8)] }) + ByteArray.size (itoaB (fI r1 (Int.toNat i4) (1 : Nat))) ≤ strMax) then (bif decide (ByteArray.size (s5 ++ { data := #[(32 : UInt8)] } ++ itoaB (fI r1 (Int.toNat i4) (1 : Nat))) + ByteArray.size { data := #[(10 : UInt8)] } ≤ strMax) then (letV (s5 ++ { data := #[(32 : UInt8)] } ++ itoaB (fI r1 (Int.toNat i4) (1 : Nat)) ++ { data := #[(10 : UInt8)] }) (fun s6 => bif decide (ByteArray.size s3 + ByteArray.size s6 ≤ strMax) then (REC (s3 ++ s6) (IntKind.wrap IntKind.i64 (i4 + (1 : Int)))) else
 (none))) else
 (none)) else
 (none)) else
 (none)) else
 (none))) else
 (none)) else
 (none)) else
 (none)) else
 (none)) else
 (kx0 s3 i4)
noncomputable def Lp13_3 {R : Type} (m : Nat) (kx0 : ByteArray → Int → Option R) (r0 r1 : Abs.Rows) (i2 : Int) : Nat → ByteArray → Int → Option R
 | 0, _, _ => none
 | n + 1, s3, i4 => Lp13_3_step m kx0 r0 r1 i2 (Lp13_3 m kx0 r0 r1 i2 n) s3 i4
noncomputable def ELp13_3 (m : Nat) (R : Type) : Nat → List V → (Ex → List V → Option R) → Option R
 | 0, _, _ => none
 | n + 1, vs, k => match vs with
  | [.bor [.int .i64, .int .i64, .str] r0, .f (.lit (.string s3)), .bor [.int .i64, .int .i64, .str] r1, .f (.lit (.int .i64 i2)), .f (.lit (.int .i64 i4)), .undef] => Lp13_3_step m (fun s7 i8 => k (Ex.exit (0 : Nat)) (W25 r0 s7 r1 i2 i8)) r0 r1 i2 (fun s3 i4 => ELp13_3 m R n (W25 r0 s3 r1 i2 i4) k) s3 i4
  | _ => none
noncomputable def brLp13_3 (m : Nat) (L : LTbl) (R : Type) (vs : List V) (k : Ex → List V → Option R) : Option R := match vs with
 | [.bor [.int .i64, .int .i64, .str] r0, .f (.lit (.string s3)), .bor [.int .i64, .int .i64, .str] r1, .f (.lit (.int .i64 i2)), .f (.lit (.int .i64 i4)), .undef] => Lp13_3 m (fun s7 i8 => k (Ex.exit (0 : Nat)) (W25 r0 s7 r1 i2 i8)) r0 r1 i2 m s3 i4
 | _ => L R 13 3 vs k
set_option maxRecDepth 100000 in
theorem stLp13_3 (m n : Nat) (R : Type) (r0 : Abs.Rows) (s3 : ByteArray) (r1 : Abs.Rows) (i2 i4 : Int) (k : Ex → List V → Option R) : codeK Tryz.prog H (T21 m) 13 (L5 m) 4 (loopBody Tryz.prog 13 3) (mkEnv [0, 3, 6, 7, 8, 29] (W25 r0 s3 r1 i2 i4) 0 (H.len 13)) (fun e env' => match e with | .normal => ELp13_3 m R n (vals [0, 3, 6, 7, 8, 29] env') k | e => k e (vals [0, 3, 6, 7, 8, 29] env')) = Lp13_3_step m (fun s7 i8 => k (Ex.exit (0 : Nat)) (W25 r0 s7 r1 i2 i8)) r0 r1 i2 (fun s3 i4 => ELp13_3 m R n (W25 r0 s3 r1 i2 i4) k) s3 i4 := by kernel_rfl
theorem eqLp13_3 (m : Nat) (R : Type) (r0 r1 : Abs.Rows) (i2 : Int) (k : Ex → List V → Option R) : ∀ (n : Nat) (s3 : ByteArray) (i4 : Int), ELp13_3 m R n (W25 r0 s3 r1 i2 i4) k = Lp13_3 m (fun s7 i8 => k (Ex.exit (0 : Nat)) (W25 r0 s7 r1 i2 i8)) r0 r1 i2 n s3 i4
 | 0, _, _ => rfl
 | n + 1, s3, i4 => by
  simp only [ELp13_3, Lp13_3, W25]
  congr 1
  funext s3 i4
  exact eqLp13_3 m R r0 r1 i2 k n s3 i4
noncomputable def L6 (m : Nat) : LTbl := addB 13 3 (brLp13_3 m (L5 m)) (L5 m)
theorem okL6 (m : Nat) : LTOk Tryz.prog H (L6 m) := addB_ok (okT21 m) hM (okL5 m) (l := [0, 3, 6, 7, 8, 29]) (by kernel_rfl) (by kernel_rfl) m (fun R n vs k => ELp13_3 m R n vs k) (fun R vs k => rfl) (fun R n vs k x h => by
   simp only [ELp13_3] at h
   split at h
   ·exact (stLp13_3 m n R _ _ _ _ _ k).trans h
   ·cases h) fun R vs k x h => by
  unfold brLp13_3 at h
  split at h
  ·exact .inl ((eqLp13_3 m R _ _ _ k m _ _).trans h)
  ·exact .inr h

/-- - -/
noncomputable def Fn13 {R : Type} (m : Nat) : Abs.Rows → (ByteArray → Option R) → Option R := match m with
 | 0 => fun _ _ => none
 | m + 1 => fun r0 k =>
 Lp13_3 m (fun s1 i2 => k s1) r0 r0 ((↑(List.length r0) : Int)) m ({ data := #[] }) ((0 : Int))
noncomputable def brFn13 (m : Nat) (T : Tbl) (R : Type) (vs : List V) (k : V → List V → Option R) : Option R := match vs with
 | [.bor [.int .i64, .int .i64, .str] r0] => Fn13 m r0 (fun s3 => k (V.f (F.lit (Value.string s3))) W15)
 | _ => T R 13 vs k
set_option maxRecDepth 100000 in
theorem evFn13 (m : Nat) (R : Type) (r0 : Abs.Rows) (k : V → List V → Option R) : runK Tryz.prog H (T21 m) (L6 m) 13 (W20 r0) k = Fn13 (m + 1) r0 (fun s3 => k (V.f (F.lit (Value.string s3))) W15) := by kernel_rfl
noncomputable def T22 (m : Nat) : Tbl := addT 13 (brFn13 m (T21 m)) (T21 m)
theorem okT22 (m : Nat) : TblOk Tryz.prog (T22 m) := addT_ok (okT21 m) fun R vs k x h => by
 unfold brFn13 at h
 split at h
 ·cases m with
  | zero => cases h
  | succ m => exact runK_some (okT21 m) hM (okL6 m) ((evFn13 m R _ k).trans h)
 ·exact okT21 m R 13 _ k x h

abbrev W26 (a0 a1 a2 : ByteArray) (a3 : Abs.Rows) (a4 : Int) : List V := [.ref 63 0, .f (.lit (.string a0)), .f (.lit (.string a1)), .f (.lit (.string a2)), .obj [.f (.lst [.int .i64] a3), .f (.lit (.int .i64 a4))], .undef, .undef]
/-- - -/
noncomputable def Jn23_3 {R : Type} (m : Nat) (kx0 : ByteArray → Int → Option R) (s0 s1 s2 : ByteArray) (r3 : Abs.Rows) (i4 : Int) : Option R :=
 Fn49 m r3 i4 ((↑(ByteArray.size s0) : Int)) (fun i5 i6 => Fn49 m r3 i6 ((↑(ByteArray.size s1) : Int)) (fun i7 i8 => bif decide ((0 : Int) ≤ i7 ∧ i7 < (↑(ByteArray.size s1) : Int)) then (Fn49 m r3 i8 ((3 : Int)) (fun i9 i10 => bif i9 == (0 : Int) then (bif decide ((0 : Int) ≤ i5 ∧ i5 ≤ (↑(ByteArray.size s0) : Int)) then (bif decide (ByteArray.size (ByteArray.extract s0 (0 : Nat) (Int.toNat i5)) + ByteArray.size (Utf8.encode (IntKind.wrap IntKind.i32 (↑(UInt8.toNat (Array.getD (ByteArray.data s1) (Int.toNat i7) (0 : UInt8))) : Int))) ≤ strMax) then (bif decide ((0 : Int) ≤ IntKind.wrap IntKind.i64 (i5 + (1 : Int)) ∧ IntKind.wrap IntKind.i64 (i5 + (1 : Int)) ≤ (↑(ByteArray.size s0) : Int)) then (bif decide (ByteArray.size (ByteArray.extract s0 (0 : Nat) (Int.toNat i5) ++ Utf8.encode (IntKind.wrap IntKind.i32 (↑(UInt8.toNat (Array.getD (ByteArray.data s1) (Int.toNat i7) (0 : UInt8))) : Int))) + ByteArray.size (ByteArray.extract s0 (Int.toNat (IntKind.wrap IntKind.i64 (i5 + (1 : Int)))) (ByteArray.size s0)) ≤ strMax) then (letV (ByteArray.extract s0 (0 : Nat) (Int.toNat i5) ++ Utf8.encode (IntKind.wrap IntKind.i32 (↑(UInt8.toNat (Array.getD (ByteArray.data s1) (Int.toNat i7) (0 : UInt8))) : Int)) ++ ByteArray.extract s0 (Int.toNat (IntKind.wrap IntKind.i64 (i5 + (1 : Int)))) (ByteArray.size s0)) (fun s11 => kx0 s11 i10)) else
 (none)) else
 (none)) else
 (none)) else
 (none)) else
 (bif i9 == (1 : Int) then (bif decide ((0 : Int) ≤ i5 ∧ i5 ≤ (↑(ByteArray.size s0) : Int)) then (bif decide (ByteArray.size (ByteArray.extract s0 (0 : Nat) (Int.toNat i5)) + ByteArray.size (Utf8.encode (IntKind.wrap IntKind.i32 (↑(UInt8.toNat (Array.getD (ByteArray.data s1) (Int.toNat i7) (0 : UInt8))) : Int))) ≤ strMax) then (bif decide ((0 : Int) ≤ i5 ∧ i5 ≤ (↑(ByteArray.size s0) : Int)) then (bif decide (ByteArray.size (ByteArray.extract s0 (0 : Nat) (Int.toNat i5) ++ Utf8.encode (IntKind.wrap IntKind.i32 (↑(UInt8.toNat (Array.getD (ByteArray.data s1) (Int.toNat i7) (0 : UInt8))) : Int))) + ByteArray.size (ByteArray.extract s0 (Int.toNat i5) (ByteArray.size s0)) ≤ strMax) then (letV (ByteArray.extract s0 (0 : Nat) (Int.toNat i5) ++ Utf8.encode (IntKind.wrap IntKind.i32 (↑(UInt8.toNat (Array.getD (ByteArray.data s1) (Int.toNat i7) (0 : UInt8))) : Int)) ++ ByteArray.extract s0 (Int.toNat i5) (ByteArray.size s0)) (fun s12 => kx0 s12 i10)) else
 (none)) else
 (none)) else
 (none)) else
 (none)) else
 (bif decide ((0 : Int) ≤ i5 ∧ i5 ≤ (↑(ByteArray.size s0) : Int)) then (bif decide ((0 : Int) ≤ IntKind.wrap IntKind.i64 (i5 + (1 : Int)) ∧ IntKind.wrap IntKind.i64 (i5 + (1 : Int)) ≤ (↑(ByteArray.size s0) : Int)) then (bif decide (ByteArray.size (ByteArray.extract s0 (0 : Nat) (Int.toNat i5)) + ByteArray.size (ByteArray.extract s0 (Int.toNat (IntKind.wrap IntKind.i64 (i5 + (1 : Int)))) (ByteArray.size s0)) ≤ strMax) then (kx0 (ByteArray.extract s0 (0 : Nat) (Int.toNat i5) ++ ByteArray.extract s0 (Int.toNat (IntKind.wrap IntKind.i64 (i5 + (1 : Int)))) (ByteArray.size s0)) i10) else
 (none)) else
 (none)) else
 (none))))) else
 (none)))
noncomputable def brJn23_3 (m : Nat) (L : LTbl) (R : Type) (vs : List V) (k : Ex → List V → Option R) : Option R := match vs with
 | [.ref 63 0, .f (.lit (.string s0)), .f (.lit (.string s1)), .f (.lit (.string s2)), .obj [.f (.lst [.int .i64] r3), .f (.lit (.int .i64 i4))], .undef, .undef] => Jn23_3 m (fun s13 i14 => k Ex.ret (W26 s0 s1 s13 r3 i14)) s0 s1 s2 r3 i4
 | _ => L R 23 3 vs k
set_option maxRecDepth 100000 in
theorem evJn23_3 (m : Nat) (R : Type) (s0 s1 s2 : ByteArray) (r3 : Abs.Rows) (i4 : Int) (k : Ex → List V → Option R) : codeK Tryz.prog H (T22 m) 23 (L6 m) 4 (loopBody Tryz.prog 23 3) (mkEnv [0, 1, 2, 6, 63, 64, 65] (W26 s0 s1 s2 r3 i4) 0 (H.len 23)) (fun e env' => k e (vals [0, 1, 2, 6, 63, 64, 65] env')) = Jn23_3 m (fun s13 i14 => k Ex.ret (W26 s0 s1 s13 r3 i14)) s0 s1 s2 r3 i4 := by kernel_rfl
noncomputable def L7 (m : Nat) : LTbl := addJ 23 3 (brJn23_3 m (L6 m)) (L6 m)
theorem okL7 (m : Nat) : LTOk Tryz.prog H (L7 m) := addJ_ok (okT22 m) hM (okL6 m) (l := [0, 1, 2, 6, 63, 64, 65]) (by kernel_rfl) (by kernel_rfl) fun R vs k x h => by
  unfold brJn23_3 at h
  split at h
  ·exact .inl ((evJn23_3 m R _ _ _ _ _ k).trans h)
  ·exact .inr h

abbrev W27 (a0 : Abs.Rows) (a1 : Int) (a2 a3 : ByteArray) : List V := [.obj [.f (.lst [.int .i64] a0), .f (.lit (.int .i64 a1))], .f (.lit (.string a2)), .f (.lit (.string a3))]
/-- - -/
noncomputable def Fn23 {R : Type} (m : Nat) : Abs.Rows → Int → ByteArray → ByteArray → (ByteArray → Int → Option R) → Option R := match m with
 | 0 => fun _ _ _ _ _ => none
 | m + 1 => fun r0 i1 s2 s3 k =>
 bif ByteArray.toList s2 == ByteArray.toList { data := #[] } then (k s3 i1) else
 (bif ByteArray.toList s3 == ByteArray.toList { data := #[] } then (k s3 i1) else
 (Jn23_3 m (fun s4 i5 => k s4 i5) s2 s3 ({ data := #[] }) r0 i1))
noncomputable def brFn23 (m : Nat) (T : Tbl) (R : Type) (vs : List V) (k : V → List V → Option R) : Option R := match vs with
 | [.obj [.f (.lst [.int .i64] r0), .f (.lit (.int .i64 i1))], .f (.lit (.string s2)), .f (.lit (.string s3))] => Fn23 m r0 i1 s2 s3 (fun s6 i7 => k (V.f (F.lit (Value.string s6))) (W23 r0 i7))
 | _ => T R 23 vs k
set_option maxRecDepth 100000 in
theorem evFn23 (m : Nat) (R : Type) (r0 : Abs.Rows) (i1 : Int) (s2 s3 : ByteArray) (k : V → List V → Option R) : runK Tryz.prog H (T22 m) (L7 m) 23 (W27 r0 i1 s2 s3) k = Fn23 (m + 1) r0 i1 s2 s3 (fun s6 i7 => k (V.f (F.lit (Value.string s6))) (W23 r0 i7)) := by kernel_rfl
noncomputable def T23 (m : Nat) : Tbl := addT 23 (brFn23 m (T22 m)) (T22 m)
theorem okT23 (m : Nat) : TblOk Tryz.prog (T23 m) := addT_ok (okT22 m) fun R vs k x h => by
 unfold brFn23 at h
 split at h
 ·cases m with
  | zero => cases h
  | succ m => exact runK_some (okT22 m) hM (okL7 m) ((evFn23 m R _ _ _ _ k).trans h)
 ·exact okT22 m R 23 _ k x h

abbrev W28 (a0 : ByteArray) (a1 a2 : Int) (a3 : Abs.Rows) (a4 : Int) : List V := [.ref 17 0, .f (.lit (.string a0)), .f (.lit (.int .i64 a1)), .f (.lit (.int .i64 a2)), .obj [.f (.lst [.int .i64] a3), .f (.lit (.int .i64 a4))]]
abbrev K1Lp5_3 {R : Type} (k : Ex → List V → Option R) (i0 : Int) (r1 : Abs.Rows) : ByteArray → Int → Int → Option R := fun s2 i3 i4 => k (Ex.exit (0 : Nat)) (W28 s2 i0 i3 r1 i4)
/-- - -/
noncomputable def Lp5_3_step {R : Type} (m : Nat) (kx0 : ByteArray → Int → Int → Option R) (i0 : Int) (r1 : Abs.Rows) (REC : ByteArray → Int → Int → Option R) (s5 : ByteArray) (i6 i7 : Int) : Option R :=
 bif decide (i6 < i0) then (Fn23 m r1 i7 s5 ({ data := #[(32 : UInt8), (10 : UInt8), (48 : UInt8), (45 : UInt8), (57 : UInt8), (109 : UInt8), (117 : UInt8)] }) (fun s8 i9 => REC s8 (IntKind.wrap IntKind.i64 (i6 + (1 : Int))) i9)) else
 (kx0 s5 i6 i7)
noncomputable def Lp5_3 {R : Type} (m : Nat) (kx0 : ByteArray → Int → Int → Option R) (i0 : Int) (r1 : Abs.Rows) : Nat → ByteArray → Int → Int → Option R
 | 0, _, _, _ => none
 | n + 1, s5, i6, i7 => Lp5_3_step m kx0 i0 r1 (Lp5_3 m kx0 i0 r1 n) s5 i6 i7
noncomputable def ELp5_3 (m : Nat) (R : Type) : Nat → List V → (Ex → List V → Option R) → Option R
 | 0, _, _ => none
 | n + 1, vs, k => match vs with
  | [.ref 17 0, .f (.lit (.string s5)), .f (.lit (.int .i64 i0)), .f (.lit (.int .i64 i6)), .obj [.f (.lst [.int .i64] r1), .f (.lit (.int .i64 i7))]] => Lp5_3_step m (K1Lp5_3 k i0 r1) i0 r1 (fun s5 i6 i7 => ELp5_3 m R n (W28 s5 i0 i6 r1 i7) k) s5 i6 i7
  | _ => none
noncomputable def brLp5_3 (m : Nat) (L : LTbl) (R : Type) (vs : List V) (k : Ex → List V → Option R) : Option R := match vs with
 | [.ref 17 0, .f (.lit (.string s5)), .f (.lit (.int .i64 i0)), .f (.lit (.int .i64 i6)), .obj [.f (.lst [.int .i64] r1), .f (.lit (.int .i64 i7))]] => Lp5_3 m (K1Lp5_3 k i0 r1) i0 r1 m s5 i6 i7
 | _ => L R 5 3 vs k
set_option maxRecDepth 100000 in
theorem stLp5_3 (m n : Nat) (R : Type) (s5 : ByteArray) (i0 i6 : Int) (r1 : Abs.Rows) (i7 : Int) (k : Ex → List V → Option R) : codeK Tryz.prog H (T23 m) 5 (L7 m) 4 (loopBody Tryz.prog 5 3) (mkEnv [0, 3, 9, 10, 17] (W28 s5 i0 i6 r1 i7) 0 (H.len 5)) (fun e env' => match e with | .normal => ELp5_3 m R n (vals [0, 3, 9, 10, 17] env') k | e => k e (vals [0, 3, 9, 10, 17] env')) = Lp5_3_step m (K1Lp5_3 k i0 r1) i0 r1 (fun s5 i6 i7 => ELp5_3 m R n (W28 s5 i0 i6 r1 i7) k) s5 i6 i7 := by kernel_rfl
theorem eqLp5_3 (m : Nat) (R : Type) (i0 : Int) (r1 : Abs.Rows) (k : Ex → List V → Option R) : ∀ (n : Nat) (s5 : ByteArray) (i6 i7 : Int), ELp5_3 m R n (W28 s5 i0 i6 r1 i7) k = Lp5_3 m (K1Lp5_3 k i0 r1) i0 r1 n s5 i6 i7
 | 0, _, _, _ => rfl
 | n + 1, s5, i6, i7 => by
  simp only [ELp5_3, Lp5_3, W28]
  congr 1
  funext s5 i6 i7
  exact eqLp5_3 m R i0 r1 k n s5 i6 i7
noncomputable def L8 (m : Nat) : LTbl := addB 5 3 (brLp5_3 m (L7 m)) (L7 m)
theorem okL8 (m : Nat) : LTOk Tryz.prog H (L8 m) := addB_ok (okT23 m) hM (okL7 m) (l := [0, 3, 9, 10, 17]) (by kernel_rfl) (by kernel_rfl) m (fun R n vs k => ELp5_3 m R n vs k) (fun R vs k => rfl) (fun R n vs k x h => by
   simp only [ELp5_3] at h
   split at h
   ·exact (stLp5_3 m n R _ _ _ _ _ k).trans h
   ·cases h) fun R vs k x h => by
  unfold brLp5_3 at h
  split at h
  ·exact .inl ((eqLp5_3 m R _ _ k m _ _ _).trans h)
  ·exact .inr h

/-- - -/
noncomputable def Fn5 {R : Type} (m : Nat) : Abs.Rows → Int → (ByteArray → Int → Option R) → Option R := match m with
 | 0 => fun _ _ _ => none
 | m + 1 => fun r0 i1 k =>
 Fn18 m r0 i1 (fun r2 i3 => Fn13 m r2 (fun s4 => Fn22 m r0 i3 ([[F.lit (Value.int IntKind.i64 (0 : Int))], [F.lit (Value.int IntKind.i64 (0 : Int))], [F.lit (Value.int IntKind.i64 (1 : Int))], [F.lit (Value.int IntKind.i64 (2 : Int))]]) (fun i5 i6 => Lp5_3 m (fun s7 i8 i9 => k s7 i9) i5 r0 m s4 ((0 : Int)) i6)))
noncomputable def brFn5 (m : Nat) (T : Tbl) (R : Type) (vs : List V) (k : V → List V → Option R) : Option R := match vs with
 | [.obj [.f (.lst [.int .i64] r0), .f (.lit (.int .i64 i1))]] => Fn5 m r0 i1 (fun s10 i11 => k (V.f (F.lit (Value.string s10))) (W22 r0 i11))
 | _ => T R 5 vs k
set_option maxRecDepth 100000 in
theorem evFn5 (m : Nat) (R : Type) (r0 : Abs.Rows) (i1 : Int) (k : V → List V → Option R) : runK Tryz.prog H (T23 m) (L8 m) 5 (W22 r0 i1) k = Fn5 (m + 1) r0 i1 (fun s10 i11 => k (V.f (F.lit (Value.string s10))) (W22 r0 i11)) := by kernel_rfl
noncomputable def T24 (m : Nat) : Tbl := addT 5 (brFn5 m (T23 m)) (T23 m)
theorem okT24 (m : Nat) : TblOk Tryz.prog (T24 m) := addT_ok (okT23 m) fun R vs k x h => by
 unfold brFn5 at h
 split at h
 ·cases m with
  | zero => cases h
  | succ m => exact runK_some (okT23 m) hM (okL8 m) ((evFn5 m R _ _ k).trans h)
 ·exact okT23 m R 5 _ k x h

/-- - -/
noncomputable def Fn32 {R : Type} (m : Nat) : Int → Int → Int → (Bool → Option R) → Option R := match m with
 | 0 => fun _ _ _ _ => none
 | m + 1 => fun i0 i1 i2 k =>
 bif decide (i0 ≥ i1) then (k (decide (i0 ≤ i2))) else
 (k false)
noncomputable def brFn32 (m : Nat) (T : Tbl) (R : Type) (vs : List V) (k : V → List V → Option R) : Option R := match vs with
 | [.f (.lit (.int .i64 i0)), .f (.lit (.int .i64 i1)), .f (.lit (.int .i64 i2))] => Fn32 m i0 i1 i2 (fun b3 => k (V.f (F.lit (Value.bool b3))) W7)
 | _ => T R 32 vs k
set_option maxRecDepth 100000 in
theorem evFn32 (m : Nat) (R : Type) (i0 i1 i2 : Int) (k : V → List V → Option R) : runK Tryz.prog H (T24 m) (L8 m) 32 (W8 i0 i1 i2) k = Fn32 (m + 1) i0 i1 i2 (fun b3 => k (V.f (F.lit (Value.bool b3))) W7) := by kernel_rfl
noncomputable def T25 (m : Nat) : Tbl := addT 32 (brFn32 m (T24 m)) (T24 m)
theorem okT25 (m : Nat) : TblOk Tryz.prog (T25 m) := addT_ok (okT24 m) fun R vs k x h => by
 unfold brFn32 at h
 split at h
 ·cases m with
  | zero => cases h
  | succ m => exact runK_some (okT24 m) hM (okL8 m) ((evFn32 m R _ _ _ k).trans h)
 ·exact okT24 m R 32 _ k x h

/-- - -/
noncomputable def Fn33 {R : Type} (m : Nat) : Int → Int → ByteArray → Int → Int → ByteArray → (Bool → Option R) → Option R := match m with
 | 0 => fun _ _ _ _ _ _ _ => none
 | m + 1 => fun i0 i1 s2 i3 i4 s5 k =>
 k (i0 == i3)
noncomputable def brFn33 (m : Nat) (T : Tbl) (R : Type) (vs : List V) (k : V → List V → Option R) : Option R := match vs with
 | [.agg [.f (.lit (.int .i64 i0)), .f (.lit (.int .i64 i1)), .f (.lit (.string s2))], .iref [.int .i64, .int .i64, .str] [[F.lit (Value.int IntKind.i64 i3), F.lit (Value.int IntKind.i64 i4), F.lit (Value.string s5)]] 0 0] => Fn33 m i0 i1 s2 i3 i4 s5 (fun b6 => k (V.f (F.lit (Value.bool b6))) W1)
 | _ => T R 33 vs k
set_option maxRecDepth 100000 in
theorem evFn33 (m : Nat) (R : Type) (i0 i1 : Int) (s2 : ByteArray) (i3 i4 : Int) (s5 : ByteArray) (k : V → List V → Option R) : runK Tryz.prog H (T25 m) (L8 m) 33 (W9 i0 i1 s2 [[F.lit (Value.int IntKind.i64 i3), F.lit (Value.int IntKind.i64 i4), F.lit (Value.string s5)]]) k = Fn33 (m + 1) i0 i1 s2 i3 i4 s5 (fun b6 => k (V.f (F.lit (Value.bool b6))) W1) := by kernel_rfl
noncomputable def T26 (m : Nat) : Tbl := addT 33 (brFn33 m (T25 m)) (T25 m)
theorem okT26 (m : Nat) : TblOk Tryz.prog (T26 m) := addT_ok (okT25 m) fun R vs k x h => by
 unfold brFn33 at h
 split at h
 ·cases m with
  | zero => cases h
  | succ m => exact runK_some (okT25 m) hM (okL8 m) ((evFn33 m R _ _ _ _ _ _ k).trans h)
 ·exact okT25 m R 33 _ k x h

abbrev W29 (a0 a1 : Abs.Rows) (a2 a3 a4 : Int) : List V := [.bor [.int .i64, .int .i64, .str] a0, .clos 33 [.iref [.int .i64, .int .i64, .str] a1 0 0], .f (.lit (.int .i64 a2)), .f (.lit (.int .i64 a3)), .f (.lit (.int .i64 a4)), .undef, .undef]
/-- - -/
noncomputable def Lp51_2v2_step {R : Type} (m : Nat) (kx0 : Int → Int → Option R) (kx1 : Int → Option R) (r0 : Abs.Rows) (i1 i2 : Int) (s3 : ByteArray) (i4 i5 : Int) (REC : Int → Option R) (i6 : Int) : Option R :=
 bif decide (i6 < i5) then (bif decide ((0 : Int) ≤ i6 ∧ i6 < (↑(List.length r0) : Int)) then (Fn33 m (fI r0 (Int.toNat i6) (0 : Nat)) (fI r0 (Int.toNat i6) (1 : Nat)) (fS r0 (Int.toNat i6) (2 : Nat)) i1 i2 s3 (fun b7 => bif b7 then (kx0 i6 i6) else
 (REC (IntKind.wrap IntKind.i64 (i6 + (1 : Int)))))) else
 (none)) else
 (kx1 i6)
noncomputable def Lp51_2v2 {R : Type} (m : Nat) (kx0 : Int → Int → Option R) (kx1 : Int → Option R) (r0 : Abs.Rows) (i1 i2 : Int) (s3 : ByteArray) (i4 i5 : Int) : Nat → Int → Option R
 | 0, _ => none
 | n + 1, i6 => Lp51_2v2_step m kx0 kx1 r0 i1 i2 s3 i4 i5 (Lp51_2v2 m kx0 kx1 r0 i1 i2 s3 i4 i5 n) i6
noncomputable def ELp51_2v2 (m : Nat) (R : Type) : Nat → List V → (Ex → List V → Option R) → Option R
 | 0, _, _ => none
 | n + 1, vs, k => match vs with
  | [.bor [.int .i64, .int .i64, .str] r0, .clos 33 [.iref [.int .i64, .int .i64, .str] [[F.lit (Value.int IntKind.i64 i1), F.lit (Value.int IntKind.i64 i2), F.lit (Value.string s3)]] 0 0], .f (.lit (.int .i64 i4)), .f (.lit (.int .i64 i5)), .f (.lit (.int .i64 i6)), .undef, .undef] => Lp51_2v2_step m (fun i8 i9 => k Ex.ret (W29 r0 [[F.lit (Value.int IntKind.i64 i1), F.lit (Value.int IntKind.i64 i2), F.lit (Value.string s3)]] i8 i5 i9)) (fun i10 => k (Ex.exit (0 : Nat)) (W29 r0 [[F.lit (Value.int IntKind.i64 i1), F.lit (Value.int IntKind.i64 i2), F.lit (Value.string s3)]] i4 i5 i10)) r0 i1 i2 s3 i4 i5 (fun i6 => ELp51_2v2 m R n (W29 r0 [[F.lit (Value.int IntKind.i64 i1), F.lit (Value.int IntKind.i64 i2), F.lit (Value.string s3)]] i4 i5 i6) k) i6
  | _ => none
noncomputable def brLp51_2v2 (m : Nat) (L : LTbl) (R : Type) (vs : List V) (k : Ex → List V → Option R) : Option R := match vs with
 | [.bor [.int .i64, .int .i64, .str] r0, .clos 33 [.iref [.int .i64, .int .i64, .str] [[F.lit (Value.int IntKind.i64 i1), F.lit (Value.int IntKind.i64 i2), F.lit (Value.string s3)]] 0 0], .f (.lit (.int .i64 i4)), .f (.lit (.int .i64 i5)), .f (.lit (.int .i64 i6)), .undef, .undef] => Lp51_2v2 m (fun i8 i9 => k Ex.ret (W29 r0 [[F.lit (Value.int IntKind.i64 i1), F.lit (Value.int IntKind.i64 i2), F.lit (Value.string s3)]] i8 i5 i9)) (fun i10 => k (Ex.exit (0 : Nat)) (W29 r0 [[F.lit (Value.int IntKind.i64 i1), F.lit (Value.int IntKind.i64 i2), F.lit (Value.string s3)]] i4 i5 i10)) r0 i1 i2 s3 i4 i5 m i6
 | _ => L R 51 2 vs k
set_option maxRecDepth 100000 in
theorem stLp51_2v2 (m n : Nat) (R : Type) (r0 : Abs.Rows) (i1 i2 : Int) (s3 : ByteArray) (i4 i5 i6 : Int) (k : Ex → List V → Option R) : codeK Tryz.prog H (T26 m) 51 (L8 m) 3 (loopBody Tryz.prog 51 2) (mkEnv [0, 1, 4, 7, 8, 19, 20] (W29 r0 [[F.lit (Value.int IntKind.i64 i1), F.lit (Value.int IntKind.i64 i2), F.lit (Value.string s3)]] i4 i5 i6) 0 (H.len 51)) (fun e env' => match e with | .normal => ELp51_2v2 m R n (vals [0, 1, 4, 7, 8, 19, 20] env') k | e => k e (vals [0, 1, 4, 7, 8, 19, 20] env')) = Lp51_2v2_step m (fun i8 i9 => k Ex.ret (W29 r0 [[F.lit (Value.int IntKind.i64 i1), F.lit (Value.int IntKind.i64 i2), F.lit (Value.string s3)]] i8 i5 i9)) (fun i10 => k (Ex.exit (0 : Nat)) (W29 r0 [[F.lit (Value.int IntKind.i64 i1), F.lit (Value.int IntKind.i64 i2), F.lit (Value.string s3)]] i4 i5 i10)) r0 i1 i2 s3 i4 i5 (fun i6 => ELp51_2v2 m R n (W29 r0 [[F.lit (Value.int IntKind.i64 i1), F.lit (Value.int IntKind.i64 i2), F.lit (Value.string s3)]] i4 i5 i6) k) i6 := by kernel_rfl
theorem eqLp51_2v2 (m : Nat) (R : Type) (r0 : Abs.Rows) (i1 i2 : Int) (s3 : ByteArray) (i4 i5 : Int) (k : Ex → List V → Option R) : ∀ (n : Nat) (i6 : Int), ELp51_2v2 m R n (W29 r0 [[F.lit (Value.int IntKind.i64 i1), F.lit (Value.int IntKind.i64 i2), F.lit (Value.string s3)]] i4 i5 i6) k = Lp51_2v2 m (fun i8 i9 => k Ex.ret (W29 r0 [[F.lit (Value.int IntKind.i64 i1), F.lit (Value.int IntKind.i64 i2), F.lit (Value.string s3)]] i8 i5 i9)) (fun i10 => k (Ex.exit (0 : Nat)) (W29 r0 [[F.lit (Value.int IntKind.i64 i1), F.lit (Value.int IntKind.i64 i2), F.lit (Value.string s3)]] i4 i5 i10)) r0 i1 i2 s3 i4 i5 n i6
 | 0, _ => rfl
 | n + 1, i6 => by
  simp only [ELp51_2v2, Lp51_2v2, W29]
  congr 1
  funext i6
  exact eqLp51_2v2 m R r0 i1 i2 s3 i4 i5 k n i6
noncomputable def L9 (m : Nat) : LTbl := addB 51 2 (brLp51_2v2 m (L8 m)) (L8 m)
theorem okL9 (m : Nat) : LTOk Tryz.prog H (L9 m) := addB_ok (okT26 m) hM (okL8 m) (l := [0, 1, 4, 7, 8, 19, 20]) (by kernel_rfl) (by kernel_rfl) m (fun R n vs k => ELp51_2v2 m R n vs k) (fun R vs k => rfl) (fun R n vs k x h => by
   simp only [ELp51_2v2] at h
   split at h
   ·exact (stLp51_2v2 m n R _ _ _ _ _ _ _ k).trans h
   ·cases h) fun R vs k x h => by
  unfold brLp51_2v2 at h
  split at h
  ·exact .inl ((eqLp51_2v2 m R _ _ _ _ _ _ k m _).trans h)
  ·exact .inr h

abbrev W30 (a0 a1 : Abs.Rows) : List V := [.bor [.int .i64, .int .i64, .str] a0, .clos 33 [.iref [.int .i64, .int .i64, .str] a1 0 0]]
/-- - -/
noncomputable def Fn51v2 {R : Type} (m : Nat) : Abs.Rows → Int → Int → ByteArray → (Int → Option R) → Option R := match m with
 | 0 => fun _ _ _ _ _ => none
 | m + 1 => fun r0 i1 i2 s3 k =>
 Lp51_2v2 m (fun i4 i5 => k i4) (fun i6 => k ((-1 : Int))) r0 i1 i2 s3 ((0 : Int)) ((↑(List.length r0) : Int)) m ((0 : Int))
noncomputable def brFn51v2 (m : Nat) (T : Tbl) (R : Type) (vs : List V) (k : V → List V → Option R) : Option R := match vs with
 | [.bor [.int .i64, .int .i64, .str] r0, .clos 33 [.iref [.int .i64, .int .i64, .str] [[F.lit (Value.int IntKind.i64 i1), F.lit (Value.int IntKind.i64 i2), F.lit (Value.string s3)]] 0 0]] => Fn51v2 m r0 i1 i2 s3 (fun i7 => k (V.f (F.lit (Value.int IntKind.i64 i7))) W1)
 | _ => T R 51 vs k
set_option maxRecDepth 100000 in
theorem evFn51v2 (m : Nat) (R : Type) (r0 : Abs.Rows) (i1 i2 : Int) (s3 : ByteArray) (k : V → List V → Option R) : runK Tryz.prog H (T26 m) (L9 m) 51 (W30 r0 [[F.lit (Value.int IntKind.i64 i1), F.lit (Value.int IntKind.i64 i2), F.lit (Value.string s3)]]) k = Fn51v2 (m + 1) r0 i1 i2 s3 (fun i7 => k (V.f (F.lit (Value.int IntKind.i64 i7))) W1) := by kernel_rfl
noncomputable def T27 (m : Nat) : Tbl := addT 51 (brFn51v2 m (T26 m)) (T26 m)
theorem okT27 (m : Nat) : TblOk Tryz.prog (T27 m) := addT_ok (okT26 m) fun R vs k x h => by
 unfold brFn51v2 at h
 split at h
 ·cases m with
  | zero => cases h
  | succ m => exact runK_some (okT26 m) hM (okL9 m) ((evFn51v2 m R _ _ _ _ k).trans h)
 ·exact okT26 m R 51 _ k x h

/-- - -/
noncomputable def Fn24v2 {R : Type} (m : Nat) : Abs.Rows → Int → Int → ByteArray → (Bool → Option R) → Option R := match m with
 | 0 => fun _ _ _ _ _ => none
 | m + 1 => fun r0 i1 i2 s3 k =>
 Fn51v2 m r0 i1 i2 s3 (fun i4 => k (decide (i4 ≥ (0 : Int))))
noncomputable def brFn24v2 (m : Nat) (T : Tbl) (R : Type) (vs : List V) (k : V → List V → Option R) : Option R := match vs with
 | [.bor [.int .i64, .int .i64, .str] r0, .clos 33 [.iref [.int .i64, .int .i64, .str] [[F.lit (Value.int IntKind.i64 i1), F.lit (Value.int IntKind.i64 i2), F.lit (Value.string s3)]] 0 0]] => Fn24v2 m r0 i1 i2 s3 (fun b5 => k (V.f (F.lit (Value.bool b5))) W1)
 | _ => T R 24 vs k
set_option maxRecDepth 100000 in
theorem evFn24v2 (m : Nat) (R : Type) (r0 : Abs.Rows) (i1 i2 : Int) (s3 : ByteArray) (k : V → List V → Option R) : runK Tryz.prog H (T27 m) (L9 m) 24 (W30 r0 [[F.lit (Value.int IntKind.i64 i1), F.lit (Value.int IntKind.i64 i2), F.lit (Value.string s3)]]) k = Fn24v2 (m + 1) r0 i1 i2 s3 (fun b5 => k (V.f (F.lit (Value.bool b5))) W1) := by kernel_rfl
noncomputable def T28 (m : Nat) : Tbl := addT 24 (brFn24v2 m (T27 m)) (T27 m)
theorem okT28 (m : Nat) : TblOk Tryz.prog (T28 m) := addT_ok (okT27 m) fun R vs k x h => by
 unfold brFn24v2 at h
 split at h
 ·cases m with
  | zero => cases h
  | succ m => exact runK_some (okT27 m) hM (okL9 m) ((evFn24v2 m R _ _ _ _ k).trans h)
 ·exact okT27 m R 24 _ k x h

/-- - -/
noncomputable def Fn34 {R : Type} (m : Nat) : ByteArray → (Bool → Option R) → Option R := match m with
 | 0 => fun _ _ => none
 | m + 1 => fun s0 k =>
 bif decide ((↑(ByteArray.size s0) : Int) ≥ (1 : Int)) then (bif decide ((↑(ByteArray.size s0) : Int) ≤ (40 : Int)) then (bif decide ((0 : Int) ≤ (0 : Int) ∧ (0 : Int) < (↑(ByteArray.size s0) : Int)) then (bif decide ((↑(UInt8.toNat (Array.getD (ByteArray.data s0) (Int.toNat (0 : Int)) (0 : UInt8))) : Int) ≥ (97 : Int)) then (bif decide ((0 : Int) ≤ (0 : Int) ∧ (0 : Int) < (↑(ByteArray.size s0) : Int)) then (bif decide ((↑(UInt8.toNat (Array.getD (ByteArray.data s0) (Int.toNat (0 : Int)) (0 : UInt8))) : Int) ≤ (122 : Int)) then (bif trimOk s0 { data := #[(97 : UInt8), (98 : UInt8), (99 : UInt8), (100 : UInt8), (101 : UInt8), (102 : UInt8), (103 : UInt8), (104 : UInt8), (105 : UInt8), (106 : UInt8), (107 : UInt8), (108 : UInt8), (109 : UInt8), (110 : UInt8), (111 : UInt8), (112 : UInt8), (113 : UInt8), (114 : UInt8), (115 : UInt8), (116 : UInt8), (117 : UInt8), (118 : UInt8), (119 : UInt8), (120 : UInt8), (121 : UInt8), (122 : UInt8), (48 : UInt8), (49 : UInt8), (50 : UInt8), (51 : UInt8), (52 : UInt8), (53 : UInt8), (54 : UInt8), (55 : UInt8), (56 : UInt8), (57 : UInt8), (45 : UInt8), (95 : UInt8)] } then (k (ByteArray.toList (trimB s0 { data := #[(97 : UInt8), (98 : UInt8), (99 : UInt8), (100 : UInt8), (101 : UInt8), (102 : UInt8), (103 : UInt8), (104 : UInt8), (105 : UInt8), (106 : UInt8), (107 : UInt8), (108 : UInt8), (109 : UInt8), (110 : UInt8), (111 : UInt8), (112 : UInt8), (113 : UInt8), (114 : UInt8), (115 : UInt8), (116 : UInt8), (117 : UInt8), (118 : UInt8), (119 : UInt8), (120 : UInt8), (121 : UInt8), (122 : UInt8), (48 : UInt8), (49 : UInt8), (50 : UInt8), (51 : UInt8), (52 : UInt8), (53 : UInt8), (54 : UInt8), (55 : UInt8), (56 : UInt8), (57 : UInt8), (45 : UInt8), (95 : UInt8)] }) == ByteArray.toList { data := #[] })) else
 (none)) else
 (k false)) else
 (none)) else
 (k false)) else
 (none)) else
 (k false)) else
 (k false)
noncomputable def brFn34 (m : Nat) (T : Tbl) (R : Type) (vs : List V) (k : V → List V → Option R) : Option R := match vs with
 | [.f (.lit (.string s0))] => Fn34 m s0 (fun b1 => k (V.f (F.lit (Value.bool b1))) W15)
 | _ => T R 34 vs k
set_option maxRecDepth 100000 in
theorem evFn34 (m : Nat) (R : Type) (s0 : ByteArray) (k : V → List V → Option R) : runK Tryz.prog H (T28 m) (L9 m) 34 (W16 s0) k = Fn34 (m + 1) s0 (fun b1 => k (V.f (F.lit (Value.bool b1))) W15) := by kernel_rfl
noncomputable def T29 (m : Nat) : Tbl := addT 34 (brFn34 m (T28 m)) (T28 m)
theorem okT29 (m : Nat) : TblOk Tryz.prog (T29 m) := addT_ok (okT28 m) fun R vs k x h => by
 unfold brFn34 at h
 split at h
 ·cases m with
  | zero => cases h
  | succ m => exact runK_some (okT28 m) hM (okL9 m) ((evFn34 m R _ k).trans h)
 ·exact okT28 m R 34 _ k x h

abbrev W31 (a0 a1 : Int) (a2 : ByteArray) (a3 a4 : Int) (a5 : ByteArray) : List V := [.agg [.f (.lit (.int .i64 a0)), .f (.lit (.int .i64 a1)), .f (.lit (.string a2))], .agg [.f (.lit (.int .i64 a3)), .f (.lit (.int .i64 a4)), .f (.lit (.string a5))]]
/-- - -/
noncomputable def Fn26 {R : Type} (m : Nat) : Int → Int → ByteArray → Int → Int → ByteArray → (Bool → Option R) → Option R := match m with
 | 0 => fun _ _ _ _ _ _ _ => none
 | m + 1 => fun i0 i1 s2 i3 i4 s5 k =>
 bif ByteArray.toList s2 == ByteArray.toList s5 then (k (i1 == i4)) else
 (k false)
noncomputable def brFn26 (m : Nat) (T : Tbl) (R : Type) (vs : List V) (k : V → List V → Option R) : Option R := match vs with
 | [.agg [.f (.lit (.int .i64 i0)), .f (.lit (.int .i64 i1)), .f (.lit (.string s2))], .agg [.f (.lit (.int .i64 i3)), .f (.lit (.int .i64 i4)), .f (.lit (.string s5))]] => Fn26 m i0 i1 s2 i3 i4 s5 (fun b6 => k (V.f (F.lit (Value.bool b6))) W1)
 | _ => T R 26 vs k
set_option maxRecDepth 100000 in
theorem evFn26 (m : Nat) (R : Type) (i0 i1 : Int) (s2 : ByteArray) (i3 i4 : Int) (s5 : ByteArray) (k : V → List V → Option R) : runK Tryz.prog H (T29 m) (L9 m) 26 (W31 i0 i1 s2 i3 i4 s5) k = Fn26 (m + 1) i0 i1 s2 i3 i4 s5 (fun b6 => k (V.f (F.lit (Value.bool b6))) W1) := by kernel_rfl
noncomputable def T30 (m : Nat) : Tbl := addT 26 (brFn26 m (T29 m)) (T29 m)
theorem okT30 (m : Nat) : TblOk Tryz.prog (T30 m) := addT_ok (okT29 m) fun R vs k x h => by
 unfold brFn26 at h
 split at h
 ·cases m with
  | zero => cases h
  | succ m => exact runK_some (okT29 m) hM (okL9 m) ((evFn26 m R _ _ _ _ _ _ k).trans h)
 ·exact okT29 m R 26 _ k x h

/-- - -/
noncomputable def Fn35 {R : Type} (m : Nat) : Int → Int → ByteArray → Int → Int → ByteArray → (Bool → Option R) → Option R := match m with
 | 0 => fun _ _ _ _ _ _ _ => none
 | m + 1 => fun i0 i1 s2 i3 i4 s5 k =>
 Fn26 m i3 i4 s5 i0 i1 s2 (fun b6 => k b6)
noncomputable def brFn35 (m : Nat) (T : Tbl) (R : Type) (vs : List V) (k : V → List V → Option R) : Option R := match vs with
 | [.agg [.f (.lit (.int .i64 i0)), .f (.lit (.int .i64 i1)), .f (.lit (.string s2))], .iref [.int .i64, .int .i64, .str] [[F.lit (Value.int IntKind.i64 i3), F.lit (Value.int IntKind.i64 i4), F.lit (Value.string s5)]] 0 0] => Fn35 m i0 i1 s2 i3 i4 s5 (fun b7 => k (V.f (F.lit (Value.bool b7))) W1)
 | _ => T R 35 vs k
set_option maxRecDepth 100000 in
theorem evFn35 (m : Nat) (R : Type) (i0 i1 : Int) (s2 : ByteArray) (i3 i4 : Int) (s5 : ByteArray) (k : V → List V → Option R) : runK Tryz.prog H (T30 m) (L9 m) 35 (W9 i0 i1 s2 [[F.lit (Value.int IntKind.i64 i3), F.lit (Value.int IntKind.i64 i4), F.lit (Value.string s5)]]) k = Fn35 (m + 1) i0 i1 s2 i3 i4 s5 (fun b7 => k (V.f (F.lit (Value.bool b7))) W1) := by kernel_rfl
noncomputable def T31 (m : Nat) : Tbl := addT 35 (brFn35 m (T30 m)) (T30 m)
theorem okT31 (m : Nat) : TblOk Tryz.prog (T31 m) := addT_ok (okT30 m) fun R vs k x h => by
 unfold brFn35 at h
 split at h
 ·cases m with
  | zero => cases h
  | succ m => exact runK_some (okT30 m) hM (okL9 m) ((evFn35 m R _ _ _ _ _ _ k).trans h)
 ·exact okT30 m R 35 _ k x h

abbrev W32 (a0 a1 : Abs.Rows) (a2 a3 a4 : Int) : List V := [.bor [.int .i64, .int .i64, .str] a0, .clos 35 [.iref [.int .i64, .int .i64, .str] a1 0 0], .f (.lit (.int .i64 a2)), .f (.lit (.int .i64 a3)), .f (.lit (.int .i64 a4)), .undef, .undef]
/-- - -/
noncomputable def Lp51_2v3_step {R : Type} (m : Nat) (kx0 : Int → Int → Option R) (kx1 : Int → Option R) (r0 : Abs.Rows) (i1 i2 : Int) (s3 : ByteArray) (i4 i5 : Int) (REC : Int → Option R) (i6 : Int) : Option R :=
 bif decide (i6 < i5) then (bif decide ((0 : Int) ≤ i6 ∧ i6 < (↑(List.length r0) : Int)) then (Fn35 m (fI r0 (Int.toNat i6) (0 : Nat)) (fI r0 (Int.toNat i6) (1 : Nat)) (fS r0 (Int.toNat i6) (2 : Nat)) i1 i2 s3 (fun b7 => bif b7 then (kx0 i6 i6) else
 (REC (IntKind.wrap IntKind.i64 (i6 + (1 : Int)))))) else
 (none)) else
 (kx1 i6)
noncomputable def Lp51_2v3 {R : Type} (m : Nat) (kx0 : Int → Int → Option R) (kx1 : Int → Option R) (r0 : Abs.Rows) (i1 i2 : Int) (s3 : ByteArray) (i4 i5 : Int) : Nat → Int → Option R
 | 0, _ => none
 | n + 1, i6 => Lp51_2v3_step m kx0 kx1 r0 i1 i2 s3 i4 i5 (Lp51_2v3 m kx0 kx1 r0 i1 i2 s3 i4 i5 n) i6
noncomputable def ELp51_2v3 (m : Nat) (R : Type) : Nat → List V → (Ex → List V → Option R) → Option R
 | 0, _, _ => none
 | n + 1, vs, k => match vs with
  | [.bor [.int .i64, .int .i64, .str] r0, .clos 35 [.iref [.int .i64, .int .i64, .str] [[F.lit (Value.int IntKind.i64 i1), F.lit (Value.int IntKind.i64 i2), F.lit (Value.string s3)]] 0 0], .f (.lit (.int .i64 i4)), .f (.lit (.int .i64 i5)), .f (.lit (.int .i64 i6)), .undef, .undef] => Lp51_2v3_step m (fun i8 i9 => k Ex.ret (W32 r0 [[F.lit (Value.int IntKind.i64 i1), F.lit (Value.int IntKind.i64 i2), F.lit (Value.string s3)]] i8 i5 i9)) (fun i10 => k (Ex.exit (0 : Nat)) (W32 r0 [[F.lit (Value.int IntKind.i64 i1), F.lit (Value.int IntKind.i64 i2), F.lit (Value.string s3)]] i4 i5 i10)) r0 i1 i2 s3 i4 i5 (fun i6 => ELp51_2v3 m R n (W32 r0 [[F.lit (Value.int IntKind.i64 i1), F.lit (Value.int IntKind.i64 i2), F.lit (Value.string s3)]] i4 i5 i6) k) i6
  | _ => none
noncomputable def brLp51_2v3 (m : Nat) (L : LTbl) (R : Type) (vs : List V) (k : Ex → List V → Option R) : Option R := match vs with
 | [.bor [.int .i64, .int .i64, .str] r0, .clos 35 [.iref [.int .i64, .int .i64, .str] [[F.lit (Value.int IntKind.i64 i1), F.lit (Value.int IntKind.i64 i2), F.lit (Value.string s3)]] 0 0], .f (.lit (.int .i64 i4)), .f (.lit (.int .i64 i5)), .f (.lit (.int .i64 i6)), .undef, .undef] => Lp51_2v3 m (fun i8 i9 => k Ex.ret (W32 r0 [[F.lit (Value.int IntKind.i64 i1), F.lit (Value.int IntKind.i64 i2), F.lit (Value.string s3)]] i8 i5 i9)) (fun i10 => k (Ex.exit (0 : Nat)) (W32 r0 [[F.lit (Value.int IntKind.i64 i1), F.lit (Value.int IntKind.i64 i2), F.lit (Value.string s3)]] i4 i5 i10)) r0 i1 i2 s3 i4 i5 m i6
 | _ => L R 51 2 vs k
set_option maxRecDepth 100000 in
theorem stLp51_2v3 (m n : Nat) (R : Type) (r0 : Abs.Rows) (i1 i2 : Int) (s3 : ByteArray) (i4 i5 i6 : Int) (k : Ex → List V → Option R) : codeK Tryz.prog H (T31 m) 51 (L9 m) 3 (loopBody Tryz.prog 51 2) (mkEnv [0, 1, 4, 7, 8, 19, 20] (W32 r0 [[F.lit (Value.int IntKind.i64 i1), F.lit (Value.int IntKind.i64 i2), F.lit (Value.string s3)]] i4 i5 i6) 0 (H.len 51)) (fun e env' => match e with | .normal => ELp51_2v3 m R n (vals [0, 1, 4, 7, 8, 19, 20] env') k | e => k e (vals [0, 1, 4, 7, 8, 19, 20] env')) = Lp51_2v3_step m (fun i8 i9 => k Ex.ret (W32 r0 [[F.lit (Value.int IntKind.i64 i1), F.lit (Value.int IntKind.i64 i2), F.lit (Value.string s3)]] i8 i5 i9)) (fun i10 => k (Ex.exit (0 : Nat)) (W32 r0 [[F.lit (Value.int IntKind.i64 i1), F.lit (Value.int IntKind.i64 i2), F.lit (Value.string s3)]] i4 i5 i10)) r0 i1 i2 s3 i4 i5 (fun i6 => ELp51_2v3 m R n (W32 r0 [[F.lit (Value.int IntKind.i64 i1), F.lit (Value.int IntKind.i64 i2), F.lit (Value.string s3)]] i4 i5 i6) k) i6 := by kernel_rfl
theorem eqLp51_2v3 (m : Nat) (R : Type) (r0 : Abs.Rows) (i1 i2 : Int) (s3 : ByteArray) (i4 i5 : Int) (k : Ex → List V → Option R) : ∀ (n : Nat) (i6 : Int), ELp51_2v3 m R n (W32 r0 [[F.lit (Value.int IntKind.i64 i1), F.lit (Value.int IntKind.i64 i2), F.lit (Value.string s3)]] i4 i5 i6) k = Lp51_2v3 m (fun i8 i9 => k Ex.ret (W32 r0 [[F.lit (Value.int IntKind.i64 i1), F.lit (Value.int IntKind.i64 i2), F.lit (Value.string s3)]] i8 i5 i9)) (fun i10 => k (Ex.exit (0 : Nat)) (W32 r0 [[F.lit (Value.int IntKind.i64 i1), F.lit (Value.int IntKind.i64 i2), F.lit (Value.string s3)]] i4 i5 i10)) r0 i1 i2 s3 i4 i5 n i6
 | 0, _ => rfl
 | n + 1, i6 => by
  simp only [ELp51_2v3, Lp51_2v3, W32]
  congr 1
  funext i6
  exact eqLp51_2v3 m R r0 i1 i2 s3 i4 i5 k n i6
noncomputable def L10 (m : Nat) : LTbl := addB 51 2 (brLp51_2v3 m (L9 m)) (L9 m)
theorem okL10 (m : Nat) : LTOk Tryz.prog H (L10 m) := addB_ok (okT31 m) hM (okL9 m) (l := [0, 1, 4, 7, 8, 19, 20]) (by kernel_rfl) (by kernel_rfl) m (fun R n vs k => ELp51_2v3 m R n vs k) (fun R vs k => rfl) (fun R n vs k x h => by
   simp only [ELp51_2v3] at h
   split at h
   ·exact (stLp51_2v3 m n R _ _ _ _ _ _ _ k).trans h
   ·cases h) fun R vs k x h => by
  unfold brLp51_2v3 at h
  split at h
  ·exact .inl ((eqLp51_2v3 m R _ _ _ _ _ _ k m _).trans h)
  ·exact .inr h

abbrev W33 (a0 a1 : Abs.Rows) : List V := [.bor [.int .i64, .int .i64, .str] a0, .clos 35 [.iref [.int .i64, .int .i64, .str] a1 0 0]]
/-- - -/
noncomputable def Fn51v3 {R : Type} (m : Nat) : Abs.Rows → Int → Int → ByteArray → (Int → Option R) → Option R := match m with
 | 0 => fun _ _ _ _ _ => none
 | m + 1 => fun r0 i1 i2 s3 k =>
 Lp51_2v3 m (fun i4 i5 => k i4) (fun i6 => k ((-1 : Int))) r0 i1 i2 s3 ((0 : Int)) ((↑(List.length r0) : Int)) m ((0 : Int))
noncomputable def brFn51v3 (m : Nat) (T : Tbl) (R : Type) (vs : List V) (k : V → List V → Option R) : Option R := match vs with
 | [.bor [.int .i64, .int .i64, .str] r0, .clos 35 [.iref [.int .i64, .int .i64, .str] [[F.lit (Value.int IntKind.i64 i1), F.lit (Value.int IntKind.i64 i2), F.lit (Value.string s3)]] 0 0]] => Fn51v3 m r0 i1 i2 s3 (fun i7 => k (V.f (F.lit (Value.int IntKind.i64 i7))) W1)
 | _ => T R 51 vs k
set_option maxRecDepth 100000 in
theorem evFn51v3 (m : Nat) (R : Type) (r0 : Abs.Rows) (i1 i2 : Int) (s3 : ByteArray) (k : V → List V → Option R) : runK Tryz.prog H (T31 m) (L10 m) 51 (W33 r0 [[F.lit (Value.int IntKind.i64 i1), F.lit (Value.int IntKind.i64 i2), F.lit (Value.string s3)]]) k = Fn51v3 (m + 1) r0 i1 i2 s3 (fun i7 => k (V.f (F.lit (Value.int IntKind.i64 i7))) W1) := by kernel_rfl
noncomputable def T32 (m : Nat) : Tbl := addT 51 (brFn51v3 m (T31 m)) (T31 m)
theorem okT32 (m : Nat) : TblOk Tryz.prog (T32 m) := addT_ok (okT31 m) fun R vs k x h => by
 unfold brFn51v3 at h
 split at h
 ·cases m with
  | zero => cases h
  | succ m => exact runK_some (okT31 m) hM (okL10 m) ((evFn51v3 m R _ _ _ _ k).trans h)
 ·exact okT31 m R 51 _ k x h

/-- - -/
noncomputable def Fn24v3 {R : Type} (m : Nat) : Abs.Rows → Int → Int → ByteArray → (Bool → Option R) → Option R := match m with
 | 0 => fun _ _ _ _ _ => none
 | m + 1 => fun r0 i1 i2 s3 k =>
 Fn51v3 m r0 i1 i2 s3 (fun i4 => k (decide (i4 ≥ (0 : Int))))
noncomputable def brFn24v3 (m : Nat) (T : Tbl) (R : Type) (vs : List V) (k : V → List V → Option R) : Option R := match vs with
 | [.bor [.int .i64, .int .i64, .str] r0, .clos 35 [.iref [.int .i64, .int .i64, .str] [[F.lit (Value.int IntKind.i64 i1), F.lit (Value.int IntKind.i64 i2), F.lit (Value.string s3)]] 0 0]] => Fn24v3 m r0 i1 i2 s3 (fun b5 => k (V.f (F.lit (Value.bool b5))) W1)
 | _ => T R 24 vs k
set_option maxRecDepth 100000 in
theorem evFn24v3 (m : Nat) (R : Type) (r0 : Abs.Rows) (i1 i2 : Int) (s3 : ByteArray) (k : V → List V → Option R) : runK Tryz.prog H (T32 m) (L10 m) 24 (W33 r0 [[F.lit (Value.int IntKind.i64 i1), F.lit (Value.int IntKind.i64 i2), F.lit (Value.string s3)]]) k = Fn24v3 (m + 1) r0 i1 i2 s3 (fun b5 => k (V.f (F.lit (Value.bool b5))) W1) := by kernel_rfl
noncomputable def T33 (m : Nat) : Tbl := addT 24 (brFn24v3 m (T32 m)) (T32 m)
theorem okT33 (m : Nat) : TblOk Tryz.prog (T33 m) := addT_ok (okT32 m) fun R vs k x h => by
 unfold brFn24v3 at h
 split at h
 ·cases m with
  | zero => cases h
  | succ m => exact runK_some (okT32 m) hM (okL10 m) ((evFn24v3 m R _ _ _ _ k).trans h)
 ·exact okT32 m R 24 _ k x h

/-- - -/
noncomputable def Lp10_5_step {R : Type} (m : Nat) (kx0 : Int → Int → Option R) (kx1 : Int → Option R) (r0 : Abs.Rows) (i1 : Int) (r2 : Abs.Rows) (i3 : Int) (REC : Int → Option R) (i4 : Int) : Option R :=
 bif decide (i4 < i3) then (bif decide ((0 : Int) ≤ i4 ∧ i4 < (↑(List.length r2) : Int)) then (Fn32 m (fI r2 (Int.toNat i4) (0 : Nat)) ((0 : Int)) ((127 : Int)) (fun b5 => bif !b5 then (kx0 ((1 : Int)) i4) else
 (bif decide ((0 : Int) ≤ i4 ∧ i4 ≤ (↑(List.length r0) : Int)) then (Fn24v2 m (List.take (Int.toNat i4 - (0 : Nat)) (List.drop (0 : Nat) r0)) (fI r2 (Int.toNat i4) (0 : Nat)) (fI r2 (Int.toNat i4) (1 : Nat)) (fS r2 (Int.toNat i4) (2 : Nat)) (fun b6 => bif b6 then (kx0 ((6 : Int)) i4) else
 (Fn34 m (fS r2 (Int.toNat i4) (2 : Nat)) (fun b7 => bif !b7 then (kx0 ((5 : Int)) i4) else
 (Fn32 m (fI r2 (Int.toNat i4) (1 : Nat)) ((1000 : Int)) ((96000 : Int)) (fun b8 => bif !b8 then (kx0 ((1 : Int)) i4) else
 (bif decide ((0 : Int) ≤ i4 ∧ i4 ≤ (↑(List.length r0) : Int)) then (Fn24v3 m (List.take (Int.toNat i4 - (0 : Nat)) (List.drop (0 : Nat) r0)) (fI r2 (Int.toNat i4) (0 : Nat)) (fI r2 (Int.toNat i4) (1 : Nat)) (fS r2 (Int.toNat i4) (2 : Nat)) (fun b9 => bif b9 then (kx0 ((6 : Int)) i4) else
 (REC (IntKind.wrap IntKind.i64 (i4 + (1 : Int)))))) else
 (none)))))))) else
 (none)))) else
 (none)) else
 (kx1 i4)
noncomputable def Lp10_5 {R : Type} (m : Nat) (kx0 : Int → Int → Option R) (kx1 : Int → Option R) (r0 : Abs.Rows) (i1 : Int) (r2 : Abs.Rows) (i3 : Int) : Nat → Int → Option R
 | 0, _ => none
 | n + 1, i4 => Lp10_5_step m kx0 kx1 r0 i1 r2 i3 (Lp10_5 m kx0 kx1 r0 i1 r2 i3 n) i4
noncomputable def ELp10_5 (m : Nat) (R : Type) : Nat → List V → (Ex → List V → Option R) → Option R
 | 0, _, _ => none
 | n + 1, vs, k => match vs with
  | [.bor [.int .i64, .int .i64, .str] r0, .f (.lit (.int .i64 i1)), .bor [.int .i64, .int .i64, .str] r2, .f (.lit (.int .i64 i3)), .f (.lit (.int .i64 i4)), .undef] => Lp10_5_step m (fun i10 i11 => k Ex.ret (W19 r0 i10 r2 i3 i11)) (fun i12 => k (Ex.exit (0 : Nat)) (W19 r0 i1 r2 i3 i12)) r0 i1 r2 i3 (fun i4 => ELp10_5 m R n (W19 r0 i1 r2 i3 i4) k) i4
  | _ => none
noncomputable def brLp10_5 (m : Nat) (L : LTbl) (R : Type) (vs : List V) (k : Ex → List V → Option R) : Option R := match vs with
 | [.bor [.int .i64, .int .i64, .str] r0, .f (.lit (.int .i64 i1)), .bor [.int .i64, .int .i64, .str] r2, .f (.lit (.int .i64 i3)), .f (.lit (.int .i64 i4)), .undef] => Lp10_5 m (fun i10 i11 => k Ex.ret (W19 r0 i10 r2 i3 i11)) (fun i12 => k (Ex.exit (0 : Nat)) (W19 r0 i1 r2 i3 i12)) r0 i1 r2 i3 m i4
 | _ => L R 10 5 vs k
set_option maxRecDepth 100000 in
theorem stLp10_5 (m n : Nat) (R : Type) (r0 : Abs.Rows) (i1 : Int) (r2 : Abs.Rows) (i3 i4 : Int) (k : Ex → List V → Option R) : codeK Tryz.prog H (T33 m) 10 (L10 m) 6 (loopBody Tryz.prog 10 5) (mkEnv [0, 2, 8, 9, 10, 38] (W19 r0 i1 r2 i3 i4) 0 (H.len 10)) (fun e env' => match e with | .normal => ELp10_5 m R n (vals [0, 2, 8, 9, 10, 38] env') k | e => k e (vals [0, 2, 8, 9, 10, 38] env')) = Lp10_5_step m (fun i10 i11 => k Ex.ret (W19 r0 i10 r2 i3 i11)) (fun i12 => k (Ex.exit (0 : Nat)) (W19 r0 i1 r2 i3 i12)) r0 i1 r2 i3 (fun i4 => ELp10_5 m R n (W19 r0 i1 r2 i3 i4) k) i4 := by kernel_rfl
theorem eqLp10_5 (m : Nat) (R : Type) (r0 : Abs.Rows) (i1 : Int) (r2 : Abs.Rows) (i3 : Int) (k : Ex → List V → Option R) : ∀ (n : Nat) (i4 : Int), ELp10_5 m R n (W19 r0 i1 r2 i3 i4) k = Lp10_5 m (fun i10 i11 => k Ex.ret (W19 r0 i10 r2 i3 i11)) (fun i12 => k (Ex.exit (0 : Nat)) (W19 r0 i1 r2 i3 i12)) r0 i1 r2 i3 n i4
 | 0, _ => rfl
 | n + 1, i4 => by
  simp only [ELp10_5, Lp10_5, W19]
  congr 1
  funext i4
  exact eqLp10_5 m R r0 i1 r2 i3 k n i4
noncomputable def L11 (m : Nat) : LTbl := addB 10 5 (brLp10_5 m (L10 m)) (L10 m)
theorem okL11 (m : Nat) : LTOk Tryz.prog H (L11 m) := addB_ok (okT33 m) hM (okL10 m) (l := [0, 2, 8, 9, 10, 38]) (by kernel_rfl) (by kernel_rfl) m (fun R n vs k => ELp10_5 m R n vs k) (fun R vs k => rfl) (fun R n vs k x h => by
   simp only [ELp10_5] at h
   split at h
   ·exact (stLp10_5 m n R _ _ _ _ _ k).trans h
   ·cases h) fun R vs k x h => by
  unfold brLp10_5 at h
  split at h
  ·exact .inl ((eqLp10_5 m R _ _ _ _ k m _).trans h)
  ·exact .inr h

/-- - -/
noncomputable def Fn10 {R : Type} (m : Nat) : Abs.Rows → (Int → Option R) → Option R := match m with
 | 0 => fun _ _ => none
 | m + 1 => fun r0 k =>
 bif decide ((↑(List.length r0) : Int) > (20 : Int)) then (k ((2 : Int))) else
 (Lp10_5 m (fun i1 i2 => k i1) (fun i3 => k ((0 : Int))) r0 ((0 : Int)) r0 ((↑(List.length r0) : Int)) m ((0 : Int)))
noncomputable def brFn10 (m : Nat) (T : Tbl) (R : Type) (vs : List V) (k : V → List V → Option R) : Option R := match vs with
 | [.bor [.int .i64, .int .i64, .str] r0] => Fn10 m r0 (fun i4 => k (V.f (F.lit (Value.int IntKind.i64 i4))) W15)
 | _ => T R 10 vs k
set_option maxRecDepth 100000 in
theorem evFn10 (m : Nat) (R : Type) (r0 : Abs.Rows) (k : V → List V → Option R) : runK Tryz.prog H (T33 m) (L11 m) 10 (W20 r0) k = Fn10 (m + 1) r0 (fun i4 => k (V.f (F.lit (Value.int IntKind.i64 i4))) W15) := by kernel_rfl
noncomputable def T34 (m : Nat) : Tbl := addT 10 (brFn10 m (T33 m)) (T33 m)
theorem okT34 (m : Nat) : TblOk Tryz.prog (T34 m) := addT_ok (okT33 m) fun R vs k x h => by
 unfold brFn10 at h
 split at h
 ·cases m with
  | zero => cases h
  | succ m => exact runK_some (okT33 m) hM (okL11 m) ((evFn10 m R _ k).trans h)
 ·exact okT33 m R 10 _ k x h

/-- - -/
noncomputable def Fn25 {R : Type} (m : Nat) : Int → Int → ByteArray → Int → Int → ByteArray → (Bool → Option R) → Option R := match m with
 | 0 => fun _ _ _ _ _ _ _ => none
 | m + 1 => fun i0 i1 s2 i3 i4 s5 k =>
 Fn26 m i3 i4 s5 i0 i1 s2 (fun b6 => k b6)
noncomputable def brFn25 (m : Nat) (T : Tbl) (R : Type) (vs : List V) (k : V → List V → Option R) : Option R := match vs with
 | [.agg [.f (.lit (.int .i64 i0)), .f (.lit (.int .i64 i1)), .f (.lit (.string s2))], .iref [.int .i64, .int .i64, .str] [[F.lit (Value.int IntKind.i64 i3), F.lit (Value.int IntKind.i64 i4), F.lit (Value.string s5)]] 0 0] => Fn25 m i0 i1 s2 i3 i4 s5 (fun b7 => k (V.f (F.lit (Value.bool b7))) W1)
 | _ => T R 25 vs k
set_option maxRecDepth 100000 in
theorem evFn25 (m : Nat) (R : Type) (i0 i1 : Int) (s2 : ByteArray) (i3 i4 : Int) (s5 : ByteArray) (k : V → List V → Option R) : runK Tryz.prog H (T34 m) (L11 m) 25 (W9 i0 i1 s2 [[F.lit (Value.int IntKind.i64 i3), F.lit (Value.int IntKind.i64 i4), F.lit (Value.string s5)]]) k = Fn25 (m + 1) i0 i1 s2 i3 i4 s5 (fun b7 => k (V.f (F.lit (Value.bool b7))) W1) := by kernel_rfl
noncomputable def T35 (m : Nat) : Tbl := addT 25 (brFn25 m (T34 m)) (T34 m)
theorem okT35 (m : Nat) : TblOk Tryz.prog (T35 m) := addT_ok (okT34 m) fun R vs k x h => by
 unfold brFn25 at h
 split at h
 ·cases m with
  | zero => cases h
  | succ m => exact runK_some (okT34 m) hM (okL11 m) ((evFn25 m R _ _ _ _ _ _ k).trans h)
 ·exact okT34 m R 25 _ k x h

abbrev W34 (a0 a1 : Abs.Rows) (a2 a3 a4 : Int) : List V := [.bor [.int .i64, .int .i64, .str] a0, .clos 25 [.iref [.int .i64, .int .i64, .str] a1 0 0], .f (.lit (.int .i64 a2)), .f (.lit (.int .i64 a3)), .f (.lit (.int .i64 a4)), .undef, .undef]
/-- - -/
noncomputable def Lp51_2v4_step {R : Type} (m : Nat) (kx0 : Int → Int → Option R) (kx1 : Int → Option R) (r0 : Abs.Rows) (i1 i2 : Int) (s3 : ByteArray) (i4 i5 : Int) (REC : Int → Option R) (i6 : Int) : Option R :=
 bif decide (i6 < i5) then (bif decide ((0 : Int) ≤ i6 ∧ i6 < (↑(List.length r0) : Int)) then (Fn25 m (fI r0 (Int.toNat i6) (0 : Nat)) (fI r0 (Int.toNat i6) (1 : Nat)) (fS r0 (Int.toNat i6) (2 : Nat)) i1 i2 s3 (fun b7 => bif b7 then (kx0 i6 i6) else
 (REC (IntKind.wrap IntKind.i64 (i6 + (1 : Int)))))) else
 (none)) else
 (kx1 i6)
noncomputable def Lp51_2v4 {R : Type} (m : Nat) (kx0 : Int → Int → Option R) (kx1 : Int → Option R) (r0 : Abs.Rows) (i1 i2 : Int) (s3 : ByteArray) (i4 i5 : Int) : Nat → Int → Option R
 | 0, _ => none
 | n + 1, i6 => Lp51_2v4_step m kx0 kx1 r0 i1 i2 s3 i4 i5 (Lp51_2v4 m kx0 kx1 r0 i1 i2 s3 i4 i5 n) i6
noncomputable def ELp51_2v4 (m : Nat) (R : Type) : Nat → List V → (Ex → List V → Option R) → Option R
 | 0, _, _ => none
 | n + 1, vs, k => match vs with
  | [.bor [.int .i64, .int .i64, .str] r0, .clos 25 [.iref [.int .i64, .int .i64, .str] [[F.lit (Value.int IntKind.i64 i1), F.lit (Value.int IntKind.i64 i2), F.lit (Value.string s3)]] 0 0], .f (.lit (.int .i64 i4)), .f (.lit (.int .i64 i5)), .f (.lit (.int .i64 i6)), .undef, .undef] => Lp51_2v4_step m (fun i8 i9 => k Ex.ret (W34 r0 [[F.lit (Value.int IntKind.i64 i1), F.lit (Value.int IntKind.i64 i2), F.lit (Value.string s3)]] i8 i5 i9)) (fun i10 => k (Ex.exit (0 : Nat)) (W34 r0 [[F.lit (Value.int IntKind.i64 i1), F.lit (Value.int IntKind.i64 i2), F.lit (Value.string s3)]] i4 i5 i10)) r0 i1 i2 s3 i4 i5 (fun i6 => ELp51_2v4 m R n (W34 r0 [[F.lit (Value.int IntKind.i64 i1), F.lit (Value.int IntKind.i64 i2), F.lit (Value.string s3)]] i4 i5 i6) k) i6
  | _ => none
noncomputable def brLp51_2v4 (m : Nat) (L : LTbl) (R : Type) (vs : List V) (k : Ex → List V → Option R) : Option R := match vs with
 | [.bor [.int .i64, .int .i64, .str] r0, .clos 25 [.iref [.int .i64, .int .i64, .str] [[F.lit (Value.int IntKind.i64 i1), F.lit (Value.int IntKind.i64 i2), F.lit (Value.string s3)]] 0 0], .f (.lit (.int .i64 i4)), .f (.lit (.int .i64 i5)), .f (.lit (.int .i64 i6)), .undef, .undef] => Lp51_2v4 m (fun i8 i9 => k Ex.ret (W34 r0 [[F.lit (Value.int IntKind.i64 i1), F.lit (Value.int IntKind.i64 i2), F.lit (Value.string s3)]] i8 i5 i9)) (fun i10 => k (Ex.exit (0 : Nat)) (W34 r0 [[F.lit (Value.int IntKind.i64 i1), F.lit (Value.int IntKind.i64 i2), F.lit (Value.string s3)]] i4 i5 i10)) r0 i1 i2 s3 i4 i5 m i6
 | _ => L R 51 2 vs k
set_option maxRecDepth 100000 in
theorem stLp51_2v4 (m n : Nat) (R : Type) (r0 : Abs.Rows) (i1 i2 : Int) (s3 : ByteArray) (i4 i5 i6 : Int) (k : Ex → List V → Option R) : codeK Tryz.prog H (T35 m) 51 (L11 m) 3 (loopBody Tryz.prog 51 2) (mkEnv [0, 1, 4, 7, 8, 19, 20] (W34 r0 [[F.lit (Value.int IntKind.i64 i1), F.lit (Value.int IntKind.i64 i2), F.lit (Value.string s3)]] i4 i5 i6) 0 (H.len 51)) (fun e env' => match e with | .normal => ELp51_2v4 m R n (vals [0, 1, 4, 7, 8, 19, 20] env') k | e => k e (vals [0, 1, 4, 7, 8, 19, 20] env')) = Lp51_2v4_step m (fun i8 i9 => k Ex.ret (W34 r0 [[F.lit (Value.int IntKind.i64 i1), F.lit (Value.int IntKind.i64 i2), F.lit (Value.string s3)]] i8 i5 i9)) (fun i10 => k (Ex.exit (0 : Nat)) (W34 r0 [[F.lit (Value.int IntKind.i64 i1), F.lit (Value.int IntKind.i64 i2), F.lit (Value.string s3)]] i4 i5 i10)) r0 i1 i2 s3 i4 i5 (fun i6 => ELp51_2v4 m R n (W34 r0 [[F.lit (Value.int IntKind.i64 i1), F.lit (Value.int IntKind.i64 i2), F.lit (Value.string s3)]] i4 i5 i6) k) i6 := by kernel_rfl
theorem eqLp51_2v4 (m : Nat) (R : Type) (r0 : Abs.Rows) (i1 i2 : Int) (s3 : ByteArray) (i4 i5 : Int) (k : Ex → List V → Option R) : ∀ (n : Nat) (i6 : Int), ELp51_2v4 m R n (W34 r0 [[F.lit (Value.int IntKind.i64 i1), F.lit (Value.int IntKind.i64 i2), F.lit (Value.string s3)]] i4 i5 i6) k = Lp51_2v4 m (fun i8 i9 => k Ex.ret (W34 r0 [[F.lit (Value.int IntKind.i64 i1), F.lit (Value.int IntKind.i64 i2), F.lit (Value.string s3)]] i8 i5 i9)) (fun i10 => k (Ex.exit (0 : Nat)) (W34 r0 [[F.lit (Value.int IntKind.i64 i1), F.lit (Value.int IntKind.i64 i2), F.lit (Value.string s3)]] i4 i5 i10)) r0 i1 i2 s3 i4 i5 n i6
 | 0, _ => rfl
 | n + 1, i6 => by
  simp only [ELp51_2v4, Lp51_2v4, W34]
  congr 1
  funext i6
  exact eqLp51_2v4 m R r0 i1 i2 s3 i4 i5 k n i6
noncomputable def L12 (m : Nat) : LTbl := addB 51 2 (brLp51_2v4 m (L11 m)) (L11 m)
theorem okL12 (m : Nat) : LTOk Tryz.prog H (L12 m) := addB_ok (okT35 m) hM (okL11 m) (l := [0, 1, 4, 7, 8, 19, 20]) (by kernel_rfl) (by kernel_rfl) m (fun R n vs k => ELp51_2v4 m R n vs k) (fun R vs k => rfl) (fun R n vs k x h => by
   simp only [ELp51_2v4] at h
   split at h
   ·exact (stLp51_2v4 m n R _ _ _ _ _ _ _ k).trans h
   ·cases h) fun R vs k x h => by
  unfold brLp51_2v4 at h
  split at h
  ·exact .inl ((eqLp51_2v4 m R _ _ _ _ _ _ k m _).trans h)
  ·exact .inr h

abbrev W35 (a0 a1 : Abs.Rows) : List V := [.bor [.int .i64, .int .i64, .str] a0, .clos 25 [.iref [.int .i64, .int .i64, .str] a1 0 0]]
/-- - -/
noncomputable def Fn51v4 {R : Type} (m : Nat) : Abs.Rows → Int → Int → ByteArray → (Int → Option R) → Option R := match m with
 | 0 => fun _ _ _ _ _ => none
 | m + 1 => fun r0 i1 i2 s3 k =>
 Lp51_2v4 m (fun i4 i5 => k i4) (fun i6 => k ((-1 : Int))) r0 i1 i2 s3 ((0 : Int)) ((↑(List.length r0) : Int)) m ((0 : Int))
noncomputable def brFn51v4 (m : Nat) (T : Tbl) (R : Type) (vs : List V) (k : V → List V → Option R) : Option R := match vs with
 | [.bor [.int .i64, .int .i64, .str] r0, .clos 25 [.iref [.int .i64, .int .i64, .str] [[F.lit (Value.int IntKind.i64 i1), F.lit (Value.int IntKind.i64 i2), F.lit (Value.string s3)]] 0 0]] => Fn51v4 m r0 i1 i2 s3 (fun i7 => k (V.f (F.lit (Value.int IntKind.i64 i7))) W1)
 | _ => T R 51 vs k
set_option maxRecDepth 100000 in
theorem evFn51v4 (m : Nat) (R : Type) (r0 : Abs.Rows) (i1 i2 : Int) (s3 : ByteArray) (k : V → List V → Option R) : runK Tryz.prog H (T35 m) (L12 m) 51 (W35 r0 [[F.lit (Value.int IntKind.i64 i1), F.lit (Value.int IntKind.i64 i2), F.lit (Value.string s3)]]) k = Fn51v4 (m + 1) r0 i1 i2 s3 (fun i7 => k (V.f (F.lit (Value.int IntKind.i64 i7))) W1) := by kernel_rfl
noncomputable def T36 (m : Nat) : Tbl := addT 51 (brFn51v4 m (T35 m)) (T35 m)
theorem okT36 (m : Nat) : TblOk Tryz.prog (T36 m) := addT_ok (okT35 m) fun R vs k x h => by
 unfold brFn51v4 at h
 split at h
 ·cases m with
  | zero => cases h
  | succ m => exact runK_some (okT35 m) hM (okL12 m) ((evFn51v4 m R _ _ _ _ k).trans h)
 ·exact okT35 m R 51 _ k x h

/-- - -/
noncomputable def Fn24v4 {R : Type} (m : Nat) : Abs.Rows → Int → Int → ByteArray → (Bool → Option R) → Option R := match m with
 | 0 => fun _ _ _ _ _ => none
 | m + 1 => fun r0 i1 i2 s3 k =>
 Fn51v4 m r0 i1 i2 s3 (fun i4 => k (decide (i4 ≥ (0 : Int))))
noncomputable def brFn24v4 (m : Nat) (T : Tbl) (R : Type) (vs : List V) (k : V → List V → Option R) : Option R := match vs with
 | [.bor [.int .i64, .int .i64, .str] r0, .clos 25 [.iref [.int .i64, .int .i64, .str] [[F.lit (Value.int IntKind.i64 i1), F.lit (Value.int IntKind.i64 i2), F.lit (Value.string s3)]] 0 0]] => Fn24v4 m r0 i1 i2 s3 (fun b5 => k (V.f (F.lit (Value.bool b5))) W1)
 | _ => T R 24 vs k
set_option maxRecDepth 100000 in
theorem evFn24v4 (m : Nat) (R : Type) (r0 : Abs.Rows) (i1 i2 : Int) (s3 : ByteArray) (k : V → List V → Option R) : runK Tryz.prog H (T36 m) (L12 m) 24 (W35 r0 [[F.lit (Value.int IntKind.i64 i1), F.lit (Value.int IntKind.i64 i2), F.lit (Value.string s3)]]) k = Fn24v4 (m + 1) r0 i1 i2 s3 (fun b5 => k (V.f (F.lit (Value.bool b5))) W1) := by kernel_rfl
noncomputable def T37 (m : Nat) : Tbl := addT 24 (brFn24v4 m (T36 m)) (T36 m)
theorem okT37 (m : Nat) : TblOk Tryz.prog (T37 m) := addT_ok (okT36 m) fun R vs k x h => by
 unfold brFn24v4 at h
 split at h
 ·cases m with
  | zero => cases h
  | succ m => exact runK_some (okT36 m) hM (okL12 m) ((evFn24v4 m R _ _ _ _ k).trans h)
 ·exact okT36 m R 24 _ k x h

abbrev W36 (a0 a1 a2 a3 : Abs.Rows) (a4 a5 : Int) : List V := [.bor [.int .i64, .int .i64, .str] a0, .bor [.int .i64, .int .i64, .str] a1, .own [.int .i64, .int .i64, .str] a2, .bor [.int .i64, .int .i64, .str] a3, .f (.lit (.int .i64 a4)), .f (.lit (.int .i64 a5)), .undef, .undef]
/-- - -/
noncomputable def Lp6_11_step {R : Type} (m : Nat) (kx0 : Abs.Rows → Int → Option R) (r0 r1 r2 : Abs.Rows) (i3 : Int) (REC : Abs.Rows → Int → Option R) (r4 : Abs.Rows) (i5 : Int) : Option R :=
 bif decide (i5 < i3) then (bif decide ((0 : Int) ≤ i5 ∧ i5 < (↑(List.length r2) : Int)) then (Fn24v4 m r1 (fI r2 (Int.toNat i5) (0 : Nat)) (fI r2 (Int.toNat i5) (1 : Nat)) (fS r2 (Int.toNat i5) (2 : Nat)) (fun b6 => bif b6 then (bif decide (List.length r4 + List.length [[F.lit (Value.int IntKind.i64 (fI r2 (Int.toNat i5) (0 : Nat))), F.lit (Value.int IntKind.i64 (fI r2 (Int.toNat i5) (1 : Nat))), F.lit (Value.string (fS r2 (Int.toNat i5) (2 : Nat)))]] ≤ rowMax) then (letV (r4 ++ [[F.lit (Value.int IntKind.i64 (fI r2 (Int.toNat i5) (0 : Nat))), F.lit (Value.int IntKind.i64 (fI r2 (Int.toNat i5) (1 : Nat))), F.lit (Value.string (fS r2 (Int.toNat i5) (2 : Nat)))]]) (fun r7 => REC r7 (IntKind.wrap IntKind.i64 (i5 + (1 : Int))))) else
 (none)) else
 (REC r4 (IntKind.wrap IntKind.i64 (i5 + (1 : Int)))))) else
 (none)) else
 (kx0 r4 i5)
noncomputable def Lp6_11 {R : Type} (m : Nat) (kx0 : Abs.Rows → Int → Option R) (r0 r1 r2 : Abs.Rows) (i3 : Int) : Nat → Abs.Rows → Int → Option R
 | 0, _, _ => none
 | n + 1, r4, i5 => Lp6_11_step m kx0 r0 r1 r2 i3 (Lp6_11 m kx0 r0 r1 r2 i3 n) r4 i5
noncomputable def ELp6_11 (m : Nat) (R : Type) : Nat → List V → (Ex → List V → Option R) → Option R
 | 0, _, _ => none
 | n + 1, vs, k => match vs with
  | [.bor [.int .i64, .int .i64, .str] r0, .bor [.int .i64, .int .i64, .str] r1, .own [.int .i64, .int .i64, .str] r4, .bor [.int .i64, .int .i64, .str] r2, .f (.lit (.int .i64 i3)), .f (.lit (.int .i64 i5)), .undef, .undef] => Lp6_11_step m (fun r8 i9 => k (Ex.exit (0 : Nat)) (W36 r0 r1 r8 r2 i3 i9)) r0 r1 r2 i3 (fun r4 i5 => ELp6_11 m R n (W36 r0 r1 r4 r2 i3 i5) k) r4 i5
  | _ => none
noncomputable def brLp6_11 (m : Nat) (L : LTbl) (R : Type) (vs : List V) (k : Ex → List V → Option R) : Option R := match vs with
 | [.bor [.int .i64, .int .i64, .str] r0, .bor [.int .i64, .int .i64, .str] r1, .own [.int .i64, .int .i64, .str] r4, .bor [.int .i64, .int .i64, .str] r2, .f (.lit (.int .i64 i3)), .f (.lit (.int .i64 i5)), .undef, .undef] => Lp6_11 m (fun r8 i9 => k (Ex.exit (0 : Nat)) (W36 r0 r1 r8 r2 i3 i9)) r0 r1 r2 i3 m r4 i5
 | _ => L R 6 11 vs k
set_option maxRecDepth 100000 in
theorem stLp6_11 (m n : Nat) (R : Type) (r0 r1 r4 r2 : Abs.Rows) (i3 i5 : Int) (k : Ex → List V → Option R) : codeK Tryz.prog H (T37 m) 6 (L12 m) 12 (loopBody Tryz.prog 6 11) (mkEnv [0, 1, 8, 21, 22, 23, 39, 40] (W36 r0 r1 r4 r2 i3 i5) 0 (H.len 6)) (fun e env' => match e with | .normal => ELp6_11 m R n (vals [0, 1, 8, 21, 22, 23, 39, 40] env') k | e => k e (vals [0, 1, 8, 21, 22, 23, 39, 40] env')) = Lp6_11_step m (fun r8 i9 => k (Ex.exit (0 : Nat)) (W36 r0 r1 r8 r2 i3 i9)) r0 r1 r2 i3 (fun r4 i5 => ELp6_11 m R n (W36 r0 r1 r4 r2 i3 i5) k) r4 i5 := by kernel_rfl
theorem eqLp6_11 (m : Nat) (R : Type) (r0 r1 r2 : Abs.Rows) (i3 : Int) (k : Ex → List V → Option R) : ∀ (n : Nat) (r4 : Abs.Rows) (i5 : Int), ELp6_11 m R n (W36 r0 r1 r4 r2 i3 i5) k = Lp6_11 m (fun r8 i9 => k (Ex.exit (0 : Nat)) (W36 r0 r1 r8 r2 i3 i9)) r0 r1 r2 i3 n r4 i5
 | 0, _, _ => rfl
 | n + 1, r4, i5 => by
  simp only [ELp6_11, Lp6_11, W36]
  congr 1
  funext r4 i5
  exact eqLp6_11 m R r0 r1 r2 i3 k n r4 i5
noncomputable def L13 (m : Nat) : LTbl := addB 6 11 (brLp6_11 m (L12 m)) (L12 m)
theorem okL13 (m : Nat) : LTOk Tryz.prog H (L13 m) := addB_ok (okT37 m) hM (okL12 m) (l := [0, 1, 8, 21, 22, 23, 39, 40]) (by kernel_rfl) (by kernel_rfl) m (fun R n vs k => ELp6_11 m R n vs k) (fun R vs k => rfl) (fun R n vs k x h => by
   simp only [ELp6_11] at h
   split at h
   ·exact (stLp6_11 m n R _ _ _ _ _ _ k).trans h
   ·cases h) fun R vs k x h => by
  unfold brLp6_11 at h
  split at h
  ·exact .inl ((eqLp6_11 m R _ _ _ _ k m _ _).trans h)
  ·exact .inr h

abbrev W37 (a0 : Abs.Rows) (a1 : Int) : List V := [.own [.int .i64, .int .i64, .str] a0, .f (.lit (.int .i64 a1))]
abbrev W38 (a0 a1 : Abs.Rows) : List V := [.bor [.int .i64, .int .i64, .str] a0, .bor [.int .i64, .int .i64, .str] a1]
/-- - -/
noncomputable def Fn6 {R : Type} (m : Nat) : Abs.Rows → Abs.Rows → (Abs.Rows → Int → Option R) → Option R := match m with
 | 0 => fun _ _ _ => none
 | m + 1 => fun r0 r1 k =>
 Fn10 m r0 (fun i2 => bif i2 != (0 : Int) then (k rows0 i2) else
 (Fn10 m r1 (fun i3 => bif i3 != (0 : Int) then (k rows0 i3) else
 (Lp6_11 m (fun r4 i5 => bif (↑(List.length r4) : Int) == (0 : Int) then (k rows0 ((8 : Int))) else
 (k r4 ((0 : Int)))) r0 r1 r0 ((↑(List.length r0) : Int)) m rows0 ((0 : Int))))))
noncomputable def brFn6 (m : Nat) (T : Tbl) (R : Type) (vs : List V) (k : V → List V → Option R) : Option R := match vs with
 | [.bor [.int .i64, .int .i64, .str] r0, .bor [.int .i64, .int .i64, .str] r1] => Fn6 m r0 r1 (fun r6 i7 => k (V.tup (W37 r6 i7)) W1)
 | _ => T R 6 vs k
set_option maxRecDepth 100000 in
theorem evFn6 (m : Nat) (R : Type) (r0 r1 : Abs.Rows) (k : V → List V → Option R) : runK Tryz.prog H (T37 m) (L13 m) 6 (W38 r0 r1) k = Fn6 (m + 1) r0 r1 (fun r6 i7 => k (V.tup (W37 r6 i7)) W1) := by kernel_rfl
noncomputable def T38 (m : Nat) : Tbl := addT 6 (brFn6 m (T37 m)) (T37 m)
theorem okT38 (m : Nat) : TblOk Tryz.prog (T38 m) := addT_ok (okT37 m) fun R vs k x h => by
 unfold brFn6 at h
 split at h
 ·cases m with
  | zero => cases h
  | succ m => exact runK_some (okT37 m) hM (okL13 m) ((evFn6 m R _ _ k).trans h)
 ·exact okT37 m R 6 _ k x h

/-- - -/
noncomputable def Lp7_7_step {R : Type} (m : Nat) (kx0 : ByteArray → Int → Option R) (r0 r1 : Abs.Rows) (i2 : Int) (REC : ByteArray → Int → Option R) (s3 : ByteArray) (i4 : Int) : Option R :=
 bif decide (i4 < i2) then (bif decide ((0 : Int) ≤ i4 ∧ i4 < (↑(List.length r1) : Int)) then (bif itoaOk (fI r1 (Int.toNat i4) (0 : Nat)) then (bif decide (ByteArray.size (itoaB (fI r1 (Int.toNat i4) (0 : Nat))) + ByteArray.size { data := #[(32 : UInt8)] } ≤ strMax) then (bif decide (ByteArray.size (itoaB (fI r1 (Int.toNat i4) (0 : Nat)) ++ { data := #[(32 : UInt8)] }) + ByteArray.size (fS r1 (Int.toNat i4) (2 : Nat)) ≤ strMax) then (letV (itoaB (fI r1 (Int.toNat i4) (0 : Nat)) ++ { data := #[(32 : UInt8)] } ++ fS r1 (Int.toNat i4) (2 : Nat)) (fun s5 => bif decide (ByteArray.size s5 + ByteArray.size { data := #[(32 : UInt8)] } ≤ strMax) then (bif itoaOk (fI r1 (Int.toNat i4) (1 : Nat)) then (bif decide (ByteArray.size (s5 ++ { data := #[(32 : UInt8)] }) + ByteArray.size (itoaB (fI r1 (Int.toNat i4) (1 : Nat))) ≤ strMax) then (bif decide (ByteArray.size (s5 ++ { data := #[(32 : UInt8)] } ++ itoaB (fI r1 (Int.toNat i4) (1 : Nat))) + ByteArray.size { data := #[(10 : UInt8)] } ≤ strMax) then (letV (s5 ++ { data := #[(32 : UInt8)] } ++ itoaB (fI r1 (Int.toNat i4) (1 : Nat)) ++ { data := #[(10 : UInt8)] }) (fun s6 => bif decide (ByteArray.size s3 + ByteArray.size s6 ≤ strMax) then (REC (s3 ++ s6) (IntKind.wrap IntKind.i64 (i4 + (1 : Int)))) else
 (none))) else
 (none)) else
 (none)) else
 (none)) else
 (none))) else
 (none)) else
 (none)) else
 (none)) else
 (none)) else
 (kx0 s3 i4)
noncomputable def Lp7_7 {R : Type} (m : Nat) (kx0 : ByteArray → Int → Option R) (r0 r1 : Abs.Rows) (i2 : Int) : Nat → ByteArray → Int → Option R
 | 0, _, _ => none
 | n + 1, s3, i4 => Lp7_7_step m kx0 r0 r1 i2 (Lp7_7 m kx0 r0 r1 i2 n) s3 i4
noncomputable def ELp7_7 (m : Nat) (R : Type) : Nat → List V → (Ex → List V → Option R) → Option R
 | 0, _, _ => none
 | n + 1, vs, k => match vs with
  | [.bor [.int .i64, .int .i64, .str] r0, .f (.lit (.string s3)), .bor [.int .i64, .int .i64, .str] r1, .f (.lit (.int .i64 i2)), .f (.lit (.int .i64 i4)), .undef] => Lp7_7_step m (fun s7 i8 => k (Ex.exit (0 : Nat)) (W25 r0 s7 r1 i2 i8)) r0 r1 i2 (fun s3 i4 => ELp7_7 m R n (W25 r0 s3 r1 i2 i4) k) s3 i4
  | _ => none
noncomputable def brLp7_7 (m : Nat) (L : LTbl) (R : Type) (vs : List V) (k : Ex → List V → Option R) : Option R := match vs with
 | [.bor [.int .i64, .int .i64, .str] r0, .f (.lit (.string s3)), .bor [.int .i64, .int .i64, .str] r1, .f (.lit (.int .i64 i2)), .f (.lit (.int .i64 i4)), .undef] => Lp7_7 m (fun s7 i8 => k (Ex.exit (0 : Nat)) (W25 r0 s7 r1 i2 i8)) r0 r1 i2 m s3 i4
 | _ => L R 7 7 vs k
set_option maxRecDepth 100000 in
theorem stLp7_7 (m n : Nat) (R : Type) (r0 : Abs.Rows) (s3 : ByteArray) (r1 : Abs.Rows) (i2 i4 : Int) (k : Ex → List V → Option R) : codeK Tryz.prog H (T38 m) 7 (L13 m) 8 (loopBody Tryz.prog 7 7) (mkEnv [0, 5, 13, 14, 15, 36] (W25 r0 s3 r1 i2 i4) 0 (H.len 7)) (fun e env' => match e with | .normal => ELp7_7 m R n (vals [0, 5, 13, 14, 15, 36] env') k | e => k e (vals [0, 5, 13, 14, 15, 36] env')) = Lp7_7_step m (fun s7 i8 => k (Ex.exit (0 : Nat)) (W25 r0 s7 r1 i2 i8)) r0 r1 i2 (fun s3 i4 => ELp7_7 m R n (W25 r0 s3 r1 i2 i4) k) s3 i4 := by kernel_rfl
theorem eqLp7_7 (m : Nat) (R : Type) (r0 r1 : Abs.Rows) (i2 : Int) (k : Ex → List V → Option R) : ∀ (n : Nat) (s3 : ByteArray) (i4 : Int), ELp7_7 m R n (W25 r0 s3 r1 i2 i4) k = Lp7_7 m (fun s7 i8 => k (Ex.exit (0 : Nat)) (W25 r0 s7 r1 i2 i8)) r0 r1 i2 n s3 i4
 | 0, _, _ => rfl
 | n + 1, s3, i4 => by
  simp only [ELp7_7, Lp7_7, W25]
  congr 1
  funext s3 i4
  exact eqLp7_7 m R r0 r1 i2 k n s3 i4
noncomputable def L14 (m : Nat) : LTbl := addB 7 7 (brLp7_7 m (L13 m)) (L13 m)
theorem okL14 (m : Nat) : LTOk Tryz.prog H (L14 m) := addB_ok (okT38 m) hM (okL13 m) (l := [0, 5, 13, 14, 15, 36]) (by kernel_rfl) (by kernel_rfl) m (fun R n vs k => ELp7_7 m R n vs k) (fun R vs k => rfl) (fun R n vs k x h => by
   simp only [ELp7_7] at h
   split at h
   ·exact (stLp7_7 m n R _ _ _ _ _ k).trans h
   ·cases h) fun R vs k x h => by
  unfold brLp7_7 at h
  split at h
  ·exact .inl ((eqLp7_7 m R _ _ _ k m _ _).trans h)
  ·exact .inr h

abbrev W39 (a0 : ByteArray) (a1 : Int) : List V := [.f (.lit (.string a0)), .f (.lit (.int .i64 a1))]
/-- - -/
noncomputable def Fn7 {R : Type} (m : Nat) : Abs.Rows → (ByteArray → Int → Option R) → Option R := match m with
 | 0 => fun _ _ => none
 | m + 1 => fun r0 k =>
 Fn10 m r0 (fun i1 => bif i1 != (0 : Int) then (k ({ data := #[] }) i1) else
 (Lp7_7 m (fun s2 i3 => k s2 ((0 : Int))) r0 r0 ((↑(List.length r0) : Int)) m ({ data := #[] }) ((0 : Int))))
noncomputable def brFn7 (m : Nat) (T : Tbl) (R : Type) (vs : List V) (k : V → List V → Option R) : Option R := match vs with
 | [.bor [.int .i64, .int .i64, .str] r0] => Fn7 m r0 (fun s4 i5 => k (V.tup (W39 s4 i5)) W15)
 | _ => T R 7 vs k
set_option maxRecDepth 100000 in
theorem evFn7 (m : Nat) (R : Type) (r0 : Abs.Rows) (k : V → List V → Option R) : runK Tryz.prog H (T38 m) (L14 m) 7 (W20 r0) k = Fn7 (m + 1) r0 (fun s4 i5 => k (V.tup (W39 s4 i5)) W15) := by kernel_rfl
noncomputable def T39 (m : Nat) : Tbl := addT 7 (brFn7 m (T38 m)) (T38 m)
theorem okT39 (m : Nat) : TblOk Tryz.prog (T39 m) := addT_ok (okT38 m) fun R vs k x h => by
 unfold brFn7 at h
 split at h
 ·cases m with
  | zero => cases h
  | succ m => exact runK_some (okT38 m) hM (okL14 m) ((evFn7 m R _ k).trans h)
 ·exact okT38 m R 7 _ k x h

abbrev W40 (a0 : Abs.Rows) (a1 : Int) (a2 : Abs.Rows) (a3 a4 : Int) : List V := [.bor [.int .i64] a0, .f (.lit (.int .i64 a1)), .bor [.int .i64] a2, .f (.lit (.int .i64 a3)), .f (.lit (.int .i64 a4)), .undef]
/-- - -/
noncomputable def Lp9_2_step {R : Type} (m : Nat) (kx0 : Int → Int → Option R) (kx1 : Int → Option R) (r0 : Abs.Rows) (i1 : Int) (r2 : Abs.Rows) (i3 : Int) (REC : Int → Option R) (i4 : Int) : Option R :=
 bif decide (i4 < i3) then (bif decide ((0 : Int) ≤ i4 ∧ i4 < (↑(List.length r2) : Int)) then (bif fI r2 (Int.toNat i4) (0 : Nat) != (0 : Int) then (kx0 (fI r2 (Int.toNat i4) (0 : Nat)) i4) else
 (REC (IntKind.wrap IntKind.i64 (i4 + (1 : Int))))) else
 (none)) else
 (kx1 i4)
noncomputable def Lp9_2 {R : Type} (m : Nat) (kx0 : Int → Int → Option R) (kx1 : Int → Option R) (r0 : Abs.Rows) (i1 : Int) (r2 : Abs.Rows) (i3 : Int) : Nat → Int → Option R
 | 0, _ => none
 | n + 1, i4 => Lp9_2_step m kx0 kx1 r0 i1 r2 i3 (Lp9_2 m kx0 kx1 r0 i1 r2 i3 n) i4
noncomputable def ELp9_2 (m : Nat) (R : Type) : Nat → List V → (Ex → List V → Option R) → Option R
 | 0, _, _ => none
 | n + 1, vs, k => match vs with
  | [.bor [.int .i64] r0, .f (.lit (.int .i64 i1)), .bor [.int .i64] r2, .f (.lit (.int .i64 i3)), .f (.lit (.int .i64 i4)), .undef] => Lp9_2_step m (fun i5 i6 => k Ex.ret (W40 r0 i5 r2 i3 i6)) (fun i7 => k (Ex.exit (0 : Nat)) (W40 r0 i1 r2 i3 i7)) r0 i1 r2 i3 (fun i4 => ELp9_2 m R n (W40 r0 i1 r2 i3 i4) k) i4
  | _ => none
noncomputable def brLp9_2 (m : Nat) (L : LTbl) (R : Type) (vs : List V) (k : Ex → List V → Option R) : Option R := match vs with
 | [.bor [.int .i64] r0, .f (.lit (.int .i64 i1)), .bor [.int .i64] r2, .f (.lit (.int .i64 i3)), .f (.lit (.int .i64 i4)), .undef] => Lp9_2 m (fun i5 i6 => k Ex.ret (W40 r0 i5 r2 i3 i6)) (fun i7 => k (Ex.exit (0 : Nat)) (W40 r0 i1 r2 i3 i7)) r0 i1 r2 i3 m i4
 | _ => L R 9 2 vs k
set_option maxRecDepth 100000 in
theorem stLp9_2 (m n : Nat) (R : Type) (r0 : Abs.Rows) (i1 : Int) (r2 : Abs.Rows) (i3 i4 : Int) (k : Ex → List V → Option R) : codeK Tryz.prog H (T39 m) 9 (L14 m) 3 (loopBody Tryz.prog 9 2) (mkEnv [0, 2, 5, 6, 7, 15] (W40 r0 i1 r2 i3 i4) 0 (H.len 9)) (fun e env' => match e with | .normal => ELp9_2 m R n (vals [0, 2, 5, 6, 7, 15] env') k | e => k e (vals [0, 2, 5, 6, 7, 15] env')) = Lp9_2_step m (fun i5 i6 => k Ex.ret (W40 r0 i5 r2 i3 i6)) (fun i7 => k (Ex.exit (0 : Nat)) (W40 r0 i1 r2 i3 i7)) r0 i1 r2 i3 (fun i4 => ELp9_2 m R n (W40 r0 i1 r2 i3 i4) k) i4 := by kernel_rfl
theorem eqLp9_2 (m : Nat) (R : Type) (r0 : Abs.Rows) (i1 : Int) (r2 : Abs.Rows) (i3 : Int) (k : Ex → List V → Option R) : ∀ (n : Nat) (i4 : Int), ELp9_2 m R n (W40 r0 i1 r2 i3 i4) k = Lp9_2 m (fun i5 i6 => k Ex.ret (W40 r0 i5 r2 i3 i6)) (fun i7 => k (Ex.exit (0 : Nat)) (W40 r0 i1 r2 i3 i7)) r0 i1 r2 i3 n i4
 | 0, _ => rfl
 | n + 1, i4 => by
  simp only [ELp9_2, Lp9_2, W40]
  congr 1
  funext i4
  exact eqLp9_2 m R r0 i1 r2 i3 k n i4
noncomputable def L15 (m : Nat) : LTbl := addB 9 2 (brLp9_2 m (L14 m)) (L14 m)
theorem okL15 (m : Nat) : LTOk Tryz.prog H (L15 m) := addB_ok (okT39 m) hM (okL14 m) (l := [0, 2, 5, 6, 7, 15]) (by kernel_rfl) (by kernel_rfl) m (fun R n vs k => ELp9_2 m R n vs k) (fun R vs k => rfl) (fun R n vs k x h => by
   simp only [ELp9_2] at h
   split at h
   ·exact (stLp9_2 m n R _ _ _ _ _ k).trans h
   ·cases h) fun R vs k x h => by
  unfold brLp9_2 at h
  split at h
  ·exact .inl ((eqLp9_2 m R _ _ _ _ k m _).trans h)
  ·exact .inr h

abbrev W41 (a0 : Abs.Rows) : List V := [.bor [.int .i64] a0]
/-- - -/
noncomputable def Fn9 {R : Type} (m : Nat) : Abs.Rows → (Int → Option R) → Option R := match m with
 | 0 => fun _ _ => none
 | m + 1 => fun r0 k =>
 Lp9_2 m (fun i1 i2 => k i1) (fun i3 => k ((0 : Int))) r0 ((0 : Int)) r0 ((↑(List.length r0) : Int)) m ((0 : Int))
noncomputable def brFn9 (m : Nat) (T : Tbl) (R : Type) (vs : List V) (k : V → List V → Option R) : Option R := match vs with
 | [.bor [.int .i64] r0] => Fn9 m r0 (fun i4 => k (V.f (F.lit (Value.int IntKind.i64 i4))) W15)
 | _ => T R 9 vs k
set_option maxRecDepth 100000 in
theorem evFn9 (m : Nat) (R : Type) (r0 : Abs.Rows) (k : V → List V → Option R) : runK Tryz.prog H (T39 m) (L15 m) 9 (W41 r0) k = Fn9 (m + 1) r0 (fun i4 => k (V.f (F.lit (Value.int IntKind.i64 i4))) W15) := by kernel_rfl
noncomputable def T40 (m : Nat) : Tbl := addT 9 (brFn9 m (T39 m)) (T39 m)
theorem okT40 (m : Nat) : TblOk Tryz.prog (T40 m) := addT_ok (okT39 m) fun R vs k x h => by
 unfold brFn9 at h
 split at h
 ·cases m with
  | zero => cases h
  | succ m => exact runK_some (okT39 m) hM (okL15 m) ((evFn9 m R _ k).trans h)
 ·exact okT39 m R 9 _ k x h

/-- - -/
noncomputable def Fn39 {R : Type} (m : Nat) : Int → Int → ByteArray → Int → Int → ByteArray → (Bool → Option R) → Option R := match m with
 | 0 => fun _ _ _ _ _ _ _ => none
 | m + 1 => fun i0 i1 s2 i3 i4 s5 k =>
 bif ByteArray.toList s2 == ByteArray.toList s5 then (k (i1 == i4)) else
 (k false)
noncomputable def brFn39 (m : Nat) (T : Tbl) (R : Type) (vs : List V) (k : V → List V → Option R) : Option R := match vs with
 | [.agg [.f (.lit (.int .i64 i0)), .f (.lit (.int .i64 i1)), .f (.lit (.string s2))], .iref [.int .i64, .int .i64, .str] [[F.lit (Value.int IntKind.i64 i3), F.lit (Value.int IntKind.i64 i4), F.lit (Value.string s5)]] 0 0] => Fn39 m i0 i1 s2 i3 i4 s5 (fun b6 => k (V.f (F.lit (Value.bool b6))) W1)
 | _ => T R 39 vs k
set_option maxRecDepth 100000 in
theorem evFn39 (m : Nat) (R : Type) (i0 i1 : Int) (s2 : ByteArray) (i3 i4 : Int) (s5 : ByteArray) (k : V → List V → Option R) : runK Tryz.prog H (T40 m) (L15 m) 39 (W9 i0 i1 s2 [[F.lit (Value.int IntKind.i64 i3), F.lit (Value.int IntKind.i64 i4), F.lit (Value.string s5)]]) k = Fn39 (m + 1) i0 i1 s2 i3 i4 s5 (fun b6 => k (V.f (F.lit (Value.bool b6))) W1) := by kernel_rfl
noncomputable def T41 (m : Nat) : Tbl := addT 39 (brFn39 m (T40 m)) (T40 m)
theorem okT41 (m : Nat) : TblOk Tryz.prog (T41 m) := addT_ok (okT40 m) fun R vs k x h => by
 unfold brFn39 at h
 split at h
 ·cases m with
  | zero => cases h
  | succ m => exact runK_some (okT40 m) hM (okL15 m) ((evFn39 m R _ _ _ _ _ _ k).trans h)
 ·exact okT40 m R 39 _ k x h

abbrev W42 (a0 a1 : Abs.Rows) (a2 a3 a4 : Int) : List V := [.f (.lst [.int .i64, .int .i64, .str] a0), .clos 39 [.iref [.int .i64, .int .i64, .str] a1 0 0], .f (.lit (.int .i64 a2)), .f (.lit (.int .i64 a3)), .f (.lit (.int .i64 a4)), .undef, .undef]
/-- - -/
noncomputable def Lp51_2v5_step {R : Type} (m : Nat) (kx0 : Int → Int → Option R) (kx1 : Int → Option R) (r0 : Abs.Rows) (i1 i2 : Int) (s3 : ByteArray) (i4 i5 : Int) (REC : Int → Option R) (i6 : Int) : Option R :=
 bif decide (i6 < i5) then (bif decide ((0 : Int) ≤ i6 ∧ i6 < (↑(List.length r0) : Int)) then (Fn39 m (fI r0 (Int.toNat i6) (0 : Nat)) (fI r0 (Int.toNat i6) (1 : Nat)) (fS r0 (Int.toNat i6) (2 : Nat)) i1 i2 s3 (fun b7 => bif b7 then (kx0 i6 i6) else
 (REC (IntKind.wrap IntKind.i64 (i6 + (1 : Int)))))) else
 (none)) else
 (kx1 i6)
noncomputable def Lp51_2v5 {R : Type} (m : Nat) (kx0 : Int → Int → Option R) (kx1 : Int → Option R) (r0 : Abs.Rows) (i1 i2 : Int) (s3 : ByteArray) (i4 i5 : Int) : Nat → Int → Option R
 | 0, _ => none
 | n + 1, i6 => Lp51_2v5_step m kx0 kx1 r0 i1 i2 s3 i4 i5 (Lp51_2v5 m kx0 kx1 r0 i1 i2 s3 i4 i5 n) i6
noncomputable def ELp51_2v5 (m : Nat) (R : Type) : Nat → List V → (Ex → List V → Option R) → Option R
 | 0, _, _ => none
 | n + 1, vs, k => match vs with
  | [.f (.lst [.int .i64, .int .i64, .str] r0), .clos 39 [.iref [.int .i64, .int .i64, .str] [[F.lit (Value.int IntKind.i64 i1), F.lit (Value.int IntKind.i64 i2), F.lit (Value.string s3)]] 0 0], .f (.lit (.int .i64 i4)), .f (.lit (.int .i64 i5)), .f (.lit (.int .i64 i6)), .undef, .undef] => Lp51_2v5_step m (fun i8 i9 => k Ex.ret (W42 r0 [[F.lit (Value.int IntKind.i64 i1), F.lit (Value.int IntKind.i64 i2), F.lit (Value.string s3)]] i8 i5 i9)) (fun i10 => k (Ex.exit (0 : Nat)) (W42 r0 [[F.lit (Value.int IntKind.i64 i1), F.lit (Value.int IntKind.i64 i2), F.lit (Value.string s3)]] i4 i5 i10)) r0 i1 i2 s3 i4 i5 (fun i6 => ELp51_2v5 m R n (W42 r0 [[F.lit (Value.int IntKind.i64 i1), F.lit (Value.int IntKind.i64 i2), F.lit (Value.string s3)]] i4 i5 i6) k) i6
  | _ => none
noncomputable def brLp51_2v5 (m : Nat) (L : LTbl) (R : Type) (vs : List V) (k : Ex → List V → Option R) : Option R := match vs with
 | [.f (.lst [.int .i64, .int .i64, .str] r0), .clos 39 [.iref [.int .i64, .int .i64, .str] [[F.lit (Value.int IntKind.i64 i1), F.lit (Value.int IntKind.i64 i2), F.lit (Value.string s3)]] 0 0], .f (.lit (.int .i64 i4)), .f (.lit (.int .i64 i5)), .f (.lit (.int .i64 i6)), .undef, .undef] => Lp51_2v5 m (fun i8 i9 => k Ex.ret (W42 r0 [[F.lit (Value.int IntKind.i64 i1), F.lit (Value.int IntKind.i64 i2), F.lit (Value.string s3)]] i8 i5 i9)) (fun i10 => k (Ex.exit (0 : Nat)) (W42 r0 [[F.lit (Value.int IntKind.i64 i1), F.lit (Value.int IntKind.i64 i2), F.lit (Value.string s3)]] i4 i5 i10)) r0 i1 i2 s3 i4 i5 m i6
 | _ => L R 51 2 vs k
set_option maxRecDepth 100000 in
theorem stLp51_2v5 (m n : Nat) (R : Type) (r0 : Abs.Rows) (i1 i2 : Int) (s3 : ByteArray) (i4 i5 i6 : Int) (k : Ex → List V → Option R) : codeK Tryz.prog H (T41 m) 51 (L15 m) 3 (loopBody Tryz.prog 51 2) (mkEnv [0, 1, 4, 7, 8, 19, 20] (W42 r0 [[F.lit (Value.int IntKind.i64 i1), F.lit (Value.int IntKind.i64 i2), F.lit (Value.string s3)]] i4 i5 i6) 0 (H.len 51)) (fun e env' => match e with | .normal => ELp51_2v5 m R n (vals [0, 1, 4, 7, 8, 19, 20] env') k | e => k e (vals [0, 1, 4, 7, 8, 19, 20] env')) = Lp51_2v5_step m (fun i8 i9 => k Ex.ret (W42 r0 [[F.lit (Value.int IntKind.i64 i1), F.lit (Value.int IntKind.i64 i2), F.lit (Value.string s3)]] i8 i5 i9)) (fun i10 => k (Ex.exit (0 : Nat)) (W42 r0 [[F.lit (Value.int IntKind.i64 i1), F.lit (Value.int IntKind.i64 i2), F.lit (Value.string s3)]] i4 i5 i10)) r0 i1 i2 s3 i4 i5 (fun i6 => ELp51_2v5 m R n (W42 r0 [[F.lit (Value.int IntKind.i64 i1), F.lit (Value.int IntKind.i64 i2), F.lit (Value.string s3)]] i4 i5 i6) k) i6 := by kernel_rfl
theorem eqLp51_2v5 (m : Nat) (R : Type) (r0 : Abs.Rows) (i1 i2 : Int) (s3 : ByteArray) (i4 i5 : Int) (k : Ex → List V → Option R) : ∀ (n : Nat) (i6 : Int), ELp51_2v5 m R n (W42 r0 [[F.lit (Value.int IntKind.i64 i1), F.lit (Value.int IntKind.i64 i2), F.lit (Value.string s3)]] i4 i5 i6) k = Lp51_2v5 m (fun i8 i9 => k Ex.ret (W42 r0 [[F.lit (Value.int IntKind.i64 i1), F.lit (Value.int IntKind.i64 i2), F.lit (Value.string s3)]] i8 i5 i9)) (fun i10 => k (Ex.exit (0 : Nat)) (W42 r0 [[F.lit (Value.int IntKind.i64 i1), F.lit (Value.int IntKind.i64 i2), F.lit (Value.string s3)]] i4 i5 i10)) r0 i1 i2 s3 i4 i5 n i6
 | 0, _ => rfl
 | n + 1, i6 => by
  simp only [ELp51_2v5, Lp51_2v5, W42]
  congr 1
  funext i6
  exact eqLp51_2v5 m R r0 i1 i2 s3 i4 i5 k n i6
noncomputable def L16 (m : Nat) : LTbl := addB 51 2 (brLp51_2v5 m (L15 m)) (L15 m)
theorem okL16 (m : Nat) : LTOk Tryz.prog H (L16 m) := addB_ok (okT41 m) hM (okL15 m) (l := [0, 1, 4, 7, 8, 19, 20]) (by kernel_rfl) (by kernel_rfl) m (fun R n vs k => ELp51_2v5 m R n vs k) (fun R vs k => rfl) (fun R n vs k x h => by
   simp only [ELp51_2v5] at h
   split at h
   ·exact (stLp51_2v5 m n R _ _ _ _ _ _ _ k).trans h
   ·cases h) fun R vs k x h => by
  unfold brLp51_2v5 at h
  split at h
  ·exact .inl ((eqLp51_2v5 m R _ _ _ _ _ _ k m _).trans h)
  ·exact .inr h

abbrev W43 (a0 a1 : Abs.Rows) : List V := [.f (.lst [.int .i64, .int .i64, .str] a0), .clos 39 [.iref [.int .i64, .int .i64, .str] a1 0 0]]
/-- - -/
noncomputable def Fn51v5 {R : Type} (m : Nat) : Abs.Rows → Int → Int → ByteArray → (Int → Option R) → Option R := match m with
 | 0 => fun _ _ _ _ _ => none
 | m + 1 => fun r0 i1 i2 s3 k =>
 Lp51_2v5 m (fun i4 i5 => k i4) (fun i6 => k ((-1 : Int))) r0 i1 i2 s3 ((0 : Int)) ((↑(List.length r0) : Int)) m ((0 : Int))
noncomputable def brFn51v5 (m : Nat) (T : Tbl) (R : Type) (vs : List V) (k : V → List V → Option R) : Option R := match vs with
 | [.f (.lst [.int .i64, .int .i64, .str] r0), .clos 39 [.iref [.int .i64, .int .i64, .str] [[F.lit (Value.int IntKind.i64 i1), F.lit (Value.int IntKind.i64 i2), F.lit (Value.string s3)]] 0 0]] => Fn51v5 m r0 i1 i2 s3 (fun i7 => k (V.f (F.lit (Value.int IntKind.i64 i7))) W1)
 | _ => T R 51 vs k
set_option maxRecDepth 100000 in
theorem evFn51v5 (m : Nat) (R : Type) (r0 : Abs.Rows) (i1 i2 : Int) (s3 : ByteArray) (k : V → List V → Option R) : runK Tryz.prog H (T41 m) (L16 m) 51 (W43 r0 [[F.lit (Value.int IntKind.i64 i1), F.lit (Value.int IntKind.i64 i2), F.lit (Value.string s3)]]) k = Fn51v5 (m + 1) r0 i1 i2 s3 (fun i7 => k (V.f (F.lit (Value.int IntKind.i64 i7))) W1) := by kernel_rfl
noncomputable def T42 (m : Nat) : Tbl := addT 51 (brFn51v5 m (T41 m)) (T41 m)
theorem okT42 (m : Nat) : TblOk Tryz.prog (T42 m) := addT_ok (okT41 m) fun R vs k x h => by
 unfold brFn51v5 at h
 split at h
 ·cases m with
  | zero => cases h
  | succ m => exact runK_some (okT41 m) hM (okL16 m) ((evFn51v5 m R _ _ _ _ k).trans h)
 ·exact okT41 m R 51 _ k x h

/-- - -/
noncomputable def Fn24v5 {R : Type} (m : Nat) : Abs.Rows → Int → Int → ByteArray → (Bool → Option R) → Option R := match m with
 | 0 => fun _ _ _ _ _ => none
 | m + 1 => fun r0 i1 i2 s3 k =>
 Fn51v5 m r0 i1 i2 s3 (fun i4 => k (decide (i4 ≥ (0 : Int))))
noncomputable def brFn24v5 (m : Nat) (T : Tbl) (R : Type) (vs : List V) (k : V → List V → Option R) : Option R := match vs with
 | [.f (.lst [.int .i64, .int .i64, .str] r0), .clos 39 [.iref [.int .i64, .int .i64, .str] [[F.lit (Value.int IntKind.i64 i1), F.lit (Value.int IntKind.i64 i2), F.lit (Value.string s3)]] 0 0]] => Fn24v5 m r0 i1 i2 s3 (fun b5 => k (V.f (F.lit (Value.bool b5))) W1)
 | _ => T R 24 vs k
set_option maxRecDepth 100000 in
theorem evFn24v5 (m : Nat) (R : Type) (r0 : Abs.Rows) (i1 i2 : Int) (s3 : ByteArray) (k : V → List V → Option R) : runK Tryz.prog H (T42 m) (L16 m) 24 (W43 r0 [[F.lit (Value.int IntKind.i64 i1), F.lit (Value.int IntKind.i64 i2), F.lit (Value.string s3)]]) k = Fn24v5 (m + 1) r0 i1 i2 s3 (fun b5 => k (V.f (F.lit (Value.bool b5))) W1) := by kernel_rfl
noncomputable def T43 (m : Nat) : Tbl := addT 24 (brFn24v5 m (T42 m)) (T42 m)
theorem okT43 (m : Nat) : TblOk Tryz.prog (T43 m) := addT_ok (okT42 m) fun R vs k x h => by
 unfold brFn24v5 at h
 split at h
 ·cases m with
  | zero => cases h
  | succ m => exact runK_some (okT42 m) hM (okL16 m) ((evFn24v5 m R _ _ _ _ k).trans h)
 ·exact okT42 m R 24 _ k x h

abbrev W44 (a0 a1 : Int) (a2 : ByteArray) (a3 : Abs.Rows) : List V := [.agg [.f (.lit (.int .i64 a0)), .f (.lit (.int .i64 a1)), .f (.lit (.string a2))], .iref [.lst [.int .i64, .int .i64, .str]] a3 0 0]
/-- - -/
noncomputable def Fn38 {R : Type} (m : Nat) : Int → Int → ByteArray → Abs.Rows → (Bool → Option R) → Option R := match m with
 | 0 => fun _ _ _ _ _ => none
 | m + 1 => fun i0 i1 s2 r3 k =>
 Fn24v5 m r3 i0 i1 s2 (fun b4 => k (!b4))
noncomputable def brFn38 (m : Nat) (T : Tbl) (R : Type) (vs : List V) (k : V → List V → Option R) : Option R := match vs with
 | [.agg [.f (.lit (.int .i64 i0)), .f (.lit (.int .i64 i1)), .f (.lit (.string s2))], .iref [.lst [.int .i64, .int .i64, .str]] [[F.lst [LT.int IntKind.i64, LT.int IntKind.i64, LT.str] r3]] 0 0] => Fn38 m i0 i1 s2 r3 (fun b5 => k (V.f (F.lit (Value.bool b5))) W1)
 | _ => T R 38 vs k
set_option maxRecDepth 100000 in
theorem evFn38 (m : Nat) (R : Type) (i0 i1 : Int) (s2 : ByteArray) (r3 : Abs.Rows) (k : V → List V → Option R) : runK Tryz.prog H (T43 m) (L16 m) 38 (W44 i0 i1 s2 [[F.lst [LT.int IntKind.i64, LT.int IntKind.i64, LT.str] r3]]) k = Fn38 (m + 1) i0 i1 s2 r3 (fun b5 => k (V.f (F.lit (Value.bool b5))) W1) := by kernel_rfl
noncomputable def T44 (m : Nat) : Tbl := addT 38 (brFn38 m (T43 m)) (T43 m)
theorem okT44 (m : Nat) : TblOk Tryz.prog (T44 m) := addT_ok (okT43 m) fun R vs k x h => by
 unfold brFn38 at h
 split at h
 ·cases m with
  | zero => cases h
  | succ m => exact runK_some (okT43 m) hM (okL16 m) ((evFn38 m R _ _ _ _ k).trans h)
 ·exact okT43 m R 38 _ k x h

abbrev W45 (a0 a1 : Abs.Rows) (a2 a3 a4 : Int) : List V := [.bor [.int .i64, .int .i64, .str] a0, .clos 38 [.iref [.lst [.int .i64, .int .i64, .str]] a1 0 0], .f (.lit (.int .i64 a2)), .f (.lit (.int .i64 a3)), .f (.lit (.int .i64 a4)), .undef, .undef]
abbrev K2Lp51_2v6 {R : Type} (k : Ex → List V → Option R) (r0 r1 : Abs.Rows) (i2 i3 : Int) : Int → Option R := fun i4 => k (Ex.exit (0 : Nat)) (W45 r0 [[F.lst [LT.int IntKind.i64, LT.int IntKind.i64, LT.str] r1]] i2 i3 i4)
abbrev K1Lp51_2v6 {R : Type} (k : Ex → List V → Option R) (r0 r1 : Abs.Rows) (i3 : Int) : Int → Int → Option R := fun i5 i6 => k Ex.ret (W45 r0 [[F.lst [LT.int IntKind.i64, LT.int IntKind.i64, LT.str] r1]] i5 i3 i6)
/-- - -/
noncomputable def Lp51_2v6_step {R : Type} (m : Nat) (kx0 : Int → Int → Option R) (kx1 : Int → Option R) (r0 r1 : Abs.Rows) (i2 i3 : Int) (REC : Int → Option R) (i7 : Int) : Option R :=
 bif decide (i7 < i3) then (bif decide ((0 : Int) ≤ i7 ∧ i7 < (↑(List.length r0) : Int)) then (Fn38 m (fI r0 (Int.toNat i7) (0 : Nat)) (fI r0 (Int.toNat i7) (1 : Nat)) (fS r0 (Int.toNat i7) (2 : Nat)) r1 (fun b8 => bif b8 then (kx0 i7 i7) else
 (REC (IntKind.wrap IntKind.i64 (i7 + (1 : Int)))))) else
 (none)) else
 (kx1 i7)
noncomputable def Lp51_2v6 {R : Type} (m : Nat) (kx0 : Int → Int → Option R) (kx1 : Int → Option R) (r0 r1 : Abs.Rows) (i2 i3 : Int) : Nat → Int → Option R
 | 0, _ => none
 | n + 1, i7 => Lp51_2v6_step m kx0 kx1 r0 r1 i2 i3 (Lp51_2v6 m kx0 kx1 r0 r1 i2 i3 n) i7
noncomputable def ELp51_2v6 (m : Nat) (R : Type) : Nat → List V → (Ex → List V → Option R) → Option R
 | 0, _, _ => none
 | n + 1, vs, k => match vs with
  | [.bor [.int .i64, .int .i64, .str] r0, .clos 38 [.iref [.lst [.int .i64, .int .i64, .str]] [[F.lst [LT.int IntKind.i64, LT.int IntKind.i64, LT.str] r1]] 0 0], .f (.lit (.int .i64 i2)), .f (.lit (.int .i64 i3)), .f (.lit (.int .i64 i7)), .undef, .undef] => Lp51_2v6_step m (K1Lp51_2v6 k r0 r1 i3) (K2Lp51_2v6 k r0 r1 i2 i3) r0 r1 i2 i3 (fun i7 => ELp51_2v6 m R n (W45 r0 [[F.lst [LT.int IntKind.i64, LT.int IntKind.i64, LT.str] r1]] i2 i3 i7) k) i7
  | _ => none
noncomputable def brLp51_2v6 (m : Nat) (L : LTbl) (R : Type) (vs : List V) (k : Ex → List V → Option R) : Option R := match vs with
 | [.bor [.int .i64, .int .i64, .str] r0, .clos 38 [.iref [.lst [.int .i64, .int .i64, .str]] [[F.lst [LT.int IntKind.i64, LT.int IntKind.i64, LT.str] r1]] 0 0], .f (.lit (.int .i64 i2)), .f (.lit (.int .i64 i3)), .f (.lit (.int .i64 i7)), .undef, .undef] => Lp51_2v6 m (K1Lp51_2v6 k r0 r1 i3) (K2Lp51_2v6 k r0 r1 i2 i3) r0 r1 i2 i3 m i7
 | _ => L R 51 2 vs k
set_option maxRecDepth 100000 in
theorem stLp51_2v6 (m n : Nat) (R : Type) (r0 r1 : Abs.Rows) (i2 i3 i7 : Int) (k : Ex → List V → Option R) : codeK Tryz.prog H (T44 m) 51 (L16 m) 3 (loopBody Tryz.prog 51 2) (mkEnv [0, 1, 4, 7, 8, 19, 20] (W45 r0 [[F.lst [LT.int IntKind.i64, LT.int IntKind.i64, LT.str] r1]] i2 i3 i7) 0 (H.len 51)) (fun e env' => match e with | .normal => ELp51_2v6 m R n (vals [0, 1, 4, 7, 8, 19, 20] env') k | e => k e (vals [0, 1, 4, 7, 8, 19, 20] env')) = Lp51_2v6_step m (K1Lp51_2v6 k r0 r1 i3) (K2Lp51_2v6 k r0 r1 i2 i3) r0 r1 i2 i3 (fun i7 => ELp51_2v6 m R n (W45 r0 [[F.lst [LT.int IntKind.i64, LT.int IntKind.i64, LT.str] r1]] i2 i3 i7) k) i7 := by kernel_rfl
theorem eqLp51_2v6 (m : Nat) (R : Type) (r0 r1 : Abs.Rows) (i2 i3 : Int) (k : Ex → List V → Option R) : ∀ (n : Nat) (i7 : Int), ELp51_2v6 m R n (W45 r0 [[F.lst [LT.int IntKind.i64, LT.int IntKind.i64, LT.str] r1]] i2 i3 i7) k = Lp51_2v6 m (K1Lp51_2v6 k r0 r1 i3) (K2Lp51_2v6 k r0 r1 i2 i3) r0 r1 i2 i3 n i7
 | 0, _ => rfl
 | n + 1, i7 => by
  simp only [ELp51_2v6, Lp51_2v6, W45]
  congr 1
  funext i7
  exact eqLp51_2v6 m R r0 r1 i2 i3 k n i7
noncomputable def L17 (m : Nat) : LTbl := addB 51 2 (brLp51_2v6 m (L16 m)) (L16 m)
theorem okL17 (m : Nat) : LTOk Tryz.prog H (L17 m) := addB_ok (okT44 m) hM (okL16 m) (l := [0, 1, 4, 7, 8, 19, 20]) (by kernel_rfl) (by kernel_rfl) m (fun R n vs k => ELp51_2v6 m R n vs k) (fun R vs k => rfl) (fun R n vs k x h => by
   simp only [ELp51_2v6] at h
   split at h
   ·exact (stLp51_2v6 m n R _ _ _ _ _ k).trans h
   ·cases h) fun R vs k x h => by
  unfold brLp51_2v6 at h
  split at h
  ·exact .inl ((eqLp51_2v6 m R _ _ _ _ k m _).trans h)
  ·exact .inr h

abbrev W46 (a0 a1 : Abs.Rows) : List V := [.bor [.int .i64, .int .i64, .str] a0, .clos 38 [.iref [.lst [.int .i64, .int .i64, .str]] a1 0 0]]
/-- - -/
noncomputable def Fn51v6 {R : Type} (m : Nat) : Abs.Rows → Abs.Rows → (Int → Option R) → Option R := match m with
 | 0 => fun _ _ _ => none
 | m + 1 => fun r0 r1 k =>
 Lp51_2v6 m (fun i2 i3 => k i2) (fun i4 => k ((-1 : Int))) r0 r1 ((0 : Int)) ((↑(List.length r0) : Int)) m ((0 : Int))
noncomputable def brFn51v6 (m : Nat) (T : Tbl) (R : Type) (vs : List V) (k : V → List V → Option R) : Option R := match vs with
 | [.bor [.int .i64, .int .i64, .str] r0, .clos 38 [.iref [.lst [.int .i64, .int .i64, .str]] [[F.lst [LT.int IntKind.i64, LT.int IntKind.i64, LT.str] r1]] 0 0]] => Fn51v6 m r0 r1 (fun i5 => k (V.f (F.lit (Value.int IntKind.i64 i5))) W1)
 | _ => T R 51 vs k
set_option maxRecDepth 100000 in
theorem evFn51v6 (m : Nat) (R : Type) (r0 r1 : Abs.Rows) (k : V → List V → Option R) : runK Tryz.prog H (T44 m) (L17 m) 51 (W46 r0 [[F.lst [LT.int IntKind.i64, LT.int IntKind.i64, LT.str] r1]]) k = Fn51v6 (m + 1) r0 r1 (fun i5 => k (V.f (F.lit (Value.int IntKind.i64 i5))) W1) := by kernel_rfl
noncomputable def T45 (m : Nat) : Tbl := addT 51 (brFn51v6 m (T44 m)) (T44 m)
theorem okT45 (m : Nat) : TblOk Tryz.prog (T45 m) := addT_ok (okT44 m) fun R vs k x h => by
 unfold brFn51v6 at h
 split at h
 ·cases m with
  | zero => cases h
  | succ m => exact runK_some (okT44 m) hM (okL17 m) ((evFn51v6 m R _ _ k).trans h)
 ·exact okT44 m R 51 _ k x h

abbrev W47 (a0 a1 : Abs.Rows) (a2 a3 : Int) : List V := [.own [.int .i64, .int .i64, .str] a0, .clos 38 [.iref [.lst [.int .i64, .int .i64, .str]] a1 0 0], .f (.lit (.int .i64 a2)), .f (.lit (.int .i64 a3)), .undef, .undef]
abbrev K1Lp36_6 {R : Type} (k : Ex → List V → Option R) (r0 : Abs.Rows) : Abs.Rows → Int → Int → Option R := fun r1 i2 i3 => k (Ex.exit (0 : Nat)) (W47 r1 [[F.lst [LT.int IntKind.i64, LT.int IntKind.i64, LT.str] r0]] i2 i3)
/-- - -/
noncomputable def Lp36_6_step {R : Type} (m : Nat) (kx0 : Abs.Rows → Int → Int → Option R) (r0 : Abs.Rows) (REC : Abs.Rows → Int → Int → Option R) (r4 : Abs.Rows) (i5 i6 : Int) : Option R :=
 bif decide (i6 < (↑(List.length r4) : Int)) then (bif decide ((0 : Int) ≤ i6 ∧ i6 < (↑(List.length r4) : Int)) then (Fn38 m (fI r4 (Int.toNat i6) (0 : Nat)) (fI r4 (Int.toNat i6) (1 : Nat)) (fS r4 (Int.toNat i6) (2 : Nat)) r0 (fun b7 => bif !b7 then (bif decide ((0 : Int) ≤ i5 ∧ i5 < (↑(List.length r4) : Int)) then (REC (stR [LT.int IntKind.i64, LT.int IntKind.i64, LT.str] r4 (Int.toNat i5) (0 : Nat) [F.lit (Value.int IntKind.i64 (fI r4 (Int.toNat i6) (0 : Nat))), F.lit (Value.int IntKind.i64 (fI r4 (Int.toNat i6) (1 : Nat))), F.lit (Value.string (fS r4 (Int.toNat i6) (2 : Nat)))]) (IntKind.wrap IntKind.i64 (i5 + (1 : Int))) (IntKind.wrap IntKind.i64 (i6 + (1 : Int)))) else
 (none)) else
 (REC r4 i5 (IntKind.wrap IntKind.i64 (i6 + (1 : Int)))))) else
 (none)) else
 (kx0 r4 i5 i6)
noncomputable def Lp36_6 {R : Type} (m : Nat) (kx0 : Abs.Rows → Int → Int → Option R) (r0 : Abs.Rows) : Nat → Abs.Rows → Int → Int → Option R
 | 0, _, _, _ => none
 | n + 1, r4, i5, i6 => Lp36_6_step m kx0 r0 (Lp36_6 m kx0 r0 n) r4 i5 i6
noncomputable def ELp36_6 (m : Nat) (R : Type) : Nat → List V → (Ex → List V → Option R) → Option R
 | 0, _, _ => none
 | n + 1, vs, k => match vs with
  | [.own [.int .i64, .int .i64, .str] r4, .clos 38 [.iref [.lst [.int .i64, .int .i64, .str]] [[F.lst [LT.int IntKind.i64, LT.int IntKind.i64, LT.str] r0]] 0 0], .f (.lit (.int .i64 i5)), .f (.lit (.int .i64 i6)), .undef, .undef] => Lp36_6_step m (K1Lp36_6 k r0) r0 (fun r4 i5 i6 => ELp36_6 m R n (W47 r4 [[F.lst [LT.int IntKind.i64, LT.int IntKind.i64, LT.str] r0]] i5 i6) k) r4 i5 i6
  | _ => none
noncomputable def brLp36_6 (m : Nat) (L : LTbl) (R : Type) (vs : List V) (k : Ex → List V → Option R) : Option R := match vs with
 | [.own [.int .i64, .int .i64, .str] r4, .clos 38 [.iref [.lst [.int .i64, .int .i64, .str]] [[F.lst [LT.int IntKind.i64, LT.int IntKind.i64, LT.str] r0]] 0 0], .f (.lit (.int .i64 i5)), .f (.lit (.int .i64 i6)), .undef, .undef] => Lp36_6 m (K1Lp36_6 k r0) r0 m r4 i5 i6
 | _ => L R 36 6 vs k
set_option maxRecDepth 100000 in
theorem stLp36_6 (m n : Nat) (R : Type) (r4 r0 : Abs.Rows) (i5 i6 : Int) (k : Ex → List V → Option R) : codeK Tryz.prog H (T45 m) 36 (L17 m) 7 (loopBody Tryz.prog 36 6) (mkEnv [0, 1, 5, 6, 42, 43] (W47 r4 [[F.lst [LT.int IntKind.i64, LT.int IntKind.i64, LT.str] r0]] i5 i6) 0 (H.len 36)) (fun e env' => match e with | .normal => ELp36_6 m R n (vals [0, 1, 5, 6, 42, 43] env') k | e => k e (vals [0, 1, 5, 6, 42, 43] env')) = Lp36_6_step m (K1Lp36_6 k r0) r0 (fun r4 i5 i6 => ELp36_6 m R n (W47 r4 [[F.lst [LT.int IntKind.i64, LT.int IntKind.i64, LT.str] r0]] i5 i6) k) r4 i5 i6 := by kernel_rfl
theorem eqLp36_6 (m : Nat) (R : Type) (r0 : Abs.Rows) (k : Ex → List V → Option R) : ∀ (n : Nat) (r4 : Abs.Rows) (i5 i6 : Int), ELp36_6 m R n (W47 r4 [[F.lst [LT.int IntKind.i64, LT.int IntKind.i64, LT.str] r0]] i5 i6) k = Lp36_6 m (K1Lp36_6 k r0) r0 n r4 i5 i6
 | 0, _, _, _ => rfl
 | n + 1, r4, i5, i6 => by
  simp only [ELp36_6, Lp36_6, W47]
  congr 1
  funext r4 i5 i6
  exact eqLp36_6 m R r0 k n r4 i5 i6
noncomputable def L18 (m : Nat) : LTbl := addB 36 6 (brLp36_6 m (L17 m)) (L17 m)
theorem okL18 (m : Nat) : LTOk Tryz.prog H (L18 m) := addB_ok (okT45 m) hM (okL17 m) (l := [0, 1, 5, 6, 42, 43]) (by kernel_rfl) (by kernel_rfl) m (fun R n vs k => ELp36_6 m R n vs k) (fun R vs k => rfl) (fun R n vs k x h => by
   simp only [ELp36_6] at h
   split at h
   ·exact (stLp36_6 m n R _ _ _ _ k).trans h
   ·cases h) fun R vs k x h => by
  unfold brLp36_6 at h
  split at h
  ·exact .inl ((eqLp36_6 m R _ k m _ _ _).trans h)
  ·exact .inr h

abbrev W48 (a0 a1 : Abs.Rows) : List V := [.own [.int .i64, .int .i64, .str] a0, .clos 38 [.iref [.lst [.int .i64, .int .i64, .str]] a1 0 0]]
/-- - -/
noncomputable def Fn36 {R : Type} (m : Nat) : Abs.Rows → Abs.Rows → (Abs.Rows → Option R) → Option R := match m with
 | 0 => fun _ _ _ => none
 | m + 1 => fun r0 r1 k =>
 Fn51v6 m r0 r1 (fun i2 => bif i2 == (-1 : Int) then (k r0) else
 (Lp36_6 m (fun r3 i4 i5 => bif decide ((0 : Int) ≤ i4 ∧ i4 ≤ (↑(List.length r3) : Int)) then (bif decide ((0 : Int) ≤ i4 ∧ i4 ≤ (↑(List.length (List.take (Int.toNat i4) r3 ++ (List.replicate (List.length r3 - Int.toNat i4) [F.lit (Value.int IntKind.i64 (0 : Int)), F.lit (Value.int IntKind.i64 (0 : Int)), F.lit (Value.string { data := #[] })] ++ List.drop (Int.toNat i4 + (List.length r3 - Int.toNat i4)) r3))) : Int)) then (letV (List.take (Int.toNat i4) r3 ++ (List.replicate (List.length r3 - Int.toNat i4) [F.lit (Value.int IntKind.i64 (0 : Int)), F.lit (Value.int IntKind.i64 (0 : Int)), F.lit (Value.string { data := #[] })] ++ List.drop (Int.toNat i4 + (List.length r3 - Int.toNat i4)) r3)) (fun r6 => k (List.take (Int.toNat i4 - (0 : Nat)) (List.drop (0 : Nat) r6)))) else
 (none)) else
 (none)) r1 m r0 i2 (IntKind.wrap IntKind.i64 (i2 + (1 : Int)))))
noncomputable def brFn36 (m : Nat) (T : Tbl) (R : Type) (vs : List V) (k : V → List V → Option R) : Option R := match vs with
 | [.own [.int .i64, .int .i64, .str] r0, .clos 38 [.iref [.lst [.int .i64, .int .i64, .str]] [[F.lst [LT.int IntKind.i64, LT.int IntKind.i64, LT.str] r1]] 0 0]] => Fn36 m r0 r1 (fun r7 => k (V.own [LT.int IntKind.i64, LT.int IntKind.i64, LT.str] r7) W1)
 | _ => T R 36 vs k
set_option maxRecDepth 100000 in
theorem evFn36 (m : Nat) (R : Type) (r0 r1 : Abs.Rows) (k : V → List V → Option R) : runK Tryz.prog H (T45 m) (L18 m) 36 (W48 r0 [[F.lst [LT.int IntKind.i64, LT.int IntKind.i64, LT.str] r1]]) k = Fn36 (m + 1) r0 r1 (fun r7 => k (V.own [LT.int IntKind.i64, LT.int IntKind.i64, LT.str] r7) W1) := by kernel_rfl
noncomputable def T46 (m : Nat) : Tbl := addT 36 (brFn36 m (T45 m)) (T45 m)
theorem okT46 (m : Nat) : TblOk Tryz.prog (T46 m) := addT_ok (okT45 m) fun R vs k x h => by
 unfold brFn36 at h
 split at h
 ·cases m with
  | zero => cases h
  | succ m => exact runK_some (okT45 m) hM (okL18 m) ((evFn36 m R _ _ k).trans h)
 ·exact okT45 m R 36 _ k x h

abbrev W49 (a0 a1 : Abs.Rows) : List V := [.bor [.int .i64, .int .i64, .str] a0, .f (.lst [.int .i64, .int .i64, .str] a1)]
/-- - -/
noncomputable def Fn11 {R : Type} (m : Nat) : Abs.Rows → Abs.Rows → (Abs.Rows → Option R) → Option R := match m with
 | 0 => fun _ _ _ => none
 | m + 1 => fun r0 r1 k =>
 bif lenOk r0 then (Fn36 m r0 r1 (fun r2 => k r2)) else
 (none)
noncomputable def brFn11 (m : Nat) (T : Tbl) (R : Type) (vs : List V) (k : V → List V → Option R) : Option R := match vs with
 | [.bor [.int .i64, .int .i64, .str] r0, .f (.lst [.int .i64, .int .i64, .str] r1)] => Fn11 m r0 r1 (fun r3 => k (V.own [LT.int IntKind.i64, LT.int IntKind.i64, LT.str] r3) W1)
 | _ => T R 11 vs k
set_option maxRecDepth 100000 in
theorem evFn11 (m : Nat) (R : Type) (r0 r1 : Abs.Rows) (k : V → List V → Option R) : runK Tryz.prog H (T46 m) (L18 m) 11 (W49 r0 r1) k = Fn11 (m + 1) r0 r1 (fun r3 => k (V.own [LT.int IntKind.i64, LT.int IntKind.i64, LT.str] r3) W1) := by kernel_rfl
noncomputable def T47 (m : Nat) : Tbl := addT 11 (brFn11 m (T46 m)) (T46 m)
theorem okT47 (m : Nat) : TblOk Tryz.prog (T47 m) := addT_ok (okT46 m) fun R vs k x h => by
 unfold brFn11 at h
 split at h
 ·cases m with
  | zero => cases h
  | succ m => exact runK_some (okT46 m) hM (okL18 m) ((evFn11 m R _ _ k).trans h)
 ·exact okT46 m R 11 _ k x h

abbrev W50 (a0 : Bool) (a1 : Int) : List V := [.f (.lit (.bool a0)), .f (.lit (.int .i64 a1))]
/-- - -/
noncomputable def Fn12 {R : Type} (m : Nat) : Bool → Int → (Int → Option R) → Option R := match m with
 | 0 => fun _ _ _ => none
 | m + 1 => fun b0 i1 k =>
 bif b0 then (k i1) else
 (k ((0 : Int)))
noncomputable def brFn12 (m : Nat) (T : Tbl) (R : Type) (vs : List V) (k : V → List V → Option R) : Option R := match vs with
 | [.f (.lit (.bool b0)), .f (.lit (.int .i64 i1))] => Fn12 m b0 i1 (fun i2 => k (V.f (F.lit (Value.int IntKind.i64 i2))) W1)
 | _ => T R 12 vs k
set_option maxRecDepth 100000 in
theorem evFn12 (m : Nat) (R : Type) (b0 : Bool) (i1 : Int) (k : V → List V → Option R) : runK Tryz.prog H (T47 m) (L18 m) 12 (W50 b0 i1) k = Fn12 (m + 1) b0 i1 (fun i2 => k (V.f (F.lit (Value.int IntKind.i64 i2))) W1) := by kernel_rfl
noncomputable def T48 (m : Nat) : Tbl := addT 12 (brFn12 m (T47 m)) (T47 m)
theorem okT48 (m : Nat) : TblOk Tryz.prog (T48 m) := addT_ok (okT47 m) fun R vs k x h => by
 unfold brFn12 at h
 split at h
 ·cases m with
  | zero => cases h
  | succ m => exact runK_some (okT47 m) hM (okL18 m) ((evFn12 m R _ _ k).trans h)
 ·exact okT47 m R 12 _ k x h

abbrev W51 (a0 : Abs.Rows) (a1 : Bool) (a2 : Abs.Rows) (a3 : Nat) (a4 a5 : Int) : List V := [.own [.str] a0, .f (.lit (.bool a1)), .own [.str] a2, .undef, .lent { slot := (4 : Nat), leaf := none } 1 a3, .f (.lit (.int .i64 a4)), .f (.lit (.int .i64 a5)), .undef]
/-- - -/
noncomputable def Lp42_3_step {R : Type} (m : Nat) (kx0 : Abs.Rows → Bool → Int → Option R) (kx1 : Int → Option R) (r0 : Abs.Rows) (b1 : Bool) (r2 : Abs.Rows) (n3 : Nat) (i4 : Int) (REC : Int → Option R) (i5 : Int) : Option R :=
 bif decide (i5 < i4) then (bif decide ((0 : Int) ≤ i5 ∧ i5 < (↑n3 : Int)) then (bif ByteArray.toList (fS r2 (Int.toNat i5) (0 : Nat)) == ByteArray.toList { data := #[] } then (kx0 rows0 false i5) else
 (REC (IntKind.wrap IntKind.i64 (i5 + (1 : Int))))) else
 (none)) else
 (kx1 i5)
noncomputable def Lp42_3 {R : Type} (m : Nat) (kx0 : Abs.Rows → Bool → Int → Option R) (kx1 : Int → Option R) (r0 : Abs.Rows) (b1 : Bool) (r2 : Abs.Rows) (n3 : Nat) (i4 : Int) : Nat → Int → Option R
 | 0, _ => none
 | n + 1, i5 => Lp42_3_step m kx0 kx1 r0 b1 r2 n3 i4 (Lp42_3 m kx0 kx1 r0 b1 r2 n3 i4 n) i5
noncomputable def ELp42_3 (m : Nat) (R : Type) : Nat → List V → (Ex → List V → Option R) → Option R
 | 0, _, _ => none
 | n + 1, vs, k => match vs with
  | [.own [.str] r0, .f (.lit (.bool b1)), .own [.str] r2, .undef, .lent { slot := (4 : Nat), leaf := none } 1 n3, .f (.lit (.int .i64 i4)), .f (.lit (.int .i64 i5)), .undef] => Lp42_3_step m (fun r6 b7 i8 => k Ex.ret (W51 r6 b7 r2 n3 i4 i8)) (fun i9 => k (Ex.exit (0 : Nat)) (W51 r0 b1 r2 n3 i4 i9)) r0 b1 r2 n3 i4 (fun i5 => ELp42_3 m R n (W51 r0 b1 r2 n3 i4 i5) k) i5
  | _ => none
noncomputable def brLp42_3 (m : Nat) (L : LTbl) (R : Type) (vs : List V) (k : Ex → List V → Option R) : Option R := match vs with
 | [.own [.str] r0, .f (.lit (.bool b1)), .own [.str] r2, .undef, .lent { slot := (4 : Nat), leaf := none } 1 n3, .f (.lit (.int .i64 i4)), .f (.lit (.int .i64 i5)), .undef] => Lp42_3 m (fun r6 b7 i8 => k Ex.ret (W51 r6 b7 r2 n3 i4 i8)) (fun i9 => k (Ex.exit (0 : Nat)) (W51 r0 b1 r2 n3 i4 i9)) r0 b1 r2 n3 i4 m i5
 | _ => L R 42 3 vs k
set_option maxRecDepth 100000 in
theorem stLp42_3 (m n : Nat) (R : Type) (r0 : Abs.Rows) (b1 : Bool) (r2 : Abs.Rows) (n3 : Nat) (i4 i5 : Int) (k : Ex → List V → Option R) : codeK Tryz.prog H (T48 m) 42 (L18 m) 4 (loopBody Tryz.prog 42 3) (mkEnv [2, 3, 4, 8, 9, 10, 11, 19] (W51 r0 b1 r2 n3 i4 i5) 0 (H.len 42)) (fun e env' => match e with | .normal => ELp42_3 m R n (vals [2, 3, 4, 8, 9, 10, 11, 19] env') k | e => k e (vals [2, 3, 4, 8, 9, 10, 11, 19] env')) = Lp42_3_step m (fun r6 b7 i8 => k Ex.ret (W51 r6 b7 r2 n3 i4 i8)) (fun i9 => k (Ex.exit (0 : Nat)) (W51 r0 b1 r2 n3 i4 i9)) r0 b1 r2 n3 i4 (fun i5 => ELp42_3 m R n (W51 r0 b1 r2 n3 i4 i5) k) i5 := by kernel_rfl
theorem eqLp42_3 (m : Nat) (R : Type) (r0 : Abs.Rows) (b1 : Bool) (r2 : Abs.Rows) (n3 : Nat) (i4 : Int) (k : Ex → List V → Option R) : ∀ (n : Nat) (i5 : Int), ELp42_3 m R n (W51 r0 b1 r2 n3 i4 i5) k = Lp42_3 m (fun r6 b7 i8 => k Ex.ret (W51 r6 b7 r2 n3 i4 i8)) (fun i9 => k (Ex.exit (0 : Nat)) (W51 r0 b1 r2 n3 i4 i9)) r0 b1 r2 n3 i4 n i5
 | 0, _ => rfl
 | n + 1, i5 => by
  simp only [ELp42_3, Lp42_3, W51]
  congr 1
  funext i5
  exact eqLp42_3 m R r0 b1 r2 n3 i4 k n i5
noncomputable def L19 (m : Nat) : LTbl := addB 42 3 (brLp42_3 m (L18 m)) (L18 m)
theorem okL19 (m : Nat) : LTOk Tryz.prog H (L19 m) := addB_ok (okT48 m) hM (okL18 m) (l := [2, 3, 4, 8, 9, 10, 11, 19]) (by kernel_rfl) (by kernel_rfl) m (fun R n vs k => ELp42_3 m R n vs k) (fun R vs k => rfl) (fun R n vs k x h => by
   simp only [ELp42_3] at h
   split at h
   ·exact (stLp42_3 m n R _ _ _ _ _ _ k).trans h
   ·cases h) fun R vs k x h => by
  unfold brLp42_3 at h
  split at h
  ·exact .inl ((eqLp42_3 m R _ _ _ _ _ k m _).trans h)
  ·exact .inr h

abbrev W52 (a0 : Abs.Rows) (a1 : Bool) : List V := [.own [.str] a0, .f (.lit (.bool a1))]
/-- - -/
noncomputable def Fn42 {R : Type} (m : Nat) : ByteArray → (Abs.Rows → Bool → Option R) → Option R := match m with
 | 0 => fun _ _ => none
 | m + 1 => fun s0 k =>
 bif splitOk s0 { data := #[(32 : UInt8)] } then (Lp42_3 m (fun r1 b2 i3 => k r1 b2) (fun i4 => k (splitR s0 { data := #[(32 : UInt8)] }) true) rows0 false (splitR s0 { data := #[(32 : UInt8)] }) (List.length (splitR s0 { data := #[(32 : UInt8)] })) ((↑(List.length (splitR s0 { data := #[(32 : UInt8)] })) : Int)) m ((0 : Int))) else
 (none)
noncomputable def brFn42 (m : Nat) (T : Tbl) (R : Type) (vs : List V) (k : V → List V → Option R) : Option R := match vs with
 | [.f (.lit (.string s0))] => Fn42 m s0 (fun r5 b6 => k (V.tup (W52 r5 b6)) W15)
 | _ => T R 42 vs k
set_option maxRecDepth 100000 in
theorem evFn42 (m : Nat) (R : Type) (s0 : ByteArray) (k : V → List V → Option R) : runK Tryz.prog H (T48 m) (L19 m) 42 (W16 s0) k = Fn42 (m + 1) s0 (fun r5 b6 => k (V.tup (W52 r5 b6)) W15) := by kernel_rfl
noncomputable def T49 (m : Nat) : Tbl := addT 42 (brFn42 m (T48 m)) (T48 m)
theorem okT49 (m : Nat) : TblOk Tryz.prog (T49 m) := addT_ok (okT48 m) fun R vs k x h => by
 unfold brFn42 at h
 split at h
 ·cases m with
  | zero => cases h
  | succ m => exact runK_some (okT48 m) hM (okL19 m) ((evFn42 m R _ k).trans h)
 ·exact okT48 m R 42 _ k x h

/-- - -/
noncomputable def Fn91 {R : Type} (m : Nat) : ByteArray → ByteArray → (Bool → Option R) → Option R := match m with
 | 0 => fun _ _ _ => none
 | m + 1 => fun s0 s1 k =>
 bif decide ((↑(ByteArray.size s0) : Int) ≥ (↑(ByteArray.size s1) : Int)) then (bif decide ((0 : Int) ≤ (↑(ByteArray.size s1) : Int) ∧ (↑(ByteArray.size s1) : Int) ≤ (↑(ByteArray.size s0) : Int)) then (k (ByteArray.toList (ByteArray.extract s0 (0 : Nat) (Int.toNat (↑(ByteArray.size s1) : Int))) == ByteArray.toList s1)) else
 (none)) else
 (k false)
noncomputable def brFn91 (m : Nat) (T : Tbl) (R : Type) (vs : List V) (k : V → List V → Option R) : Option R := match vs with
 | [.f (.lit (.string s0)), .f (.lit (.string s1))] => Fn91 m s0 s1 (fun b2 => k (V.f (F.lit (Value.bool b2))) W1)
 | _ => T R 91 vs k
set_option maxRecDepth 100000 in
theorem evFn91 (m : Nat) (R : Type) (s0 s1 : ByteArray) (k : V → List V → Option R) : runK Tryz.prog H (T49 m) (L19 m) 91 (W14 s0 s1) k = Fn91 (m + 1) s0 s1 (fun b2 => k (V.f (F.lit (Value.bool b2))) W1) := by kernel_rfl
noncomputable def T50 (m : Nat) : Tbl := addT 91 (brFn91 m (T49 m)) (T49 m)
theorem okT50 (m : Nat) : TblOk Tryz.prog (T50 m) := addT_ok (okT49 m) fun R vs k x h => by
 unfold brFn91 at h
 split at h
 ·cases m with
  | zero => cases h
  | succ m => exact runK_some (okT49 m) hM (okL19 m) ((evFn91 m R _ _ k).trans h)
 ·exact okT49 m R 91 _ k x h

abbrev W53 (a0 : ByteArray) (a1 : Bool) : List V := [.f (.lit (.string a0)), .f (.lit (.bool a1))]
/-- - -/
noncomputable def Fn73 {R : Type} (m : Nat) : ByteArray → ByteArray → (ByteArray → Bool → Option R) → Option R := match m with
 | 0 => fun _ _ _ => none
 | m + 1 => fun s0 s1 k =>
 Fn91 m s0 s1 (fun b2 => bif !b2 then (k s0 false) else
 (bif decide ((0 : Int) ≤ (↑(ByteArray.size s1) : Int) ∧ (↑(ByteArray.size s1) : Int) ≤ (↑(ByteArray.size s0) : Int)) then (k (ByteArray.extract s0 (Int.toNat (↑(ByteArray.size s1) : Int)) (ByteArray.size s0)) true) else
 (none)))
noncomputable def brFn73 (m : Nat) (T : Tbl) (R : Type) (vs : List V) (k : V → List V → Option R) : Option R := match vs with
 | [.f (.lit (.string s0)), .f (.lit (.string s1))] => Fn73 m s0 s1 (fun s3 b4 => k (V.tup (W53 s3 b4)) W1)
 | _ => T R 73 vs k
set_option maxRecDepth 100000 in
theorem evFn73 (m : Nat) (R : Type) (s0 s1 : ByteArray) (k : V → List V → Option R) : runK Tryz.prog H (T50 m) (L19 m) 73 (W14 s0 s1) k = Fn73 (m + 1) s0 s1 (fun s3 b4 => k (V.tup (W53 s3 b4)) W1) := by kernel_rfl
noncomputable def T51 (m : Nat) : Tbl := addT 73 (brFn73 m (T50 m)) (T50 m)
theorem okT51 (m : Nat) : TblOk Tryz.prog (T51 m) := addT_ok (okT50 m) fun R vs k x h => by
 unfold brFn73 at h
 split at h
 ·cases m with
  | zero => cases h
  | succ m => exact runK_some (okT50 m) hM (okL19 m) ((evFn73 m R _ _ k).trans h)
 ·exact okT50 m R 73 _ k x h

/-- - -/
noncomputable def Fn57 {R : Type} (m : Nat) : ByteArray → ByteArray → (ByteArray → Bool → Option R) → Option R := match m with
 | 0 => fun _ _ _ => none
 | m + 1 => fun s0 s1 k =>
 Fn73 m s0 s1 (fun s2 b3 => k s2 b3)
noncomputable def brFn57 (m : Nat) (T : Tbl) (R : Type) (vs : List V) (k : V → List V → Option R) : Option R := match vs with
 | [.f (.lit (.string s0)), .f (.lit (.string s1))] => Fn57 m s0 s1 (fun s4 b5 => k (V.tup (W53 s4 b5)) W1)
 | _ => T R 57 vs k
set_option maxRecDepth 100000 in
theorem evFn57 (m : Nat) (R : Type) (s0 s1 : ByteArray) (k : V → List V → Option R) : runK Tryz.prog H (T51 m) (L19 m) 57 (W14 s0 s1) k = Fn57 (m + 1) s0 s1 (fun s4 b5 => k (V.tup (W53 s4 b5)) W1) := by kernel_rfl
noncomputable def T52 (m : Nat) : Tbl := addT 57 (brFn57 m (T51 m)) (T51 m)
theorem okT52 (m : Nat) : TblOk Tryz.prog (T52 m) := addT_ok (okT51 m) fun R vs k x h => by
 unfold brFn57 at h
 split at h
 ·cases m with
  | zero => cases h
  | succ m => exact runK_some (okT51 m) hM (okL19 m) ((evFn57 m R _ _ k).trans h)
 ·exact okT51 m R 57 _ k x h

abbrev W54 (a0 : ByteArray) (a1 : Int) (a2 : Bool) : List V := [.f (.lit (.string a0)), .f (.lit (.int .i64 a1)), .f (.lit (.bool a2)), .undef, .undef]
/-- - -/
noncomputable def Jn43_4 {R : Type} (m : Nat) (kx0 : Int → Bool → Option R) (s0 : ByteArray) (i1 : Int) (b2 : Bool) : Option R :=
 bif atoiOk s0 then (kx0 (atoiB s0) true) else
 (none)
noncomputable def brJn43_4 (m : Nat) (L : LTbl) (R : Type) (vs : List V) (k : Ex → List V → Option R) : Option R := match vs with
 | [.f (.lit (.string s0)), .f (.lit (.int .i64 i1)), .f (.lit (.bool b2)), .undef, .undef] => Jn43_4 m (fun i3 b4 => k Ex.ret (W54 s0 i3 b4)) s0 i1 b2
 | _ => L R 43 4 vs k
set_option maxRecDepth 100000 in
theorem evJn43_4 (m : Nat) (R : Type) (s0 : ByteArray) (i1 : Int) (b2 : Bool) (k : Ex → List V → Option R) : codeK Tryz.prog H (T52 m) 43 (L19 m) 5 (loopBody Tryz.prog 43 4) (mkEnv [0, 4, 5, 48, 49] (W54 s0 i1 b2) 0 (H.len 43)) (fun e env' => k e (vals [0, 4, 5, 48, 49] env')) = Jn43_4 m (fun i3 b4 => k Ex.ret (W54 s0 i3 b4)) s0 i1 b2 := by kernel_rfl
noncomputable def L20 (m : Nat) : LTbl := addJ 43 4 (brJn43_4 m (L19 m)) (L19 m)
theorem okL20 (m : Nat) : LTOk Tryz.prog H (L20 m) := addJ_ok (okT52 m) hM (okL19 m) (l := [0, 4, 5, 48, 49]) (by kernel_rfl) (by kernel_rfl) fun R vs k x h => by
  unfold brJn43_4 at h
  split at h
  ·exact .inl ((evJn43_4 m R _ _ _ k).trans h)
  ·exact .inr h

abbrev W55 (a0 : Int) (a1 : Bool) : List V := [.f (.lit (.int .i64 a0)), .f (.lit (.bool a1))]
/-- - -/
noncomputable def Fn43 {R : Type} (m : Nat) : ByteArray → Int → (Int → Bool → Option R) → Option R := match m with
 | 0 => fun _ _ _ => none
 | m + 1 => fun s0 i1 k =>
 Fn57 m s0 ({ data := #[(45 : UInt8)] }) (fun s2 b3 => bif ByteArray.toList s2 == ByteArray.toList { data := #[] } then (k ((0 : Int)) false) else
 (bif decide ((↑(ByteArray.size s2) : Int) > i1) then (k ((0 : Int)) false) else
 (bif trimOk s2 { data := #[(48 : UInt8), (49 : UInt8), (50 : UInt8), (51 : UInt8), (52 : UInt8), (53 : UInt8), (54 : UInt8), (55 : UInt8), (56 : UInt8), (57 : UInt8)] } then (bif !ByteArray.toList (trimB s2 { data := #[(48 : UInt8), (49 : UInt8), (50 : UInt8), (51 : UInt8), (52 : UInt8), (53 : UInt8), (54 : UInt8), (55 : UInt8), (56 : UInt8), (57 : UInt8)] }) == ByteArray.toList { data := #[] } then (k ((0 : Int)) false) else
 (bif decide ((0 : Int) ≤ (0 : Int) ∧ (0 : Int) < (↑(ByteArray.size s2) : Int)) then (bif (↑(UInt8.toNat (Array.getD (ByteArray.data s2) (Int.toNat (0 : Int)) (0 : UInt8))) : Int) == (48 : Int) then (bif !ByteArray.toList s2 == ByteArray.toList { data := #[(48 : UInt8)] } then (k ((0 : Int)) false) else
 (bif b3 then (k ((0 : Int)) false) else
 (Jn43_4 m (fun i4 b5 => k i4 b5) s0 ((0 : Int)) false))) else
 (Jn43_4 m (fun i6 b7 => k i6 b7) s0 ((0 : Int)) false)) else
 (none))) else
 (none))))
noncomputable def brFn43 (m : Nat) (T : Tbl) (R : Type) (vs : List V) (k : V → List V → Option R) : Option R := match vs with
 | [.f (.lit (.string s0)), .f (.lit (.int .i64 i1))] => Fn43 m s0 i1 (fun i8 b9 => k (V.tup (W55 i8 b9)) W1)
 | _ => T R 43 vs k
set_option maxRecDepth 100000 in
theorem evFn43 (m : Nat) (R : Type) (s0 : ByteArray) (i1 : Int) (k : V → List V → Option R) : runK Tryz.prog H (T52 m) (L20 m) 43 (W39 s0 i1) k = Fn43 (m + 1) s0 i1 (fun i8 b9 => k (V.tup (W55 i8 b9)) W1) := by kernel_rfl
noncomputable def T53 (m : Nat) : Tbl := addT 43 (brFn43 m (T52 m)) (T52 m)
theorem okT53 (m : Nat) : TblOk Tryz.prog (T53 m) := addT_ok (okT52 m) fun R vs k x h => by
 unfold brFn43 at h
 split at h
 ·cases m with
  | zero => cases h
  | succ m => exact runK_some (okT52 m) hM (okL20 m) ((evFn43 m R _ _ k).trans h)
 ·exact okT52 m R 43 _ k x h

abbrev W56 (a0 : Bool) (a1 : Abs.Rows) (a2 : Bool) (a3 : Abs.Rows) : List V := [.ref 50 0, .f (.lit (.bool a0)), .own [.str] a1, .tup [.undef, .f (.lit (.bool a2))], .undef, .undef, .undef, .obj [.own [.int .i64, .int .i64, .str] a3]]
/-- - -/
noncomputable def Jn41_4 {R : Type} (m : Nat) (kx0 : Bool → Abs.Rows → Option R) (b0 : Bool) (r1 : Abs.Rows) (b2 : Bool) (r3 : Abs.Rows) : Option R :=
 bif decide ((0 : Int) ≤ (0 : Int) ∧ (0 : Int) < (↑(List.length r1) : Int)) then (Fn43 m (fS r1 (Int.toNat (0 : Int)) (0 : Nat)) ((9 : Int)) (fun i4 b5 => bif decide ((0 : Int) ≤ (2 : Int) ∧ (2 : Int) < (↑(List.length r1) : Int)) then (Fn43 m (fS r1 (Int.toNat (2 : Int)) (0 : Nat)) ((9 : Int)) (fun i6 b7 => bif decide ((0 : Int) ≤ (1 : Int) ∧ (1 : Int) < (↑(List.length r1) : Int)) then (bif decide (List.length r3 + List.length [[F.lit (Value.int IntKind.i64 i4), F.lit (Value.int IntKind.i64 i6), F.lit (Value.string (fS r1 (Int.toNat (1 : Int)) (0 : Nat)))]] ≤ rowMax) then (letV (r3 ++ [[F.lit (Value.int IntKind.i64 i4), F.lit (Value.int IntKind.i64 i6), F.lit (Value.string (fS r1 (Int.toNat (1 : Int)) (0 : Nat)))]]) (fun r8 => bif b5 then (kx0 b7 r8) else
 (kx0 false r8))) else
 (none)) else
 (none))) else
 (none))) else
 (none)
noncomputable def brJn41_4 (m : Nat) (L : LTbl) (R : Type) (vs : List V) (k : Ex → List V → Option R) : Option R := match vs with
 | [.ref 50 0, .f (.lit (.bool b0)), .own [.str] r1, .tup [.undef, .f (.lit (.bool b2))], .undef, .undef, .undef, .obj [.own [.int .i64, .int .i64, .str] r3]] => Jn41_4 m (fun b9 r10 => k Ex.ret (W56 b9 r1 b2 r10)) b0 r1 b2 r3
 | _ => L R 41 4 vs k
set_option maxRecDepth 100000 in
theorem evJn41_4 (m : Nat) (R : Type) (b0 : Bool) (r1 : Abs.Rows) (b2 : Bool) (r3 : Abs.Rows) (k : Ex → List V → Option R) : codeK Tryz.prog H (T53 m) 41 (L20 m) 5 (loopBody Tryz.prog 41 4) (mkEnv [1, 3, 4, 10, 12, 13, 49, 50] (W56 b0 r1 b2 r3) 0 (H.len 41)) (fun e env' => k e (vals [1, 3, 4, 10, 12, 13, 49, 50] env')) = Jn41_4 m (fun b9 r10 => k Ex.ret (W56 b9 r1 b2 r10)) b0 r1 b2 r3 := by kernel_rfl
noncomputable def L21 (m : Nat) : LTbl := addJ 41 4 (brJn41_4 m (L20 m)) (L20 m)
theorem okL21 (m : Nat) : LTOk Tryz.prog H (L21 m) := addJ_ok (okT53 m) hM (okL20 m) (l := [1, 3, 4, 10, 12, 13, 49, 50]) (by kernel_rfl) (by kernel_rfl) fun R vs k x h => by
  unfold brJn41_4 at h
  split at h
  ·exact .inl ((evJn41_4 m R _ _ _ _ k).trans h)
  ·exact .inr h

abbrev W57 (a0 : Abs.Rows) : List V := [.undef, .obj [.own [.int .i64, .int .i64, .str] a0]]
abbrev W58 (a0 : ByteArray) (a1 : Abs.Rows) : List V := [.f (.lit (.string a0)), .obj [.own [.int .i64, .int .i64, .str] a1]]
/-- - -/
noncomputable def Fn41 {R : Type} (m : Nat) : ByteArray → Abs.Rows → (Bool → Abs.Rows → Option R) → Option R := match m with
 | 0 => fun _ _ _ => none
 | m + 1 => fun s0 r1 k =>
 Fn42 m s0 (fun r2 b3 => bif !b3 then (k false r1) else
 (bif (↑(List.length r2) : Int) != (3 : Int) then (k false r1) else
 (Jn41_4 m (fun b4 r5 => k b4 r5) false r2 b3 r1)))
noncomputable def brFn41 (m : Nat) (T : Tbl) (R : Type) (vs : List V) (k : V → List V → Option R) : Option R := match vs with
 | [.f (.lit (.string s0)), .obj [.own [.int .i64, .int .i64, .str] r1]] => Fn41 m s0 r1 (fun b6 r7 => k (V.f (F.lit (Value.bool b6))) (W57 r7))
 | _ => T R 41 vs k
set_option maxRecDepth 100000 in
theorem evFn41 (m : Nat) (R : Type) (s0 : ByteArray) (r1 : Abs.Rows) (k : V → List V → Option R) : runK Tryz.prog H (T53 m) (L21 m) 41 (W58 s0 r1) k = Fn41 (m + 1) s0 r1 (fun b6 r7 => k (V.f (F.lit (Value.bool b6))) (W57 r7)) := by kernel_rfl
noncomputable def T54 (m : Nat) : Tbl := addT 41 (brFn41 m (T53 m)) (T53 m)
theorem okT54 (m : Nat) : TblOk Tryz.prog (T54 m) := addT_ok (okT53 m) fun R vs k x h => by
 unfold brFn41 at h
 split at h
 ·cases m with
  | zero => cases h
  | succ m => exact runK_some (okT53 m) hM (okL21 m) ((evFn41 m R _ _ k).trans h)
 ·exact okT53 m R 41 _ k x h

abbrev W59 (a0 : ByteArray) (a1 : Int) (a2 : Bool) (a3 : Int) (a4 : Abs.Rows) : List V := [.f (.lit (.string a0)), .clos 41 [.ref 31 0], .f (.lit (.int .i64 a1)), .f (.lit (.bool a2)), .f (.lit (.int .i64 a3)), .undef, .obj [.own [.int .i64, .int .i64, .str] a4]]
abbrev K2Lp40_2 {R : Type} (k : Ex → List V → Option R) (i0 : Int) (b1 : Bool) : ByteArray → Int → Abs.Rows → Option R := fun s2 i3 r4 => k (Ex.exit (0 : Nat)) (W59 s2 i0 b1 i3 r4)
abbrev K1Lp40_2 {R : Type} (k : Ex → List V → Option R) : ByteArray → Int → Bool → Int → Abs.Rows → Option R := fun s5 i6 b7 i8 r9 => k Ex.ret (W59 s5 i6 b7 i8 r9)
/-- - -/
noncomputable def Lp40_2_step {R : Type} (m : Nat) (kx0 : ByteArray → Int → Bool → Int → Abs.Rows → Option R) (kx1 : ByteArray → Int → Abs.Rows → Option R) (i0 : Int) (b1 : Bool) (REC : ByteArray → Int → Abs.Rows → Option R) (s10 : ByteArray) (i11 : Int) (r12 : Abs.Rows) : Option R :=
 bif !ByteArray.toList s10 == ByteArray.toList { data := #[] } then (bif strOk s10 then (bif !cutOn s10 { data := #[(10 : UInt8)] } then (kx0 s10 i11 false i11 r12) else
 (Fn41 m (cutA s10 { data := #[(10 : UInt8)] }) r12 (fun b13 r14 => bif !b13 then (kx0 s10 i11 false i11 r14) else
 (REC (cutZ s10 { data := #[(10 : UInt8)] }) (IntKind.wrap IntKind.i64 (i11 + (1 : Int))) r14)))) else
 (none)) else
 (kx1 s10 i11 r12)
noncomputable def Lp40_2 {R : Type} (m : Nat) (kx0 : ByteArray → Int → Bool → Int → Abs.Rows → Option R) (kx1 : ByteArray → Int → Abs.Rows → Option R) (i0 : Int) (b1 : Bool) : Nat → ByteArray → Int → Abs.Rows → Option R
 | 0, _, _, _ => none
 | n + 1, s10, i11, r12 => Lp40_2_step m kx0 kx1 i0 b1 (Lp40_2 m kx0 kx1 i0 b1 n) s10 i11 r12
noncomputable def ELp40_2 (m : Nat) (R : Type) : Nat → List V → (Ex → List V → Option R) → Option R
 | 0, _, _ => none
 | n + 1, vs, k => match vs with
  | [.f (.lit (.string s10)), .clos 41 [.ref 31 0], .f (.lit (.int .i64 i0)), .f (.lit (.bool b1)), .f (.lit (.int .i64 i11)), .undef, .obj [.own [.int .i64, .int .i64, .str] r12]] => Lp40_2_step m (K1Lp40_2 k) (K2Lp40_2 k i0 b1) i0 b1 (fun s10 i11 r12 => ELp40_2 m R n (W59 s10 i0 b1 i11 r12) k) s10 i11 r12
  | _ => none
noncomputable def brLp40_2 (m : Nat) (L : LTbl) (R : Type) (vs : List V) (k : Ex → List V → Option R) : Option R := match vs with
 | [.f (.lit (.string s10)), .clos 41 [.ref 31 0], .f (.lit (.int .i64 i0)), .f (.lit (.bool b1)), .f (.lit (.int .i64 i11)), .undef, .obj [.own [.int .i64, .int .i64, .str] r12]] => Lp40_2 m (K1Lp40_2 k) (K2Lp40_2 k i0 b1) i0 b1 m s10 i11 r12
 | _ => L R 40 2 vs k
set_option maxRecDepth 100000 in
theorem stLp40_2 (m n : Nat) (R : Type) (s10 : ByteArray) (i0 : Int) (b1 : Bool) (i11 : Int) (r12 : Abs.Rows) (k : Ex → List V → Option R) : codeK Tryz.prog H (T54 m) 40 (L21 m) 3 (loopBody Tryz.prog 40 2) (mkEnv [0, 1, 4, 5, 6, 30, 31] (W59 s10 i0 b1 i11 r12) 0 (H.len 40)) (fun e env' => match e with | .normal => ELp40_2 m R n (vals [0, 1, 4, 5, 6, 30, 31] env') k | e => k e (vals [0, 1, 4, 5, 6, 30, 31] env')) = Lp40_2_step m (K1Lp40_2 k) (K2Lp40_2 k i0 b1) i0 b1 (fun s10 i11 r12 => ELp40_2 m R n (W59 s10 i0 b1 i11 r12) k) s10 i11 r12 := by kernel_rfl
theorem eqLp40_2 (m : Nat) (R : Type) (i0 : Int) (b1 : Bool) (k : Ex → List V → Option R) : ∀ (n : Nat) (s10 : ByteArray) (i11 : Int) (r12 : Abs.Rows), ELp40_2 m R n (W59 s10 i0 b1 i11 r12) k = Lp40_2 m (K1Lp40_2 k) (K2Lp40_2 k i0 b1) i0 b1 n s10 i11 r12
 | 0, _, _, _ => rfl
 | n + 1, s10, i11, r12 => by
  simp only [ELp40_2, Lp40_2, W59]
  congr 1
  funext s10 i11 r12
  exact eqLp40_2 m R i0 b1 k n s10 i11 r12
noncomputable def L22 (m : Nat) : LTbl := addB 40 2 (brLp40_2 m (L21 m)) (L21 m)
theorem okL22 (m : Nat) : LTOk Tryz.prog H (L22 m) := addB_ok (okT54 m) hM (okL21 m) (l := [0, 1, 4, 5, 6, 30, 31]) (by kernel_rfl) (by kernel_rfl) m (fun R n vs k => ELp40_2 m R n vs k) (fun R vs k => rfl) (fun R n vs k x h => by
   simp only [ELp40_2] at h
   split at h
   ·exact (stLp40_2 m n R _ _ _ _ _ k).trans h
   ·cases h) fun R vs k x h => by
  unfold brLp40_2 at h
  split at h
  ·exact .inl ((eqLp40_2 m R _ _ k m _ _ _).trans h)
  ·exact .inr h

abbrev W60 (a0 : ByteArray) (a1 : Abs.Rows) : List V := [.f (.lit (.string a0)), .clos 41 [.obj [.own [.int .i64, .int .i64, .str] a1]]]
/-- - -/
noncomputable def Fn40 {R : Type} (m : Nat) : ByteArray → Abs.Rows → (Int → Bool → Abs.Rows → Option R) → Option R := match m with
 | 0 => fun _ _ _ => none
 | m + 1 => fun s0 r1 k =>
 Lp40_2 m (fun s2 i3 b4 i5 r6 => k i3 b4 r6) (fun s7 i8 r9 => k ((0 : Int)) true r9) ((0 : Int)) false m s0 ((0 : Int)) r1
noncomputable def brFn40 (m : Nat) (T : Tbl) (R : Type) (vs : List V) (k : V → List V → Option R) : Option R := match vs with
 | [.f (.lit (.string s0)), .clos 41 [.obj [.own [.int .i64, .int .i64, .str] r1]]] => Fn40 m s0 r1 (fun i10 b11 r12 => k (V.tup (W55 i10 b11)) (W57 r12))
 | _ => T R 40 vs k
set_option maxRecDepth 100000 in
theorem evFn40 (m : Nat) (R : Type) (s0 : ByteArray) (r1 : Abs.Rows) (k : V → List V → Option R) : runK Tryz.prog H (T54 m) (L22 m) 40 (W60 s0 r1) k = Fn40 (m + 1) s0 r1 (fun i10 b11 r12 => k (V.tup (W55 i10 b11)) (W57 r12)) := by kernel_rfl
noncomputable def T55 (m : Nat) : Tbl := addT 40 (brFn40 m (T54 m)) (T54 m)
theorem okT55 (m : Nat) : TblOk Tryz.prog (T55 m) := addT_ok (okT54 m) fun R vs k x h => by
 unfold brFn40 at h
 split at h
 ·cases m with
  | zero => cases h
  | succ m => exact runK_some (okT54 m) hM (okL22 m) ((evFn40 m R _ _ k).trans h)
 ·exact okT54 m R 40 _ k x h

abbrev W61 (a0 : Abs.Rows) (a1 a2 : Int) : List V := [.own [.int .i64, .int .i64, .str] a0, .f (.lit (.int .i64 a1)), .f (.lit (.int .i64 a2))]
/-- - -/
noncomputable def Fn14 {R : Type} (m : Nat) : ByteArray → (Abs.Rows → Int → Int → Option R) → Option R := match m with
 | 0 => fun _ _ => none
 | m + 1 => fun s0 k =>
 bif decide ((↑(ByteArray.size s0) : Int) > (200000 : Int)) then (k rows0 ((0 : Int)) ((2 : Int))) else
 (Fn40 m s0 rows0 (fun i1 b2 r3 => bif !b2 then (k rows0 i1 ((9 : Int))) else
 (Fn10 m r3 (fun i4 => bif i4 != (0 : Int) then (k rows0 ((0 : Int)) i4) else
 (k r3 ((0 : Int)) ((0 : Int)))))))
noncomputable def brFn14 (m : Nat) (T : Tbl) (R : Type) (vs : List V) (k : V → List V → Option R) : Option R := match vs with
 | [.f (.lit (.string s0))] => Fn14 m s0 (fun r5 i6 i7 => k (V.tup (W61 r5 i6 i7)) W15)
 | _ => T R 14 vs k
set_option maxRecDepth 100000 in
theorem evFn14 (m : Nat) (R : Type) (s0 : ByteArray) (k : V → List V → Option R) : runK Tryz.prog H (T55 m) (L22 m) 14 (W16 s0) k = Fn14 (m + 1) s0 (fun r5 i6 i7 => k (V.tup (W61 r5 i6 i7)) W15) := by kernel_rfl
noncomputable def T56 (m : Nat) : Tbl := addT 14 (brFn14 m (T55 m)) (T55 m)
theorem okT56 (m : Nat) : TblOk Tryz.prog (T56 m) := addT_ok (okT55 m) fun R vs k x h => by
 unfold brFn14 at h
 split at h
 ·cases m with
  | zero => cases h
  | succ m => exact runK_some (okT55 m) hM (okL22 m) ((evFn14 m R _ k).trans h)
 ·exact okT55 m R 14 _ k x h

abbrev W62 (a0 : Abs.Rows) (a1 : ByteArray) (a2 a3 a4 : Int) : List V := [.bor [.str] a0, .f (.lit (.string a1)), .f (.lit (.int .i64 a2)), .f (.lit (.int .i64 a3)), .f (.lit (.int .i64 a4)), .undef, .undef]
/-- - -/
noncomputable def Lp76_2_step {R : Type} (m : Nat) (kx0 : Int → Int → Option R) (kx1 : Int → Option R) (r0 : Abs.Rows) (s1 : ByteArray) (i2 i3 : Int) (REC : Int → Option R) (i4 : Int) : Option R :=
 bif decide (i4 < i3) then (bif decide ((0 : Int) ≤ i4 ∧ i4 < (↑(List.length r0) : Int)) then (bif ByteArray.toList s1 == ByteArray.toList (fS r0 (Int.toNat i4) (0 : Nat)) then (kx0 i4 i4) else
 (REC (IntKind.wrap IntKind.i64 (i4 + (1 : Int))))) else
 (none)) else
 (kx1 i4)
noncomputable def Lp76_2 {R : Type} (m : Nat) (kx0 : Int → Int → Option R) (kx1 : Int → Option R) (r0 : Abs.Rows) (s1 : ByteArray) (i2 i3 : Int) : Nat → Int → Option R
 | 0, _ => none
 | n + 1, i4 => Lp76_2_step m kx0 kx1 r0 s1 i2 i3 (Lp76_2 m kx0 kx1 r0 s1 i2 i3 n) i4
noncomputable def ELp76_2 (m : Nat) (R : Type) : Nat → List V → (Ex → List V → Option R) → Option R
 | 0, _, _ => none
 | n + 1, vs, k => match vs with
  | [.bor [.str] r0, .f (.lit (.string s1)), .f (.lit (.int .i64 i2)), .f (.lit (.int .i64 i3)), .f (.lit (.int .i64 i4)), .undef, .undef] => Lp76_2_step m (fun i5 i6 => k Ex.ret (W62 r0 s1 i5 i3 i6)) (fun i7 => k (Ex.exit (0 : Nat)) (W62 r0 s1 i2 i3 i7)) r0 s1 i2 i3 (fun i4 => ELp76_2 m R n (W62 r0 s1 i2 i3 i4) k) i4
  | _ => none
noncomputable def brLp76_2 (m : Nat) (L : LTbl) (R : Type) (vs : List V) (k : Ex → List V → Option R) : Option R := match vs with
 | [.bor [.str] r0, .f (.lit (.string s1)), .f (.lit (.int .i64 i2)), .f (.lit (.int .i64 i3)), .f (.lit (.int .i64 i4)), .undef, .undef] => Lp76_2 m (fun i5 i6 => k Ex.ret (W62 r0 s1 i5 i3 i6)) (fun i7 => k (Ex.exit (0 : Nat)) (W62 r0 s1 i2 i3 i7)) r0 s1 i2 i3 m i4
 | _ => L R 76 2 vs k
set_option maxRecDepth 100000 in
theorem stLp76_2 (m n : Nat) (R : Type) (r0 : Abs.Rows) (s1 : ByteArray) (i2 i3 i4 : Int) (k : Ex → List V → Option R) : codeK Tryz.prog H (T56 m) 76 (L22 m) 3 (loopBody Tryz.prog 76 2) (mkEnv [0, 1, 4, 7, 8, 19, 20] (W62 r0 s1 i2 i3 i4) 0 (H.len 76)) (fun e env' => match e with | .normal => ELp76_2 m R n (vals [0, 1, 4, 7, 8, 19, 20] env') k | e => k e (vals [0, 1, 4, 7, 8, 19, 20] env')) = Lp76_2_step m (fun i5 i6 => k Ex.ret (W62 r0 s1 i5 i3 i6)) (fun i7 => k (Ex.exit (0 : Nat)) (W62 r0 s1 i2 i3 i7)) r0 s1 i2 i3 (fun i4 => ELp76_2 m R n (W62 r0 s1 i2 i3 i4) k) i4 := by kernel_rfl
theorem eqLp76_2 (m : Nat) (R : Type) (r0 : Abs.Rows) (s1 : ByteArray) (i2 i3 : Int) (k : Ex → List V → Option R) : ∀ (n : Nat) (i4 : Int), ELp76_2 m R n (W62 r0 s1 i2 i3 i4) k = Lp76_2 m (fun i5 i6 => k Ex.ret (W62 r0 s1 i5 i3 i6)) (fun i7 => k (Ex.exit (0 : Nat)) (W62 r0 s1 i2 i3 i7)) r0 s1 i2 i3 n i4
 | 0, _ => rfl
 | n + 1, i4 => by
  simp only [ELp76_2, Lp76_2, W62]
  congr 1
  funext i4
  exact eqLp76_2 m R r0 s1 i2 i3 k n i4
noncomputable def L23 (m : Nat) : LTbl := addB 76 2 (brLp76_2 m (L22 m)) (L22 m)
theorem okL23 (m : Nat) : LTOk Tryz.prog H (L23 m) := addB_ok (okT56 m) hM (okL22 m) (l := [0, 1, 4, 7, 8, 19, 20]) (by kernel_rfl) (by kernel_rfl) m (fun R n vs k => ELp76_2 m R n vs k) (fun R vs k => rfl) (fun R n vs k x h => by
   simp only [ELp76_2] at h
   split at h
   ·exact (stLp76_2 m n R _ _ _ _ _ k).trans h
   ·cases h) fun R vs k x h => by
  unfold brLp76_2 at h
  split at h
  ·exact .inl ((eqLp76_2 m R _ _ _ _ k m _).trans h)
  ·exact .inr h

abbrev W63 (a0 : Abs.Rows) (a1 : ByteArray) : List V := [.bor [.str] a0, .f (.lit (.string a1))]
/-- - -/
noncomputable def Fn76 {R : Type} (m : Nat) : Abs.Rows → ByteArray → (Int → Option R) → Option R := match m with
 | 0 => fun _ _ _ => none
 | m + 1 => fun r0 s1 k =>
 Lp76_2 m (fun i2 i3 => k i2) (fun i4 => k ((-1 : Int))) r0 s1 ((0 : Int)) ((↑(List.length r0) : Int)) m ((0 : Int))
noncomputable def brFn76 (m : Nat) (T : Tbl) (R : Type) (vs : List V) (k : V → List V → Option R) : Option R := match vs with
 | [.bor [.str] r0, .f (.lit (.string s1))] => Fn76 m r0 s1 (fun i5 => k (V.f (F.lit (Value.int IntKind.i64 i5))) W1)
 | _ => T R 76 vs k
set_option maxRecDepth 100000 in
theorem evFn76 (m : Nat) (R : Type) (r0 : Abs.Rows) (s1 : ByteArray) (k : V → List V → Option R) : runK Tryz.prog H (T56 m) (L23 m) 76 (W63 r0 s1) k = Fn76 (m + 1) r0 s1 (fun i5 => k (V.f (F.lit (Value.int IntKind.i64 i5))) W1) := by kernel_rfl
noncomputable def T57 (m : Nat) : Tbl := addT 76 (brFn76 m (T56 m)) (T56 m)
theorem okT57 (m : Nat) : TblOk Tryz.prog (T57 m) := addT_ok (okT56 m) fun R vs k x h => by
 unfold brFn76 at h
 split at h
 ·cases m with
  | zero => cases h
  | succ m => exact runK_some (okT56 m) hM (okL23 m) ((evFn76 m R _ _ k).trans h)
 ·exact okT56 m R 76 _ k x h

/-- - -/
noncomputable def Fn59 {R : Type} (m : Nat) : Abs.Rows → ByteArray → (Bool → Option R) → Option R := match m with
 | 0 => fun _ _ _ => none
 | m + 1 => fun r0 s1 k =>
 Fn76 m r0 s1 (fun i2 => k (decide (i2 ≥ (0 : Int))))
noncomputable def brFn59 (m : Nat) (T : Tbl) (R : Type) (vs : List V) (k : V → List V → Option R) : Option R := match vs with
 | [.bor [.str] r0, .f (.lit (.string s1))] => Fn59 m r0 s1 (fun b3 => k (V.f (F.lit (Value.bool b3))) W1)
 | _ => T R 59 vs k
set_option maxRecDepth 100000 in
theorem evFn59 (m : Nat) (R : Type) (r0 : Abs.Rows) (s1 : ByteArray) (k : V → List V → Option R) : runK Tryz.prog H (T57 m) (L23 m) 59 (W63 r0 s1) k = Fn59 (m + 1) r0 s1 (fun b3 => k (V.f (F.lit (Value.bool b3))) W1) := by kernel_rfl
noncomputable def T58 (m : Nat) : Tbl := addT 59 (brFn59 m (T57 m)) (T57 m)
theorem okT58 (m : Nat) : TblOk Tryz.prog (T58 m) := addT_ok (okT57 m) fun R vs k x h => by
 unfold brFn59 at h
 split at h
 ·cases m with
  | zero => cases h
  | succ m => exact runK_some (okT57 m) hM (okL23 m) ((evFn59 m R _ _ k).trans h)
 ·exact okT57 m R 59 _ k x h

/-- - -/
noncomputable def Fn46 {R : Type} (m : Nat) : ByteArray → (Abs.Rows → Bool → Option R) → Option R := match m with
 | 0 => fun _ _ => none
 | m + 1 => fun s0 k =>
 bif splitOk s0 { data := #[(32 : UInt8)] } then (Fn59 m (splitR s0 { data := #[(32 : UInt8)] }) ({ data := #[] }) (fun b1 => k (splitR s0 { data := #[(32 : UInt8)] }) (!b1))) else
 (none)
noncomputable def brFn46 (m : Nat) (T : Tbl) (R : Type) (vs : List V) (k : V → List V → Option R) : Option R := match vs with
 | [.f (.lit (.string s0))] => Fn46 m s0 (fun r2 b3 => k (V.tup (W52 r2 b3)) W15)
 | _ => T R 46 vs k
set_option maxRecDepth 100000 in
theorem evFn46 (m : Nat) (R : Type) (s0 : ByteArray) (k : V → List V → Option R) : runK Tryz.prog H (T58 m) (L23 m) 46 (W16 s0) k = Fn46 (m + 1) s0 (fun r2 b3 => k (V.tup (W52 r2 b3)) W15) := by kernel_rfl
noncomputable def T59 (m : Nat) : Tbl := addT 46 (brFn46 m (T58 m)) (T58 m)
theorem okT59 (m : Nat) : TblOk Tryz.prog (T59 m) := addT_ok (okT58 m) fun R vs k x h => by
 unfold brFn46 at h
 split at h
 ·cases m with
  | zero => cases h
  | succ m => exact runK_some (okT58 m) hM (okL23 m) ((evFn46 m R _ k).trans h)
 ·exact okT58 m R 46 _ k x h

/-- - -/
noncomputable def Fn77 {R : Type} (m : Nat) : ByteArray → ByteArray → (ByteArray → Option R) → Option R := match m with
 | 0 => fun _ _ _ => none
 | m + 1 => fun s0 s1 k =>
 Fn91 m s0 s1 (fun b2 => bif b2 then (bif decide ((0 : Int) ≤ (↑(ByteArray.size s1) : Int) ∧ (↑(ByteArray.size s1) : Int) ≤ (↑(ByteArray.size s0) : Int)) then (k (ByteArray.extract s0 (Int.toNat (↑(ByteArray.size s1) : Int)) (ByteArray.size s0))) else
 (none)) else
 (k s0))
noncomputable def brFn77 (m : Nat) (T : Tbl) (R : Type) (vs : List V) (k : V → List V → Option R) : Option R := match vs with
 | [.f (.lit (.string s0)), .f (.lit (.string s1))] => Fn77 m s0 s1 (fun s3 => k (V.f (F.lit (Value.string s3))) W1)
 | _ => T R 77 vs k
set_option maxRecDepth 100000 in
theorem evFn77 (m : Nat) (R : Type) (s0 s1 : ByteArray) (k : V → List V → Option R) : runK Tryz.prog H (T59 m) (L23 m) 77 (W14 s0 s1) k = Fn77 (m + 1) s0 s1 (fun s3 => k (V.f (F.lit (Value.string s3))) W1) := by kernel_rfl
noncomputable def T60 (m : Nat) : Tbl := addT 77 (brFn77 m (T59 m)) (T59 m)
theorem okT60 (m : Nat) : TblOk Tryz.prog (T60 m) := addT_ok (okT59 m) fun R vs k x h => by
 unfold brFn77 at h
 split at h
 ·cases m with
  | zero => cases h
  | succ m => exact runK_some (okT59 m) hM (okL23 m) ((evFn77 m R _ _ k).trans h)
 ·exact okT59 m R 77 _ k x h

/-- - -/
noncomputable def Fn60 {R : Type} (m : Nat) : ByteArray → ByteArray → (ByteArray → Option R) → Option R := match m with
 | 0 => fun _ _ _ => none
 | m + 1 => fun s0 s1 k =>
 Fn77 m s0 s1 (fun s2 => k s2)
noncomputable def brFn60 (m : Nat) (T : Tbl) (R : Type) (vs : List V) (k : V → List V → Option R) : Option R := match vs with
 | [.f (.lit (.string s0)), .f (.lit (.string s1))] => Fn60 m s0 s1 (fun s3 => k (V.f (F.lit (Value.string s3))) W1)
 | _ => T R 60 vs k
set_option maxRecDepth 100000 in
theorem evFn60 (m : Nat) (R : Type) (s0 s1 : ByteArray) (k : V → List V → Option R) : runK Tryz.prog H (T60 m) (L23 m) 60 (W14 s0 s1) k = Fn60 (m + 1) s0 s1 (fun s3 => k (V.f (F.lit (Value.string s3))) W1) := by kernel_rfl
noncomputable def T61 (m : Nat) : Tbl := addT 60 (brFn60 m (T60 m)) (T60 m)
theorem okT61 (m : Nat) : TblOk Tryz.prog (T61 m) := addT_ok (okT60 m) fun R vs k x h => by
 unfold brFn60 at h
 split at h
 ·cases m with
  | zero => cases h
  | succ m => exact runK_some (okT60 m) hM (okL23 m) ((evFn60 m R _ _ k).trans h)
 ·exact okT60 m R 60 _ k x h

/-- - -/
noncomputable def Jn47_4 {R : Type} (m : Nat) (kx0 : Int → Bool → Option R) (s0 : ByteArray) (i1 : Int) (b2 : Bool) : Option R :=
 bif atoiOk s0 then (bif itoaOk (atoiB s0) then (kx0 (atoiB s0) (ByteArray.toList (itoaB (atoiB s0)) == ByteArray.toList s0)) else
 (none)) else
 (none)
noncomputable def brJn47_4 (m : Nat) (L : LTbl) (R : Type) (vs : List V) (k : Ex → List V → Option R) : Option R := match vs with
 | [.f (.lit (.string s0)), .f (.lit (.int .i64 i1)), .f (.lit (.bool b2)), .undef, .undef] => Jn47_4 m (fun i3 b4 => k Ex.ret (W54 s0 i3 b4)) s0 i1 b2
 | _ => L R 47 4 vs k
set_option maxRecDepth 100000 in
theorem evJn47_4 (m : Nat) (R : Type) (s0 : ByteArray) (i1 : Int) (b2 : Bool) (k : Ex → List V → Option R) : codeK Tryz.prog H (T61 m) 47 (L23 m) 5 (loopBody Tryz.prog 47 4) (mkEnv [0, 4, 5, 38, 39] (W54 s0 i1 b2) 0 (H.len 47)) (fun e env' => k e (vals [0, 4, 5, 38, 39] env')) = Jn47_4 m (fun i3 b4 => k Ex.ret (W54 s0 i3 b4)) s0 i1 b2 := by kernel_rfl
noncomputable def L24 (m : Nat) : LTbl := addJ 47 4 (brJn47_4 m (L23 m)) (L23 m)
theorem okL24 (m : Nat) : LTOk Tryz.prog H (L24 m) := addJ_ok (okT61 m) hM (okL23 m) (l := [0, 4, 5, 38, 39]) (by kernel_rfl) (by kernel_rfl) fun R vs k x h => by
  unfold brJn47_4 at h
  split at h
  ·exact .inl ((evJn47_4 m R _ _ _ k).trans h)
  ·exact .inr h

/-- - -/
noncomputable def Fn47 {R : Type} (m : Nat) : ByteArray → Int → (Int → Bool → Option R) → Option R := match m with
 | 0 => fun _ _ _ => none
 | m + 1 => fun s0 i1 k =>
 Fn60 m s0 ({ data := #[(45 : UInt8)] }) (fun s2 => bif ByteArray.toList s2 == ByteArray.toList { data := #[] } then (k ((0 : Int)) false) else
 (bif decide ((↑(ByteArray.size s2) : Int) > i1) then (k ((0 : Int)) false) else
 (Fn53 m s2 ({ data := #[(48 : UInt8), (49 : UInt8), (50 : UInt8), (51 : UInt8), (52 : UInt8), (53 : UInt8), (54 : UInt8), (55 : UInt8), (56 : UInt8), (57 : UInt8)] }) (fun b3 => bif !b3 then (k ((0 : Int)) false) else
 (Jn47_4 m (fun i4 b5 => k i4 b5) s0 ((0 : Int)) false)))))
noncomputable def brFn47 (m : Nat) (T : Tbl) (R : Type) (vs : List V) (k : V → List V → Option R) : Option R := match vs with
 | [.f (.lit (.string s0)), .f (.lit (.int .i64 i1))] => Fn47 m s0 i1 (fun i6 b7 => k (V.tup (W55 i6 b7)) W1)
 | _ => T R 47 vs k
set_option maxRecDepth 100000 in
theorem evFn47 (m : Nat) (R : Type) (s0 : ByteArray) (i1 : Int) (k : V → List V → Option R) : runK Tryz.prog H (T61 m) (L24 m) 47 (W39 s0 i1) k = Fn47 (m + 1) s0 i1 (fun i6 b7 => k (V.tup (W55 i6 b7)) W1) := by kernel_rfl
noncomputable def T62 (m : Nat) : Tbl := addT 47 (brFn47 m (T61 m)) (T61 m)
theorem okT62 (m : Nat) : TblOk Tryz.prog (T62 m) := addT_ok (okT61 m) fun R vs k x h => by
 unfold brFn47 at h
 split at h
 ·cases m with
  | zero => cases h
  | succ m => exact runK_some (okT61 m) hM (okL24 m) ((evFn47 m R _ _ k).trans h)
 ·exact okT61 m R 47 _ k x h

/-- - -/
noncomputable def Jn45_4 {R : Type} (m : Nat) (kx0 : Bool → Abs.Rows → Option R) (b0 : Bool) (r1 : Abs.Rows) (b2 : Bool) (r3 : Abs.Rows) : Option R :=
 bif decide ((0 : Int) ≤ (0 : Int) ∧ (0 : Int) < (↑(List.length r1) : Int)) then (Fn47 m (fS r1 (Int.toNat (0 : Int)) (0 : Nat)) ((9 : Int)) (fun i4 b5 => bif decide ((0 : Int) ≤ (2 : Int) ∧ (2 : Int) < (↑(List.length r1) : Int)) then (Fn47 m (fS r1 (Int.toNat (2 : Int)) (0 : Nat)) ((9 : Int)) (fun i6 b7 => bif decide ((0 : Int) ≤ (1 : Int) ∧ (1 : Int) < (↑(List.length r1) : Int)) then (bif decide (List.length r3 + List.length [[F.lit (Value.int IntKind.i64 i4), F.lit (Value.int IntKind.i64 i6), F.lit (Value.string (fS r1 (Int.toNat (1 : Int)) (0 : Nat)))]] ≤ rowMax) then (letV (r3 ++ [[F.lit (Value.int IntKind.i64 i4), F.lit (Value.int IntKind.i64 i6), F.lit (Value.string (fS r1 (Int.toNat (1 : Int)) (0 : Nat)))]]) (fun r8 => bif b5 then (kx0 b7 r8) else
 (kx0 false r8))) else
 (none)) else
 (none))) else
 (none))) else
 (none)
noncomputable def brJn45_4 (m : Nat) (L : LTbl) (R : Type) (vs : List V) (k : Ex → List V → Option R) : Option R := match vs with
 | [.ref 50 0, .f (.lit (.bool b0)), .own [.str] r1, .tup [.undef, .f (.lit (.bool b2))], .undef, .undef, .undef, .obj [.own [.int .i64, .int .i64, .str] r3]] => Jn45_4 m (fun b9 r10 => k Ex.ret (W56 b9 r1 b2 r10)) b0 r1 b2 r3
 | _ => L R 45 4 vs k
set_option maxRecDepth 100000 in
theorem evJn45_4 (m : Nat) (R : Type) (b0 : Bool) (r1 : Abs.Rows) (b2 : Bool) (r3 : Abs.Rows) (k : Ex → List V → Option R) : codeK Tryz.prog H (T62 m) 45 (L24 m) 5 (loopBody Tryz.prog 45 4) (mkEnv [1, 3, 4, 10, 12, 13, 49, 50] (W56 b0 r1 b2 r3) 0 (H.len 45)) (fun e env' => k e (vals [1, 3, 4, 10, 12, 13, 49, 50] env')) = Jn45_4 m (fun b9 r10 => k Ex.ret (W56 b9 r1 b2 r10)) b0 r1 b2 r3 := by kernel_rfl
noncomputable def L25 (m : Nat) : LTbl := addJ 45 4 (brJn45_4 m (L24 m)) (L24 m)
theorem okL25 (m : Nat) : LTOk Tryz.prog H (L25 m) := addJ_ok (okT62 m) hM (okL24 m) (l := [1, 3, 4, 10, 12, 13, 49, 50]) (by kernel_rfl) (by kernel_rfl) fun R vs k x h => by
  unfold brJn45_4 at h
  split at h
  ·exact .inl ((evJn45_4 m R _ _ _ _ k).trans h)
  ·exact .inr h

/-- - -/
noncomputable def Fn45 {R : Type} (m : Nat) : ByteArray → Abs.Rows → (Bool → Abs.Rows → Option R) → Option R := match m with
 | 0 => fun _ _ _ => none
 | m + 1 => fun s0 r1 k =>
 Fn46 m s0 (fun r2 b3 => bif !b3 then (k false r1) else
 (bif (↑(List.length r2) : Int) != (3 : Int) then (k false r1) else
 (Jn45_4 m (fun b4 r5 => k b4 r5) false r2 b3 r1)))
noncomputable def brFn45 (m : Nat) (T : Tbl) (R : Type) (vs : List V) (k : V → List V → Option R) : Option R := match vs with
 | [.f (.lit (.string s0)), .obj [.own [.int .i64, .int .i64, .str] r1]] => Fn45 m s0 r1 (fun b6 r7 => k (V.f (F.lit (Value.bool b6))) (W57 r7))
 | _ => T R 45 vs k
set_option maxRecDepth 100000 in
theorem evFn45 (m : Nat) (R : Type) (s0 : ByteArray) (r1 : Abs.Rows) (k : V → List V → Option R) : runK Tryz.prog H (T62 m) (L25 m) 45 (W58 s0 r1) k = Fn45 (m + 1) s0 r1 (fun b6 r7 => k (V.f (F.lit (Value.bool b6))) (W57 r7)) := by kernel_rfl
noncomputable def T63 (m : Nat) : Tbl := addT 45 (brFn45 m (T62 m)) (T62 m)
theorem okT63 (m : Nat) : TblOk Tryz.prog (T63 m) := addT_ok (okT62 m) fun R vs k x h => by
 unfold brFn45 at h
 split at h
 ·cases m with
  | zero => cases h
  | succ m => exact runK_some (okT62 m) hM (okL25 m) ((evFn45 m R _ _ k).trans h)
 ·exact okT62 m R 45 _ k x h

abbrev W64 (a0 : ByteArray) (a1 : Int) (a2 : Bool) (a3 : Int) (a4 : Abs.Rows) : List V := [.f (.lit (.string a0)), .clos 45 [.ref 31 0], .f (.lit (.int .i64 a1)), .f (.lit (.bool a2)), .f (.lit (.int .i64 a3)), .undef, .obj [.own [.int .i64, .int .i64, .str] a4]]
abbrev K2Lp44_2 {R : Type} (k : Ex → List V → Option R) (i0 : Int) (b1 : Bool) : ByteArray → Int → Abs.Rows → Option R := fun s2 i3 r4 => k (Ex.exit (0 : Nat)) (W64 s2 i0 b1 i3 r4)
abbrev K1Lp44_2 {R : Type} (k : Ex → List V → Option R) : ByteArray → Int → Bool → Int → Abs.Rows → Option R := fun s5 i6 b7 i8 r9 => k Ex.ret (W64 s5 i6 b7 i8 r9)
/-- - -/
noncomputable def Lp44_2_step {R : Type} (m : Nat) (kx0 : ByteArray → Int → Bool → Int → Abs.Rows → Option R) (kx1 : ByteArray → Int → Abs.Rows → Option R) (i0 : Int) (b1 : Bool) (REC : ByteArray → Int → Abs.Rows → Option R) (s10 : ByteArray) (i11 : Int) (r12 : Abs.Rows) : Option R :=
 bif !ByteArray.toList s10 == ByteArray.toList { data := #[] } then (bif strOk s10 then (bif !cutOn s10 { data := #[(10 : UInt8)] } then (kx0 s10 i11 false i11 r12) else
 (Fn45 m (cutA s10 { data := #[(10 : UInt8)] }) r12 (fun b13 r14 => bif !b13 then (kx0 s10 i11 false i11 r14) else
 (REC (cutZ s10 { data := #[(10 : UInt8)] }) (IntKind.wrap IntKind.i64 (i11 + (1 : Int))) r14)))) else
 (none)) else
 (kx1 s10 i11 r12)
noncomputable def Lp44_2 {R : Type} (m : Nat) (kx0 : ByteArray → Int → Bool → Int → Abs.Rows → Option R) (kx1 : ByteArray → Int → Abs.Rows → Option R) (i0 : Int) (b1 : Bool) : Nat → ByteArray → Int → Abs.Rows → Option R
 | 0, _, _, _ => none
 | n + 1, s10, i11, r12 => Lp44_2_step m kx0 kx1 i0 b1 (Lp44_2 m kx0 kx1 i0 b1 n) s10 i11 r12
noncomputable def ELp44_2 (m : Nat) (R : Type) : Nat → List V → (Ex → List V → Option R) → Option R
 | 0, _, _ => none
 | n + 1, vs, k => match vs with
  | [.f (.lit (.string s10)), .clos 45 [.ref 31 0], .f (.lit (.int .i64 i0)), .f (.lit (.bool b1)), .f (.lit (.int .i64 i11)), .undef, .obj [.own [.int .i64, .int .i64, .str] r12]] => Lp44_2_step m (K1Lp44_2 k) (K2Lp44_2 k i0 b1) i0 b1 (fun s10 i11 r12 => ELp44_2 m R n (W64 s10 i0 b1 i11 r12) k) s10 i11 r12
  | _ => none
noncomputable def brLp44_2 (m : Nat) (L : LTbl) (R : Type) (vs : List V) (k : Ex → List V → Option R) : Option R := match vs with
 | [.f (.lit (.string s10)), .clos 45 [.ref 31 0], .f (.lit (.int .i64 i0)), .f (.lit (.bool b1)), .f (.lit (.int .i64 i11)), .undef, .obj [.own [.int .i64, .int .i64, .str] r12]] => Lp44_2 m (K1Lp44_2 k) (K2Lp44_2 k i0 b1) i0 b1 m s10 i11 r12
 | _ => L R 44 2 vs k
set_option maxRecDepth 100000 in
theorem stLp44_2 (m n : Nat) (R : Type) (s10 : ByteArray) (i0 : Int) (b1 : Bool) (i11 : Int) (r12 : Abs.Rows) (k : Ex → List V → Option R) : codeK Tryz.prog H (T63 m) 44 (L25 m) 3 (loopBody Tryz.prog 44 2) (mkEnv [0, 1, 4, 5, 6, 30, 31] (W64 s10 i0 b1 i11 r12) 0 (H.len 44)) (fun e env' => match e with | .normal => ELp44_2 m R n (vals [0, 1, 4, 5, 6, 30, 31] env') k | e => k e (vals [0, 1, 4, 5, 6, 30, 31] env')) = Lp44_2_step m (K1Lp44_2 k) (K2Lp44_2 k i0 b1) i0 b1 (fun s10 i11 r12 => ELp44_2 m R n (W64 s10 i0 b1 i11 r12) k) s10 i11 r12 := by kernel_rfl
theorem eqLp44_2 (m : Nat) (R : Type) (i0 : Int) (b1 : Bool) (k : Ex → List V → Option R) : ∀ (n : Nat) (s10 : ByteArray) (i11 : Int) (r12 : Abs.Rows), ELp44_2 m R n (W64 s10 i0 b1 i11 r12) k = Lp44_2 m (K1Lp44_2 k) (K2Lp44_2 k i0 b1) i0 b1 n s10 i11 r12
 | 0, _, _, _ => rfl
 | n + 1, s10, i11, r12 => by
  simp only [ELp44_2, Lp44_2, W64]
  congr 1
  funext s10 i11 r12
  exact eqLp44_2 m R i0 b1 k n s10 i11 r12
noncomputable def L26 (m : Nat) : LTbl := addB 44 2 (brLp44_2 m (L25 m)) (L25 m)
theorem okL26 (m : Nat) : LTOk Tryz.prog H (L26 m) := addB_ok (okT63 m) hM (okL25 m) (l := [0, 1, 4, 5, 6, 30, 31]) (by kernel_rfl) (by kernel_rfl) m (fun R n vs k => ELp44_2 m R n vs k) (fun R vs k => rfl) (fun R n vs k x h => by
   simp only [ELp44_2] at h
   split at h
   ·exact (stLp44_2 m n R _ _ _ _ _ k).trans h
   ·cases h) fun R vs k x h => by
  unfold brLp44_2 at h
  split at h
  ·exact .inl ((eqLp44_2 m R _ _ k m _ _ _).trans h)
  ·exact .inr h

abbrev W65 (a0 : ByteArray) (a1 : Abs.Rows) : List V := [.f (.lit (.string a0)), .clos 45 [.obj [.own [.int .i64, .int .i64, .str] a1]]]
/-- - -/
noncomputable def Fn44 {R : Type} (m : Nat) : ByteArray → Abs.Rows → (Int → Bool → Abs.Rows → Option R) → Option R := match m with
 | 0 => fun _ _ _ => none
 | m + 1 => fun s0 r1 k =>
 Lp44_2 m (fun s2 i3 b4 i5 r6 => k i3 b4 r6) (fun s7 i8 r9 => k ((0 : Int)) true r9) ((0 : Int)) false m s0 ((0 : Int)) r1
noncomputable def brFn44 (m : Nat) (T : Tbl) (R : Type) (vs : List V) (k : V → List V → Option R) : Option R := match vs with
 | [.f (.lit (.string s0)), .clos 45 [.obj [.own [.int .i64, .int .i64, .str] r1]]] => Fn44 m s0 r1 (fun i10 b11 r12 => k (V.tup (W55 i10 b11)) (W57 r12))
 | _ => T R 44 vs k
set_option maxRecDepth 100000 in
theorem evFn44 (m : Nat) (R : Type) (s0 : ByteArray) (r1 : Abs.Rows) (k : V → List V → Option R) : runK Tryz.prog H (T63 m) (L26 m) 44 (W65 s0 r1) k = Fn44 (m + 1) s0 r1 (fun i10 b11 r12 => k (V.tup (W55 i10 b11)) (W57 r12)) := by kernel_rfl
noncomputable def T64 (m : Nat) : Tbl := addT 44 (brFn44 m (T63 m)) (T63 m)
theorem okT64 (m : Nat) : TblOk Tryz.prog (T64 m) := addT_ok (okT63 m) fun R vs k x h => by
 unfold brFn44 at h
 split at h
 ·cases m with
  | zero => cases h
  | succ m => exact runK_some (okT63 m) hM (okL26 m) ((evFn44 m R _ _ k).trans h)
 ·exact okT63 m R 44 _ k x h

/-- - -/
noncomputable def Fn15 {R : Type} (m : Nat) : ByteArray → (Abs.Rows → Int → Int → Option R) → Option R := match m with
 | 0 => fun _ _ => none
 | m + 1 => fun s0 k =>
 bif decide ((↑(ByteArray.size s0) : Int) > (200000 : Int)) then (k rows0 ((0 : Int)) ((2 : Int))) else
 (Fn44 m s0 rows0 (fun i1 b2 r3 => bif !b2 then (k rows0 i1 ((9 : Int))) else
 (Fn8 m r3 (fun i4 => bif i4 != (0 : Int) then (k rows0 ((0 : Int)) i4) else
 (k r3 ((0 : Int)) ((0 : Int)))))))
noncomputable def brFn15 (m : Nat) (T : Tbl) (R : Type) (vs : List V) (k : V → List V → Option R) : Option R := match vs with
 | [.f (.lit (.string s0))] => Fn15 m s0 (fun r5 i6 i7 => k (V.tup (W61 r5 i6 i7)) W15)
 | _ => T R 15 vs k
set_option maxRecDepth 100000 in
theorem evFn15 (m : Nat) (R : Type) (s0 : ByteArray) (k : V → List V → Option R) : runK Tryz.prog H (T64 m) (L26 m) 15 (W16 s0) k = Fn15 (m + 1) s0 (fun r5 i6 i7 => k (V.tup (W61 r5 i6 i7)) W15) := by kernel_rfl
noncomputable def T65 (m : Nat) : Tbl := addT 15 (brFn15 m (T64 m)) (T64 m)
theorem okT65 (m : Nat) : TblOk Tryz.prog (T65 m) := addT_ok (okT64 m) fun R vs k x h => by
 unfold brFn15 at h
 split at h
 ·cases m with
  | zero => cases h
  | succ m => exact runK_some (okT64 m) hM (okL26 m) ((evFn15 m R _ k).trans h)
 ·exact okT64 m R 15 _ k x h

abbrev W66 (a0 a1 : Abs.Rows) (a2 : Bool) (a3 a4 : Int) : List V := [.bor [.int .i64, .int .i64, .str] a0, .bor [.int .i64, .int .i64, .str] a1, .f (.lit (.bool a2)), .f (.lit (.int .i64 a3)), .f (.lit (.int .i64 a4)), .undef, .undef]
/-- - -/
noncomputable def Lp16_5_step {R : Type} (m : Nat) (kx0 : Bool → Int → Option R) (kx1 : Int → Option R) (r0 r1 : Abs.Rows) (b2 : Bool) (i3 : Int) (REC : Int → Option R) (i4 : Int) : Option R :=
 bif decide (i4 < i3) then (bif decide ((0 : Int) ≤ i4 ∧ i4 < (↑(List.length r0) : Int)) then (bif decide ((0 : Int) ≤ i4 ∧ i4 < (↑(List.length r1) : Int)) then (bif !(fI r0 (Int.toNat i4) (0 : Nat) == fI r1 (Int.toNat i4) (0 : Nat) && (fI r0 (Int.toNat i4) (1 : Nat) == fI r1 (Int.toNat i4) (1 : Nat) && (fS r0 (Int.toNat i4) (2 : Nat) == fS r1 (Int.toNat i4) (2 : Nat) && true))) then (kx0 false i4) else
 (REC (IntKind.wrap IntKind.i64 (i4 + (1 : Int))))) else
 (none)) else
 (none)) else
 (kx1 i4)
noncomputable def Lp16_5 {R : Type} (m : Nat) (kx0 : Bool → Int → Option R) (kx1 : Int → Option R) (r0 r1 : Abs.Rows) (b2 : Bool) (i3 : Int) : Nat → Int → Option R
 | 0, _ => none
 | n + 1, i4 => Lp16_5_step m kx0 kx1 r0 r1 b2 i3 (Lp16_5 m kx0 kx1 r0 r1 b2 i3 n) i4
noncomputable def ELp16_5 (m : Nat) (R : Type) : Nat → List V → (Ex → List V → Option R) → Option R
 | 0, _, _ => none
 | n + 1, vs, k => match vs with
  | [.bor [.int .i64, .int .i64, .str] r0, .bor [.int .i64, .int .i64, .str] r1, .f (.lit (.bool b2)), .f (.lit (.int .i64 i3)), .f (.lit (.int .i64 i4)), .undef, .undef] => Lp16_5_step m (fun b5 i6 => k Ex.ret (W66 r0 r1 b5 i3 i6)) (fun i7 => k (Ex.exit (0 : Nat)) (W66 r0 r1 b2 i3 i7)) r0 r1 b2 i3 (fun i4 => ELp16_5 m R n (W66 r0 r1 b2 i3 i4) k) i4
  | _ => none
noncomputable def brLp16_5 (m : Nat) (L : LTbl) (R : Type) (vs : List V) (k : Ex → List V → Option R) : Option R := match vs with
 | [.bor [.int .i64, .int .i64, .str] r0, .bor [.int .i64, .int .i64, .str] r1, .f (.lit (.bool b2)), .f (.lit (.int .i64 i3)), .f (.lit (.int .i64 i4)), .undef, .undef] => Lp16_5 m (fun b5 i6 => k Ex.ret (W66 r0 r1 b5 i3 i6)) (fun i7 => k (Ex.exit (0 : Nat)) (W66 r0 r1 b2 i3 i7)) r0 r1 b2 i3 m i4
 | _ => L R 16 5 vs k
set_option maxRecDepth 100000 in
theorem stLp16_5 (m n : Nat) (R : Type) (r0 r1 : Abs.Rows) (b2 : Bool) (i3 i4 : Int) (k : Ex → List V → Option R) : codeK Tryz.prog H (T65 m) 16 (L26 m) 6 (loopBody Tryz.prog 16 5) (mkEnv [0, 1, 4, 12, 13, 26, 27] (W66 r0 r1 b2 i3 i4) 0 (H.len 16)) (fun e env' => match e with | .normal => ELp16_5 m R n (vals [0, 1, 4, 12, 13, 26, 27] env') k | e => k e (vals [0, 1, 4, 12, 13, 26, 27] env')) = Lp16_5_step m (fun b5 i6 => k Ex.ret (W66 r0 r1 b5 i3 i6)) (fun i7 => k (Ex.exit (0 : Nat)) (W66 r0 r1 b2 i3 i7)) r0 r1 b2 i3 (fun i4 => ELp16_5 m R n (W66 r0 r1 b2 i3 i4) k) i4 := by kernel_rfl
theorem eqLp16_5 (m : Nat) (R : Type) (r0 r1 : Abs.Rows) (b2 : Bool) (i3 : Int) (k : Ex → List V → Option R) : ∀ (n : Nat) (i4 : Int), ELp16_5 m R n (W66 r0 r1 b2 i3 i4) k = Lp16_5 m (fun b5 i6 => k Ex.ret (W66 r0 r1 b5 i3 i6)) (fun i7 => k (Ex.exit (0 : Nat)) (W66 r0 r1 b2 i3 i7)) r0 r1 b2 i3 n i4
 | 0, _ => rfl
 | n + 1, i4 => by
  simp only [ELp16_5, Lp16_5, W66]
  congr 1
  funext i4
  exact eqLp16_5 m R r0 r1 b2 i3 k n i4
noncomputable def L27 (m : Nat) : LTbl := addB 16 5 (brLp16_5 m (L26 m)) (L26 m)
theorem okL27 (m : Nat) : LTOk Tryz.prog H (L27 m) := addB_ok (okT65 m) hM (okL26 m) (l := [0, 1, 4, 12, 13, 26, 27]) (by kernel_rfl) (by kernel_rfl) m (fun R n vs k => ELp16_5 m R n vs k) (fun R vs k => rfl) (fun R n vs k x h => by
   simp only [ELp16_5] at h
   split at h
   ·exact (stLp16_5 m n R _ _ _ _ _ k).trans h
   ·cases h) fun R vs k x h => by
  unfold brLp16_5 at h
  split at h
  ·exact .inl ((eqLp16_5 m R _ _ _ _ k m _).trans h)
  ·exact .inr h

/-- - -/
noncomputable def Fn16 {R : Type} (m : Nat) : Abs.Rows → Abs.Rows → (Bool → Option R) → Option R := match m with
 | 0 => fun _ _ _ => none
 | m + 1 => fun r0 r1 k =>
 bif (↑(List.length r0) : Int) != (↑(List.length r1) : Int) then (k false) else
 (Lp16_5 m (fun b2 i3 => k b2) (fun i4 => k true) r0 r1 false ((↑(List.length r0) : Int)) m ((0 : Int)))
noncomputable def brFn16 (m : Nat) (T : Tbl) (R : Type) (vs : List V) (k : V → List V → Option R) : Option R := match vs with
 | [.bor [.int .i64, .int .i64, .str] r0, .bor [.int .i64, .int .i64, .str] r1] => Fn16 m r0 r1 (fun b5 => k (V.f (F.lit (Value.bool b5))) W1)
 | _ => T R 16 vs k
set_option maxRecDepth 100000 in
theorem evFn16 (m : Nat) (R : Type) (r0 r1 : Abs.Rows) (k : V → List V → Option R) : runK Tryz.prog H (T65 m) (L27 m) 16 (W38 r0 r1) k = Fn16 (m + 1) r0 r1 (fun b5 => k (V.f (F.lit (Value.bool b5))) W1) := by kernel_rfl
noncomputable def T66 (m : Nat) : Tbl := addT 16 (brFn16 m (T65 m)) (T65 m)
theorem okT66 (m : Nat) : TblOk Tryz.prog (T66 m) := addT_ok (okT65 m) fun R vs k x h => by
 unfold brFn16 at h
 split at h
 ·cases m with
  | zero => cases h
  | succ m => exact runK_some (okT65 m) hM (okL27 m) ((evFn16 m R _ _ k).trans h)
 ·exact okT65 m R 16 _ k x h

abbrev W67 (a0 : Int) : List V := [.f (.lit (.int .u8 a0))]
/-- - -/
noncomputable def Fn48 {R : Type} (m : Nat) : Int → (Int → Option R) → Option R := match m with
 | 0 => fun _ _ => none
 | m + 1 => fun i0 k =>
 bif decide ((0 : Int) ≤ Int.tmod (IntKind.wrap IntKind.i64 (Int.tdiv (IntKind.wrap IntKind.i64 ((255 : Int) - IntKind.wrap IntKind.i64 i0)) (16 : Int))) (8 : Int)) then (letV (IntKind.wrap IntKind.i64 (IntKind.wrap IntKind.i64 (IntKind.wrap IntKind.i64 ((2 : Int) * Int.tmod (IntKind.wrap IntKind.i64 ((255 : Int) - IntKind.wrap IntKind.i64 i0)) (16 : Int)) + (33 : Int)) * (2 : Int) ^ min (Int.toNat (Int.tmod (IntKind.wrap IntKind.i64 (Int.tdiv (IntKind.wrap IntKind.i64 ((255 : Int) - IntKind.wrap IntKind.i64 i0)) (16 : Int))) (8 : Int))) (64 : Nat))) (fun i1 => bif IntKind.wrap IntKind.i64 (Int.tdiv (IntKind.wrap IntKind.i64 ((255 : Int) - IntKind.wrap IntKind.i64 i0)) (128 : Int)) == (1 : Int) then (k (IntKind.wrap IntKind.i64 (IntKind.wrap IntKind.i64 ((0 : Int) - IntKind.wrap IntKind.i64 (IntKind.wrap IntKind.i64 (i1 - (33 : Int)) * (4 : Int))) - (1 : Int)))) else
 (k (IntKind.wrap IntKind.i64 (IntKind.wrap IntKind.i64 (i1 - (33 : Int)) * (4 : Int)))))) else
 (none)
noncomputable def brFn48 (m : Nat) (T : Tbl) (R : Type) (vs : List V) (k : V → List V → Option R) : Option R := match vs with
 | [.f (.lit (.int .u8 i0))] => Fn48 m i0 (fun i2 => k (V.f (F.lit (Value.int IntKind.i64 i2))) W15)
 | _ => T R 48 vs k
set_option maxRecDepth 100000 in
theorem evFn48 (m : Nat) (R : Type) (i0 : Int) (k : V → List V → Option R) : runK Tryz.prog H (T66 m) (L27 m) 48 (W67 i0) k = Fn48 (m + 1) i0 (fun i2 => k (V.f (F.lit (Value.int IntKind.i64 i2))) W15) := by kernel_rfl
noncomputable def T67 (m : Nat) : Tbl := addT 48 (brFn48 m (T66 m)) (T66 m)
theorem okT67 (m : Nat) : TblOk Tryz.prog (T67 m) := addT_ok (okT66 m) fun R vs k x h => by
 unfold brFn48 at h
 split at h
 ·cases m with
  | zero => cases h
  | succ m => exact runK_some (okT66 m) hM (okL27 m) ((evFn48 m R _ k).trans h)
 ·exact okT66 m R 48 _ k x h

/-- - -/
noncomputable def Fn17 {R : Type} (m : Nat) : (Bool → Option R) → Option R := match m with
 | 0 => fun _ => none
 | m + 1 => fun  k =>
 Fn48 m ((128 : Int)) (fun i0 => k (i0 == (32124 : Int)))
noncomputable def brFn17 (m : Nat) (T : Tbl) (R : Type) (vs : List V) (k : V → List V → Option R) : Option R := match vs with
 | [] => Fn17 m  (fun b1 => k (V.f (F.lit (Value.bool b1))) [])
 | _ => T R 17 vs k
set_option maxRecDepth 100000 in
theorem evFn17 (m : Nat) (R : Type)  (k : V → List V → Option R) : runK Tryz.prog H (T67 m) (L27 m) 17 [] k = Fn17 (m + 1)  (fun b1 => k (V.f (F.lit (Value.bool b1))) []) := by kernel_rfl
noncomputable def T68 (m : Nat) : Tbl := addT 17 (brFn17 m (T67 m)) (T67 m)
theorem okT68 (m : Nat) : TblOk Tryz.prog (T68 m) := addT_ok (okT67 m) fun R vs k x h => by
 unfold brFn17 at h
 split at h
 ·cases m with
  | zero => cases h
  | succ m => exact runK_some (okT67 m) hM (okL27 m) ((evFn17 m R k).trans h)
 ·exact okT67 m R 17 _ k x h

abbrev W68 (a0 : Bool) (a1 : ByteArray) (a2 : Abs.Rows) (a3 : Int) (a4 : ByteArray) (a5 a6 a7 : Int) (a8 : Abs.Rows) (a9 : ByteArray) (a10 : Int) : List V := [.f (.lit (.bool a0)), .f (.lit (.string a1)), .own [.int .i64, .int .i64, .str] a2, .f (.lit (.int .i64 a3)), .f (.lit (.string a4)), .f (.lit (.int .i64 a5)), .f (.lit (.int .i64 a6)), .f (.lit (.int .i64 a7)), .own [.int .i64, .int .i64, .str] a8, .f (.lit (.string a9)), .tup [.undef, .f (.lit (.int .i64 a10))], .undef, .undef, .undef, .undef]
/-- - -/
noncomputable def Jn3_15 {R : Type} (m : Nat) (kx0 : Bool → Option R) (b0 : Bool) (s1 : ByteArray) (r2 : Abs.Rows) (i3 : Int) (s4 : ByteArray) (i5 i6 i7 : Int) (r8 : Abs.Rows) (s9 : ByteArray) (i10 : Int) : Option R :=
 Fn14 m s1 (fun r11 i12 i13 => Fn15 m s1 (fun r14 i15 i16 => bif i3 == i7 then (Fn16 m r2 r8 (fun b17 => bif b17 then (bif i5 == i6 then (bif ByteArray.toList s4 == ByteArray.toList s9 then (Fn16 m r11 r14 (fun b18 => bif b18 then (bif i12 == i15 then (bif i13 == i16 then (Fn17 m  (fun b19 => kx0 b19)) else
 (kx0 false)) else
 (kx0 false)) else
 (kx0 false))) else
 (kx0 false)) else
 (kx0 false)) else
 (kx0 false))) else
 (kx0 false)))
noncomputable def brJn3_15 (m : Nat) (L : LTbl) (R : Type) (vs : List V) (k : Ex → List V → Option R) : Option R := match vs with
 | [.f (.lit (.bool b0)), .f (.lit (.string s1)), .own [.int .i64, .int .i64, .str] r2, .f (.lit (.int .i64 i3)), .f (.lit (.string s4)), .f (.lit (.int .i64 i5)), .f (.lit (.int .i64 i6)), .f (.lit (.int .i64 i7)), .own [.int .i64, .int .i64, .str] r8, .f (.lit (.string s9)), .tup [.undef, .f (.lit (.int .i64 i10))], .undef, .undef, .undef, .undef] => Jn3_15 m (fun b20 => k Ex.ret (W68 b20 s1 r2 i3 s4 i5 i6 i7 r8 s9 i10)) b0 s1 r2 i3 s4 i5 i6 i7 r8 s9 i10
 | _ => L R 3 15 vs k
set_option maxRecDepth 100000 in
theorem evJn3_15 (m : Nat) (R : Type) (b0 : Bool) (s1 : ByteArray) (r2 : Abs.Rows) (i3 : Int) (s4 : ByteArray) (i5 i6 i7 : Int) (r8 : Abs.Rows) (s9 : ByteArray) (i10 : Int) (k : Ex → List V → Option R) : codeK Tryz.prog H (T68 m) 3 (L27 m) 16 (loopBody Tryz.prog 3 15) (mkEnv [2, 6, 7, 8, 9, 10, 11, 12, 13, 14, 30, 33, 34, 57, 114] (W68 b0 s1 r2 i3 s4 i5 i6 i7 r8 s9 i10) 0 (H.len 3)) (fun e env' => k e (vals [2, 6, 7, 8, 9, 10, 11, 12, 13, 14, 30, 33, 34, 57, 114] env')) = Jn3_15 m (fun b20 => k Ex.ret (W68 b20 s1 r2 i3 s4 i5 i6 i7 r8 s9 i10)) b0 s1 r2 i3 s4 i5 i6 i7 r8 s9 i10 := by kernel_rfl
noncomputable def L28 (m : Nat) : LTbl := addJ 3 15 (brJn3_15 m (L27 m)) (L27 m)
theorem okL28 (m : Nat) : LTOk Tryz.prog H (L28 m) := addJ_ok (okT68 m) hM (okL27 m) (l := [2, 6, 7, 8, 9, 10, 11, 12, 13, 14, 30, 33, 34, 57, 114]) (by kernel_rfl) (by kernel_rfl) fun R vs k x h => by
  unfold brJn3_15 at h
  split at h
  ·exact .inl ((evJn3_15 m R _ _ _ _ _ _ _ _ _ _ _ k).trans h)
  ·exact .inr h

abbrev W69 (a0 : Bool) (a1 : ByteArray) (a2 : Abs.Rows) (a3 : Int) (a4 : ByteArray) (a5 a6 a7 : Int) (a8 : Abs.Rows) (a9 : Int) : List V := [.f (.lit (.bool a0)), .undef, .f (.lit (.string a1)), .own [.int .i64, .int .i64, .str] a2, .f (.lit (.int .i64 a3)), .f (.lit (.string a4)), .f (.lit (.int .i64 a5)), .f (.lit (.int .i64 a6)), .f (.lit (.int .i64 a7)), .own [.int .i64, .int .i64, .str] a8, .undef, .tup [.undef, .f (.lit (.int .i64 a9))], .undef, .undef, .undef, .undef]
abbrev W70 (a0 : Bool) (a1 : Abs.Rows) (a2 : ByteArray) (a3 : Abs.Rows) (a4 : Int) (a5 : ByteArray) (a6 a7 a8 : Int) (a9 : Abs.Rows) (a10 : Int) : List V := [.f (.lit (.bool a0)), .own [.int .i64, .int .i64, .str] a1, .f (.lit (.string a2)), .own [.int .i64, .int .i64, .str] a3, .f (.lit (.int .i64 a4)), .f (.lit (.string a5)), .f (.lit (.int .i64 a6)), .f (.lit (.int .i64 a7)), .f (.lit (.int .i64 a8)), .own [.int .i64, .int .i64, .str] a9, .undef, .tup [.undef, .f (.lit (.int .i64 a10))], .undef, .undef, .undef, .undef]
/-- - -/
noncomputable def Jn3_12 {R : Type} (m : Nat) (kx0 : Bool → Option R) (b0 : Bool) (r1 : Abs.Rows) (s2 : ByteArray) (r3 : Abs.Rows) (i4 : Int) (s5 : ByteArray) (i6 i7 i8 : Int) (r9 : Abs.Rows) (i10 : Int) : Option R :=
 bif i7 == (0 : Int) then (Fn13 m r1 (fun s11 => Jn3_15 m (fun b12 => kx0 b12) b0 s2 r3 i4 s5 i6 i7 i8 r9 s11 i10)) else
 (Jn3_15 m (fun b13 => kx0 b13) b0 s2 r3 i4 s5 i6 i7 i8 r9 ({ data := #[] }) i10)
noncomputable def brJn3_12 (m : Nat) (L : LTbl) (R : Type) (vs : List V) (k : Ex → List V → Option R) : Option R := match vs with
 | [.f (.lit (.bool b0)), .own [.int .i64, .int .i64, .str] r1, .f (.lit (.string s2)), .own [.int .i64, .int .i64, .str] r3, .f (.lit (.int .i64 i4)), .f (.lit (.string s5)), .f (.lit (.int .i64 i6)), .f (.lit (.int .i64 i7)), .f (.lit (.int .i64 i8)), .own [.int .i64, .int .i64, .str] r9, .undef, .tup [.undef, .f (.lit (.int .i64 i10))], .undef, .undef, .undef, .undef] => Jn3_12 m (fun b14 => k Ex.ret (W69 b14 s2 r3 i4 s5 i6 i7 i8 r9 i10)) b0 r1 s2 r3 i4 s5 i6 i7 i8 r9 i10
 | _ => L R 3 12 vs k
set_option maxRecDepth 100000 in
theorem evJn3_12 (m : Nat) (R : Type) (b0 : Bool) (r1 : Abs.Rows) (s2 : ByteArray) (r3 : Abs.Rows) (i4 : Int) (s5 : ByteArray) (i6 i7 i8 : Int) (r9 : Abs.Rows) (i10 : Int) (k : Ex → List V → Option R) : codeK Tryz.prog H (T68 m) 3 (L28 m) 13 (loopBody Tryz.prog 3 12) (mkEnv [2, 4, 6, 7, 8, 9, 10, 11, 12, 13, 25, 30, 33, 34, 57, 114] (W70 b0 r1 s2 r3 i4 s5 i6 i7 i8 r9 i10) 0 (H.len 3)) (fun e env' => k e (vals [2, 4, 6, 7, 8, 9, 10, 11, 12, 13, 25, 30, 33, 34, 57, 114] env')) = Jn3_12 m (fun b14 => k Ex.ret (W69 b14 s2 r3 i4 s5 i6 i7 i8 r9 i10)) b0 r1 s2 r3 i4 s5 i6 i7 i8 r9 i10 := by kernel_rfl
noncomputable def L29 (m : Nat) : LTbl := addJ 3 12 (brJn3_12 m (L28 m)) (L28 m)
theorem okL29 (m : Nat) : LTOk Tryz.prog H (L29 m) := addJ_ok (okT68 m) hM (okL28 m) (l := [2, 4, 6, 7, 8, 9, 10, 11, 12, 13, 25, 30, 33, 34, 57, 114]) (by kernel_rfl) (by kernel_rfl) fun R vs k x h => by
  unfold brJn3_12 at h
  split at h
  ·exact .inl ((evJn3_12 m R _ _ _ _ _ _ _ _ _ _ _ k).trans h)
  ·exact .inr h

abbrev W71 (a0 : Abs.Rows) : List V := [.f (.lst [.int .i64] a0)]
/-- - -/
noncomputable def Fn3 {R : Type} (m : Nat) : Abs.Rows → (Bool → Option R) → Option R := match m with
 | 0 => fun _ _ => none
 | m + 1 => fun r0 k =>
 Fn4 m r0 ((0 : Int)) (fun r1 i2 => Fn4 m r0 i2 (fun r3 i4 => Fn5 m r0 i4 (fun s5 i6 => Fn6 m r1 r3 (fun r7 i8 => Fn7 m r1 (fun s9 i10 => Fn8 m r1 (fun i11 => Fn8 m r1 (fun i12 => Fn8 m r3 (fun i13 => Fn9 m ([[F.lit (Value.int IntKind.i64 i12)], [F.lit (Value.int IntKind.i64 i13)]]) (fun i14 => Fn10 m r1 (fun i15 => bif i15 != i11 then (k false) else
 (bif i14 == (0 : Int) then (Fn11 m r1 r3 (fun r16 => Fn12 m ((↑(List.length r16) : Int) == (0 : Int)) ((8 : Int)) (fun i17 => Jn3_12 m (fun b18 => k b18) false r1 s5 r7 i8 s9 i10 i11 i17 r16 i8))) else
 (Jn3_12 m (fun b19 => k b19) false r1 s5 r7 i8 s9 i10 i11 i14 rows0 i8))))))))))))
noncomputable def brFn3 (m : Nat) (T : Tbl) (R : Type) (vs : List V) (k : V → List V → Option R) : Option R := match vs with
 | [.f (.lst [.int .i64] r0)] => Fn3 m r0 (fun b20 => k (V.f (F.lit (Value.bool b20))) W15)
 | _ => T R 3 vs k
set_option maxRecDepth 100000 in
theorem evFn3 (m : Nat) (R : Type) (r0 : Abs.Rows) (k : V → List V → Option R) : runK Tryz.prog H (T68 m) (L29 m) 3 (W71 r0) k = Fn3 (m + 1) r0 (fun b20 => k (V.f (F.lit (Value.bool b20))) W15) := by kernel_rfl
noncomputable def T69 (m : Nat) : Tbl := addT 3 (brFn3 m (T68 m)) (T68 m)
theorem okT69 (m : Nat) : TblOk Tryz.prog (T69 m) := addT_ok (okT68 m) fun R vs k x h => by
 unfold brFn3 at h
 split at h
 ·cases m with
  | zero => cases h
  | succ m => exact runK_some (okT68 m) hM (okL29 m) ((evFn3 m R _ k).trans h)
 ·exact okT68 m R 3 _ k x h

end Go.Proofs.YtjhfbmhblpjigaaGreatDoor.Med
end
