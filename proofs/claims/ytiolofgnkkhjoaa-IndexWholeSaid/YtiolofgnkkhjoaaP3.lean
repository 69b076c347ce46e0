/- Texts that the proofs of this claim share, part 3: the abstract logic, plain Lean on values and batches, and walks. No condition but those typed in each lemma. -/
import Derived.Test.YtiolofgnkkhjoaaProg
import Derived.KernelRfl
import Derived.ReadAgain
import Derived.ChangeOld
import Derived.ChangeShapes
import Derived.SizedLaws
import Derived.LaidHandle
import Derived.Maps.RangeRun
import Derived.Sort.OwnSorted
import Derived.Test.YtiolofgnkkhjoaaP2
set_option linter.unusedSimpArgs false
set_option linter.unusedVariables false
set_option maxHeartbeats 400000
namespace Go.Proofs
open Go Go.Al
set_option maxRecDepth 10000
theorem yR : Try.prog.follows .mixedOrders = true := by kernel_rfl
def Γ0 : List (Nat × AV) := []
def z1 : AV := .v .nilFunc
def z2 : AV := .v (.int .i64 0)
theorem tA3 : yY Try.prog 3 = some false := by kernel_rfl
theorem tS3 : zr Try.prog 3 = some 1 := by kernel_rfl
def z3 : AV := .v (.int .i64 0)
theorem zv3 : xe Try.prog 3 = some (.int .i64 0) := by kernel_rfl
theorem by3 : (Try.prog.info? 3).map (·.bytes) = some 8 := by kernel_rfl
theorem tZ3 : yK Try.prog 3 z3 := ⟨.int .i64 0, by kernel_rfl, by kernel_rfl⟩
theorem tA4 : yY Try.prog 4 = some false := by kernel_rfl
theorem tS4 : zr Try.prog 4 = some 1 := by kernel_rfl
def z4 : AV := .v (.bool false)
theorem tZ4 : yK Try.prog 4 z4 := ⟨.bool false, by kernel_rfl, by kernel_rfl⟩
theorem tA5 : yY Try.prog 5 = some false := by kernel_rfl
theorem tS5 : zr Try.prog 5 = some 1 := by kernel_rfl
theorem tA9 : yY Try.prog 9 = some false := by kernel_rfl
theorem tS9 : zr Try.prog 9 = some 1 := by kernel_rfl
theorem tA22 : yY Try.prog 22 = some false := by kernel_rfl
theorem tS22 : zr Try.prog 22 = some 1 := by kernel_rfl
theorem tA24 : yY Try.prog 24 = some true := by kernel_rfl
theorem tS24 : zr Try.prog 24 = some 1 := by kernel_rfl
def z24 : AV := .agg [.v (.slice none 0 0)]
theorem tZ24 : yK Try.prog 24 z24 := ⟨.agg #[.slice none 0 0], by kernel_rfl, by kernel_rfl⟩
def zs24 : AV := .agg [.sl 2 []]
theorem tU24 : yK Try.prog 24 zs24 := ⟨.agg #[.slice none 0 0], by kernel_rfl, by kernel_rfl⟩
theorem fa24_0 : fieldAt Try.prog 24 0 0 1 false := ⟨_, _, Try.underlying24, rfl, rfl, tS22, tA22⟩
theorem pl24 : yv Try.prog (Program.fieldsOf Try.prog 24).toList = some [(0, 1)] := by kernel_rfl
theorem us24 : Try.prog.underlying 24 = some (.struct (Program.fieldsOf Try.prog 24)) := by kernel_rfl
theorem tA26 : yY Try.prog 26 = some true := by kernel_rfl
theorem tS26 : zr Try.prog 26 = some 16 := by kernel_rfl
theorem eg26 : Try.prog.eqGuardType Try.prog.depth 26 = false := by kernel_rfl
theorem tA28 : yY Try.prog 28 = some true := by kernel_rfl
theorem tS28 : zr Try.prog 28 = some 8 := by kernel_rfl
def zs28 : AV := .arr 8 (List.replicate 8 0)
theorem tU28 : yK Try.prog 28 zs28 := ⟨.agg #[.int .u8 0, .int .u8 0, .int .u8 0, .int .u8 0, .int .u8 0, .int .u8 0, .int .u8 0, .int .u8 0], by kernel_rfl, by kernel_rfl⟩
theorem eg28 : Try.prog.eqGuardType Try.prog.depth 28 = false := by kernel_rfl
theorem tA31 : yY Try.prog 31 = some false := by kernel_rfl
theorem tS31 : zr Try.prog 31 = some 1 := by kernel_rfl
def z31 : AV := .v (.pointer none)
theorem tZ31 : yK Try.prog 31 z31 := ⟨.pointer none, by kernel_rfl, by kernel_rfl⟩
theorem tA38 : yY Try.prog 38 = some true := by kernel_rfl
theorem tS38 : zr Try.prog 38 = some 3 := by kernel_rfl
def z38 : AV := .agg [.v (.int .i64 0), .v (.int .i64 0), .v (.int .i64 0)]
theorem zv38 : xe Try.prog 38 = some (.agg #[.int .i64 0, .int .i64 0, .int .i64 0]) := by kernel_rfl
theorem by38 : (Try.prog.info? 38).map (·.bytes) = some 24 := by kernel_rfl
theorem tZ38 : yK Try.prog 38 z38 := ⟨.agg #[.int .i64 0, .int .i64 0, .int .i64 0], by kernel_rfl, by kernel_rfl⟩
def zs38 : AV := .agg [.v (.int .i64 0), .v (.int .i64 0), .v (.int .i64 0)]
theorem tU38 : yK Try.prog 38 zs38 := ⟨.agg #[.int .i64 0, .int .i64 0, .int .i64 0], by kernel_rfl, by kernel_rfl⟩
theorem fa38_2 : fieldAt Try.prog 38 2 2 1 false := ⟨_, _, Try.underlying38, rfl, rfl, tS3, tA3⟩
theorem pl38 : yv Try.prog (Program.fieldsOf Try.prog 38).toList = some [(0, 1), (1, 1), (2, 1)] := by kernel_rfl
theorem us38 : Try.prog.underlying 38 = some (.struct (Program.fieldsOf Try.prog 38)) := by kernel_rfl
theorem eg38 : Try.prog.eqGuardType Try.prog.depth 38 = false := by kernel_rfl
theorem tA42 : yY Try.prog 42 = some true := by kernel_rfl
theorem tS42 : zr Try.prog 42 = some 3 := by kernel_rfl
def z42 : AV := .agg [.v (.int .i64 0), .v (.int .i64 0), .v (.int .i64 0)]
theorem zv42 : xe Try.prog 42 = some (.agg #[.int .i64 0, .int .i64 0, .int .i64 0]) := by kernel_rfl
theorem by42 : (Try.prog.info? 42).map (·.bytes) = some 24 := by kernel_rfl
theorem tZ42 : yK Try.prog 42 z42 := ⟨.agg #[.int .i64 0, .int .i64 0, .int .i64 0], by kernel_rfl, by kernel_rfl⟩
def zs42 : AV := .agg [.v (.int .i64 0), .v (.int .i64 0), .v (.int .i64 0)]
theorem tU42 : yK Try.prog 42 zs42 := ⟨.agg #[.int .i64 0, .int .i64 0, .int .i64 0], by kernel_rfl, by kernel_rfl⟩
theorem fa42_0 : fieldAt Try.prog 42 0 0 1 false := ⟨_, _, Try.underlying42, rfl, rfl, tS3, tA3⟩
theorem fa42_1 : fieldAt Try.prog 42 1 1 1 false := ⟨_, _, Try.underlying42, rfl, rfl, tS3, tA3⟩
theorem fa42_2 : fieldAt Try.prog 42 2 2 1 false := ⟨_, _, Try.underlying42, rfl, rfl, tS3, tA3⟩
theorem pl42 : yv Try.prog (Program.fieldsOf Try.prog 42).toList = some [(0, 1), (1, 1), (2, 1)] := by kernel_rfl
theorem us42 : Try.prog.underlying 42 = some (.struct (Program.fieldsOf Try.prog 42)) := by kernel_rfl
theorem eg42 : Try.prog.eqGuardType Try.prog.depth 42 = false := by kernel_rfl
theorem tA44 : yY Try.prog 44 = some true := by kernel_rfl
theorem tS44 : zr Try.prog 44 = some 35 := by kernel_rfl
def z44 : AV := .agg [.arr 16 (List.replicate 16 0), .arr 8 (List.replicate 8 0), .arr 8 (List.replicate 8 0), .v (.string .empty), .v (.int .i64 0), .v (.int .i64 0)]
theorem zv44 : xe Try.prog 44 = some (.agg #[.int .u8 0, .int .u8 0, .int .u8 0, .int .u8 0, .int .u8 0, .int .u8 0, .int .u8 0, .int .u8 0, .int .u8 0, .int .u8 0, .int .u8 0, .int .u8 0, .int .u8 0, .int .u8 0, .int .u8 0, .int .u8 0, .int .u8 0, .int .u8 0, .int .u8 0, .int .u8 0, .int .u8 0, .int .u8 0, .int .u8 0, .int .u8 0, .int .u8 0, .int .u8 0, .int .u8 0, .int .u8 0, .int .u8 0, .int .u8 0, .int .u8 0, .int .u8 0, .string .empty, .int .i64 0, .int .i64 0]) := by kernel_rfl
theorem by44 : (Try.prog.info? 44).map (·.bytes) = some 64 := by kernel_rfl
theorem tZ44 : yK Try.prog 44 z44 := ⟨.agg #[.int .u8 0, .int .u8 0, .int .u8 0, .int .u8 0, .int .u8 0, .int .u8 0, .int .u8 0, .int .u8 0, .int .u8 0, .int .u8 0, .int .u8 0, .int .u8 0, .int .u8 0, .int .u8 0, .int .u8 0, .int .u8 0, .int .u8 0, .int .u8 0, .int .u8 0, .int .u8 0, .int .u8 0, .int .u8 0, .int .u8 0, .int .u8 0, .int .u8 0, .int .u8 0, .int .u8 0, .int .u8 0, .int .u8 0, .int .u8 0, .int .u8 0, .int .u8 0, .string .empty, .int .i64 0, .int .i64 0], by kernel_rfl, by kernel_rfl⟩
def zs44 : AV := .agg [.arr 16 (List.replicate 16 0), .arr 8 (List.replicate 8 0), .arr 8 (List.replicate 8 0), .v (.string .empty), .v (.int .i64 0), .v (.int .i64 0)]
theorem tU44 : yK Try.prog 44 zs44 := ⟨.agg #[.int .u8 0, .int .u8 0, .int .u8 0, .int .u8 0, .int .u8 0, .int .u8 0, .int .u8 0, .int .u8 0, .int .u8 0, .int .u8 0, .int .u8 0, .int .u8 0, .int .u8 0, .int .u8 0, .int .u8 0, .int .u8 0, .int .u8 0, .int .u8 0, .int .u8 0, .int .u8 0, .int .u8 0, .int .u8 0, .int .u8 0, .int .u8 0, .int .u8 0, .int .u8 0, .int .u8 0, .int .u8 0, .int .u8 0, .int .u8 0, .int .u8 0, .int .u8 0, .string .empty, .int .i64 0, .int .i64 0], by kernel_rfl, by kernel_rfl⟩
theorem fa44_0 : fieldAt Try.prog 44 0 0 16 true := ⟨_, _, Try.underlying44, rfl, rfl, tS26, tA26⟩
theorem fa44_1 : fieldAt Try.prog 44 1 16 8 true := ⟨_, _, Try.underlying44, rfl, rfl, tS28, tA28⟩
theorem fa44_2 : fieldAt Try.prog 44 2 24 8 true := ⟨_, _, Try.underlying44, rfl, rfl, tS28, tA28⟩
theorem pl44 : yv Try.prog (Program.fieldsOf Try.prog 44).toList = some [(0, 16), (16, 8), (24, 8), (32, 1), (33, 1), (34, 1)] := by kernel_rfl
theorem us44 : Try.prog.underlying 44 = some (.struct (Program.fieldsOf Try.prog 44)) := by kernel_rfl
theorem eg44 : Try.prog.eqGuardType Try.prog.depth 44 = false := by kernel_rfl
theorem tA46 : yY Try.prog 46 = some false := by kernel_rfl
theorem tS46 : zr Try.prog 46 = some 1 := by kernel_rfl
theorem zv46 : xe Try.prog 46 = some (.slice none 0 0) := by kernel_rfl
theorem tA53 : yY Try.prog 53 = some false := by kernel_rfl
theorem tS53 : zr Try.prog 53 = some 1 := by kernel_rfl
def z53 : AV := .v (.slice none 0 0)
theorem tZ53 : yK Try.prog 53 z53 := ⟨.slice none 0 0, by kernel_rfl, by kernel_rfl⟩
theorem tA55 : yY Try.prog 55 = some true := by kernel_rfl
theorem tS55 : zr Try.prog 55 = some 35 := by kernel_rfl
def z55 : AV := .agg [.arr 16 (List.replicate 16 0), .arr 8 (List.replicate 8 0), .arr 8 (List.replicate 8 0), .v (.string .empty), .v (.int .i64 0), .v (.int .i64 0)]
theorem zv55 : xe Try.prog 55 = some (.agg #[.int .u8 0, .int .u8 0, .int .u8 0, .int .u8 0, .int .u8 0, .int .u8 0, .int .u8 0, .int .u8 0, .int .u8 0, .int .u8 0, .int .u8 0, .int .u8 0, .int .u8 0, .int .u8 0, .int .u8 0, .int .u8 0, .int .u8 0, .int .u8 0, .int .u8 0, .int .u8 0, .int .u8 0, .int .u8 0, .int .u8 0, .int .u8 0, .int .u8 0, .int .u8 0, .int .u8 0, .int .u8 0, .int .u8 0, .int .u8 0, .int .u8 0, .int .u8 0, .string .empty, .int .i64 0, .int .i64 0]) := by kernel_rfl
theorem by55 : (Try.prog.info? 55).map (·.bytes) = some 64 := by kernel_rfl
theorem tZ55 : yK Try.prog 55 z55 := ⟨.agg #[.int .u8 0, .int .u8 0, .int .u8 0, .int .u8 0, .int .u8 0, .int .u8 0, .int .u8 0, .int .u8 0, .int .u8 0, .int .u8 0, .int .u8 0, .int .u8 0, .int .u8 0, .int .u8 0, .int .u8 0, .int .u8 0, .int .u8 0, .int .u8 0, .int .u8 0, .int .u8 0, .int .u8 0, .int .u8 0, .int .u8 0, .int .u8 0, .int .u8 0, .int .u8 0, .int .u8 0, .int .u8 0, .int .u8 0, .int .u8 0, .int .u8 0, .int .u8 0, .string .empty, .int .i64 0, .int .i64 0], by kernel_rfl, by kernel_rfl⟩
def zs55 : AV := .agg [.arr 16 (List.replicate 16 0), .arr 8 (List.replicate 8 0), .arr 8 (List.replicate 8 0), .v (.string .empty), .v (.int .i64 0), .v (.int .i64 0)]
theorem tU55 : yK Try.prog 55 zs55 := ⟨.agg #[.int .u8 0, .int .u8 0, .int .u8 0, .int .u8 0, .int .u8 0, .int .u8 0, .int .u8 0, .int .u8 0, .int .u8 0, .int .u8 0, .int .u8 0, .int .u8 0, .int .u8 0, .int .u8 0, .int .u8 0, .int .u8 0, .int .u8 0, .int .u8 0, .int .u8 0, .int .u8 0, .int .u8 0, .int .u8 0, .int .u8 0, .int .u8 0, .int .u8 0, .int .u8 0, .int .u8 0, .int .u8 0, .int .u8 0, .int .u8 0, .int .u8 0, .int .u8 0, .string .empty, .int .i64 0, .int .i64 0], by kernel_rfl, by kernel_rfl⟩
theorem fa55_4 : fieldAt Try.prog 55 4 33 1 false := ⟨_, _, Try.underlying55, rfl, rfl, tS3, tA3⟩
theorem fa55_5 : fieldAt Try.prog 55 5 34 1 false := ⟨_, _, Try.underlying55, rfl, rfl, tS3, tA3⟩
theorem pl55 : yv Try.prog (Program.fieldsOf Try.prog 55).toList = some [(0, 16), (16, 8), (24, 8), (32, 1), (33, 1), (34, 1)] := by kernel_rfl
theorem us55 : Try.prog.underlying 55 = some (.struct (Program.fieldsOf Try.prog 55)) := by kernel_rfl
theorem tA60 : yY Try.prog 60 = some false := by kernel_rfl
theorem tS60 : zr Try.prog 60 = some 1 := by kernel_rfl
theorem tA61 : yY Try.prog 61 = some false := by kernel_rfl
theorem tS61 : zr Try.prog 61 = some 1 := by kernel_rfl
theorem tA62 : yY Try.prog 62 = some false := by kernel_rfl
theorem tS62 : zr Try.prog 62 = some 1 := by kernel_rfl
theorem tA63 : yY Try.prog 63 = some false := by kernel_rfl
theorem tS63 : zr Try.prog 63 = some 1 := by kernel_rfl
theorem tA65 : yY Try.prog 65 = some true := by kernel_rfl
theorem tS65 : zr Try.prog 65 = some 2 := by kernel_rfl
theorem fa65_1 : fieldAt Try.prog 65 1 1 1 false := ⟨_, _, Try.underlying65, rfl, rfl, tS9, tA9⟩
theorem us65 : Try.prog.underlying 65 = some (.struct (Program.fieldsOf Try.prog 65)) := by kernel_rfl
theorem tA67 : yY Try.prog 67 = some true := by kernel_rfl
theorem tS67 : zr Try.prog 67 = some 42 := by kernel_rfl
def z67 : AV := .agg [.arr 16 (List.replicate 16 0), .arr 8 (List.replicate 8 0), .arr 8 (List.replicate 8 0), .v (.string .empty), .v (.string .empty), .v (.int .i64 0), .v (.int .u64 0), .v (.int .u64 0), .v (.slice none 0 0), .v (.slice none 0 0), .v (.slice none 0 0), .agg [.v (.int .i64 0), .v (.string .empty)]]
theorem tZ67 : yK Try.prog 67 z67 := ⟨.agg #[.int .u8 0, .int .u8 0, .int .u8 0, .int .u8 0, .int .u8 0, .int .u8 0, .int .u8 0, .int .u8 0, .int .u8 0, .int .u8 0, .int .u8 0, .int .u8 0, .int .u8 0, .int .u8 0, .int .u8 0, .int .u8 0, .int .u8 0, .int .u8 0, .int .u8 0, .int .u8 0, .int .u8 0, .int .u8 0, .int .u8 0, .int .u8 0, .int .u8 0, .int .u8 0, .int .u8 0, .int .u8 0, .int .u8 0, .int .u8 0, .int .u8 0, .int .u8 0, .string .empty, .string .empty, .int .i64 0, .int .u64 0, .int .u64 0, .slice none 0 0, .slice none 0 0, .slice none 0 0, .int .i64 0, .string .empty], by kernel_rfl, by kernel_rfl⟩
def zs67 : AV := .agg [.arr 16 (List.replicate 16 0), .arr 8 (List.replicate 8 0), .arr 8 (List.replicate 8 0), .v (.string .empty), .v (.string .empty), .v (.int .i64 0), .v (.int .u64 0), .v (.int .u64 0), .sl 7 [], .sl 3 [], .sl 26 [], .agg [.v (.int .i64 0), .v (.string .empty)]]
theorem tU67 : yK Try.prog 67 zs67 := ⟨.agg #[.int .u8 0, .int .u8 0, .int .u8 0, .int .u8 0, .int .u8 0, .int .u8 0, .int .u8 0, .int .u8 0, .int .u8 0, .int .u8 0, .int .u8 0, .int .u8 0, .int .u8 0, .int .u8 0, .int .u8 0, .int .u8 0, .int .u8 0, .int .u8 0, .int .u8 0, .int .u8 0, .int .u8 0, .int .u8 0, .int .u8 0, .int .u8 0, .int .u8 0, .int .u8 0, .int .u8 0, .int .u8 0, .int .u8 0, .int .u8 0, .int .u8 0, .int .u8 0, .string .empty, .string .empty, .int .i64 0, .int .u64 0, .int .u64 0, .slice none 0 0, .slice none 0 0, .slice none 0 0, .int .i64 0, .string .empty], by kernel_rfl, by kernel_rfl⟩
theorem fa67_0 : fieldAt Try.prog 67 0 0 16 true := ⟨_, _, Try.underlying67, rfl, rfl, tS26, tA26⟩
theorem fa67_1 : fieldAt Try.prog 67 1 16 8 true := ⟨_, _, Try.underlying67, rfl, rfl, tS28, tA28⟩
theorem fa67_2 : fieldAt Try.prog 67 2 24 8 true := ⟨_, _, Try.underlying67, rfl, rfl, tS28, tA28⟩
theorem fa67_3 : fieldAt Try.prog 67 3 32 1 false := ⟨_, _, Try.underlying67, rfl, rfl, tS9, tA9⟩
theorem fa67_4 : fieldAt Try.prog 67 4 33 1 false := ⟨_, _, Try.underlying67, rfl, rfl, tS9, tA9⟩
theorem fa67_6 : fieldAt Try.prog 67 6 35 1 false := ⟨_, _, Try.underlying67, rfl, rfl, tS60, tA60⟩
theorem fa67_7 : fieldAt Try.prog 67 7 36 1 false := ⟨_, _, Try.underlying67, rfl, rfl, tS60, tA60⟩
theorem fa67_8 : fieldAt Try.prog 67 8 37 1 false := ⟨_, _, Try.underlying67, rfl, rfl, tS61, tA61⟩
theorem fa67_9 : fieldAt Try.prog 67 9 38 1 false := ⟨_, _, Try.underlying67, rfl, rfl, tS62, tA62⟩
theorem fa67_10 : fieldAt Try.prog 67 10 39 1 false := ⟨_, _, Try.underlying67, rfl, rfl, tS63, tA63⟩
theorem fa67_11 : fieldAt Try.prog 67 11 40 2 true := ⟨_, _, Try.underlying67, rfl, rfl, tS65, tA65⟩
theorem pl67 : yv Try.prog (Program.fieldsOf Try.prog 67).toList = some [(0, 16), (16, 8), (24, 8), (32, 1), (33, 1), (34, 1), (35, 1), (36, 1), (37, 1), (38, 1), (39, 1), (40, 2)] := by kernel_rfl
theorem us67 : Try.prog.underlying 67 = some (.struct (Program.fieldsOf Try.prog 67)) := by kernel_rfl
theorem tA69 : yY Try.prog 69 = some false := by kernel_rfl
theorem tS69 : zr Try.prog 69 = some 1 := by kernel_rfl
theorem tA71 : yY Try.prog 71 = some true := by kernel_rfl
theorem tS71 : zr Try.prog 71 = some 2 := by kernel_rfl
def z71 : AV := .agg [.v (.slice none 0 0), .v (.slice none 0 0)]
theorem tZ71 : yK Try.prog 71 z71 := ⟨.agg #[.slice none 0 0, .slice none 0 0], by kernel_rfl, by kernel_rfl⟩
def zs71 : AV := .agg [.sl 7 [], .sl 3 []]
theorem tU71 : yK Try.prog 71 zs71 := ⟨.agg #[.slice none 0 0, .slice none 0 0], by kernel_rfl, by kernel_rfl⟩
theorem fa71_0 : fieldAt Try.prog 71 0 0 1 false := ⟨_, _, Try.underlying71, rfl, rfl, tS61, tA61⟩
theorem fa71_1 : fieldAt Try.prog 71 1 1 1 false := ⟨_, _, Try.underlying71, rfl, rfl, tS69, tA69⟩
theorem pl71 : yv Try.prog (Program.fieldsOf Try.prog 71).toList = some [(0, 1), (1, 1)] := by kernel_rfl
theorem us71 : Try.prog.underlying 71 = some (.struct (Program.fieldsOf Try.prog 71)) := by kernel_rfl
theorem tA73 : yY Try.prog 73 = some false := by kernel_rfl
theorem tS73 : zr Try.prog 73 = some 1 := by kernel_rfl
theorem tS75 : zr Try.prog 75 = some 3 := by kernel_rfl
def z75 : AV := .agg [.v (.string .empty), .v (.string .empty), .v (.slice none 0 0)]
theorem tZ75 : yK Try.prog 75 z75 := ⟨.agg #[.string .empty, .string .empty, .slice none 0 0], by kernel_rfl, by kernel_rfl⟩
def zs75 : AV := .agg [.v (.string .empty), .v (.string .empty), .sl 42 []]
theorem tU75 : yK Try.prog 75 zs75 := ⟨.agg #[.string .empty, .string .empty, .slice none 0 0], by kernel_rfl, by kernel_rfl⟩
theorem fa75_0 : fieldAt Try.prog 75 0 0 1 false := ⟨_, _, Try.underlying75, rfl, rfl, tS9, tA9⟩
theorem fa75_1 : fieldAt Try.prog 75 1 1 1 false := ⟨_, _, Try.underlying75, rfl, rfl, tS9, tA9⟩
theorem fa75_2 : fieldAt Try.prog 75 2 2 1 false := ⟨_, _, Try.underlying75, rfl, rfl, tS73, tA73⟩
theorem pl75 : yv Try.prog (Program.fieldsOf Try.prog 75).toList = some [(0, 1), (1, 1), (2, 1)] := by kernel_rfl
theorem us75 : Try.prog.underlying 75 = some (.struct (Program.fieldsOf Try.prog 75)) := by kernel_rfl
theorem tA79 : yY Try.prog 79 = some false := by kernel_rfl
theorem tS79 : zr Try.prog 79 = some 1 := by kernel_rfl
theorem tA81 : yY Try.prog 81 = some false := by kernel_rfl
theorem tS81 : zr Try.prog 81 = some 1 := by kernel_rfl
def z83 : AV := .agg [.v (.slice none 0 0), .v (.slice none 0 0), .v (.slice none 0 0), .v (.pointer none), .v (.map none)]
theorem tZ83 : yK Try.prog 83 z83 := ⟨.agg #[.slice none 0 0, .slice none 0 0, .slice none 0 0, .pointer none, .map none], by kernel_rfl, by kernel_rfl⟩
theorem fa83_0 : fieldAt Try.prog 83 0 0 1 false := ⟨_, _, Try.underlying83, rfl, rfl, tS46, tA46⟩
theorem fa83_1 : fieldAt Try.prog 83 1 1 1 false := ⟨_, _, Try.underlying83, rfl, rfl, tS46, tA46⟩
theorem fa83_2 : fieldAt Try.prog 83 2 2 1 false := ⟨_, _, Try.underlying83, rfl, rfl, tS46, tA46⟩
theorem fa83_3 : fieldAt Try.prog 83 3 3 1 false := ⟨_, _, Try.underlying83, rfl, rfl, tS79, tA79⟩
theorem fa83_4 : fieldAt Try.prog 83 4 4 1 false := ⟨_, _, Try.underlying83, rfl, rfl, tS81, tA81⟩
theorem pl83 : yv Try.prog (Program.fieldsOf Try.prog 83).toList = some [(0, 1), (1, 1), (2, 1), (3, 1), (4, 1)] := by kernel_rfl
theorem us83 : Try.prog.underlying 83 = some (.struct (Program.fieldsOf Try.prog 83)) := by kernel_rfl
theorem tA87 : yY Try.prog 87 = some true := by kernel_rfl
theorem tS87 : zr Try.prog 87 = some 24 := by kernel_rfl
def z87 : AV := .agg [.arr 16 (List.replicate 16 0), .arr 8 (List.replicate 8 0)]
theorem tZ87 : yK Try.prog 87 z87 := ⟨.agg #[.int .u8 0, .int .u8 0, .int .u8 0, .int .u8 0, .int .u8 0, .int .u8 0, .int .u8 0, .int .u8 0, .int .u8 0, .int .u8 0, .int .u8 0, .int .u8 0, .int .u8 0, .int .u8 0, .int .u8 0, .int .u8 0, .int .u8 0, .int .u8 0, .int .u8 0, .int .u8 0, .int .u8 0, .int .u8 0, .int .u8 0, .int .u8 0], by kernel_rfl, by kernel_rfl⟩
def zs87 : AV := .agg [.arr 16 (List.replicate 16 0), .arr 8 (List.replicate 8 0)]
theorem tU87 : yK Try.prog 87 zs87 := ⟨.agg #[.int .u8 0, .int .u8 0, .int .u8 0, .int .u8 0, .int .u8 0, .int .u8 0, .int .u8 0, .int .u8 0, .int .u8 0, .int .u8 0, .int .u8 0, .int .u8 0, .int .u8 0, .int .u8 0, .int .u8 0, .int .u8 0, .int .u8 0, .int .u8 0, .int .u8 0, .int .u8 0, .int .u8 0, .int .u8 0, .int .u8 0, .int .u8 0], by kernel_rfl, by kernel_rfl⟩
theorem pl87 : yv Try.prog (Program.fieldsOf Try.prog 87).toList = some [(0, 16), (16, 8)] := by kernel_rfl
theorem us87 : Try.prog.underlying 87 = some (.struct (Program.fieldsOf Try.prog 87)) := by kernel_rfl
theorem tA94 : yY Try.prog 94 = some false := by kernel_rfl
theorem tS94 : zr Try.prog 94 = some 1 := by kernel_rfl
theorem tA96 : yY Try.prog 96 = some true := by kernel_rfl
theorem tS96 : zr Try.prog 96 = some 6 := by kernel_rfl
theorem fa96_1 : fieldAt Try.prog 96 1 1 1 false := ⟨_, _, Try.underlying96, rfl, rfl, tS9, tA9⟩
theorem fa96_4 : fieldAt Try.prog 96 4 4 1 false := ⟨_, _, Try.underlying96, rfl, rfl, tS94, tA94⟩
theorem fa96_5 : fieldAt Try.prog 96 5 5 1 false := ⟨_, _, Try.underlying96, rfl, rfl, tS61, tA61⟩
theorem us96 : Try.prog.underlying 96 = some (.struct (Program.fieldsOf Try.prog 96)) := by kernel_rfl
theorem tS98 : zr Try.prog 98 = some 7 := by kernel_rfl
theorem fa98_0 : fieldAt Try.prog 98 0 0 1 false := ⟨_, _, Try.underlying98, rfl, rfl, tS9, tA9⟩
theorem fa98_1 : fieldAt Try.prog 98 1 1 6 true := ⟨_, _, Try.underlying98, rfl, rfl, tS96, tA96⟩
theorem us98 : Try.prog.underlying 98 = some (.struct (Program.fieldsOf Try.prog 98)) := by kernel_rfl
theorem tS101 : zr Try.prog 101 = some 3 := by kernel_rfl
theorem fa101_1 : fieldAt Try.prog 101 1 1 1 false := ⟨_, _, Try.underlying101, rfl, rfl, tS9, tA9⟩
theorem fa101_2 : fieldAt Try.prog 101 2 2 1 false := ⟨_, _, Try.underlying101, rfl, rfl, tS61, tA61⟩
theorem us101 : Try.prog.underlying 101 = some (.struct (Program.fieldsOf Try.prog 101)) := by kernel_rfl
theorem tS103 : zr Try.prog 103 = some 26 := by kernel_rfl
theorem fa103_2 : fieldAt Try.prog 103 2 24 1 false := ⟨_, _, Try.underlying103, rfl, rfl, tS9, tA9⟩
theorem fa103_3 : fieldAt Try.prog 103 3 25 1 false := ⟨_, _, Try.underlying103, rfl, rfl, tS61, tA61⟩
theorem us103 : Try.prog.underlying 103 = some (.struct (Program.fieldsOf Try.prog 103)) := by kernel_rfl
theorem tA105 : yY Try.prog 105 = some true := by kernel_rfl
theorem tS105 : zr Try.prog 105 = some 2 := by kernel_rfl
def z105 : AV := .agg [.v (.int .u64 0), .v (.int .u64 0)]
theorem tZ105 : yK Try.prog 105 z105 := ⟨.agg #[.int .u64 0, .int .u64 0], by kernel_rfl, by kernel_rfl⟩
def zs105 : AV := .agg [.v (.int .u64 0), .v (.int .u64 0)]
theorem tU105 : yK Try.prog 105 zs105 := ⟨.agg #[.int .u64 0, .int .u64 0], by kernel_rfl, by kernel_rfl⟩
theorem fa105_0 : fieldAt Try.prog 105 0 0 1 false := ⟨_, _, Try.underlying105, rfl, rfl, tS60, tA60⟩
theorem fa105_1 : fieldAt Try.prog 105 1 1 1 false := ⟨_, _, Try.underlying105, rfl, rfl, tS60, tA60⟩
theorem pl105 : yv Try.prog (Program.fieldsOf Try.prog 105).toList = some [(0, 1), (1, 1)] := by kernel_rfl
theorem us105 : Try.prog.underlying 105 = some (.struct (Program.fieldsOf Try.prog 105)) := by kernel_rfl
theorem tA107 : yY Try.prog 107 = some false := by kernel_rfl
theorem tS107 : zr Try.prog 107 = some 1 := by kernel_rfl
def z109 : AV := .agg [.v (.map none)]
theorem tZ109 : yK Try.prog 109 z109 := ⟨.agg #[.map none], by kernel_rfl, by kernel_rfl⟩
theorem fa109_0 : fieldAt Try.prog 109 0 0 1 false := ⟨_, _, Try.underlying109, rfl, rfl, tS107, tA107⟩
theorem pl109 : yv Try.prog (Program.fieldsOf Try.prog 109).toList = some [(0, 1)] := by kernel_rfl
theorem us109 : Try.prog.underlying 109 = some (.struct (Program.fieldsOf Try.prog 109)) := by kernel_rfl
theorem tA111 : yY Try.prog 111 = some true := by kernel_rfl
theorem tS111 : zr Try.prog 111 = some 24 := by kernel_rfl
def z111 : AV := .agg [.arr 16 (List.replicate 16 0), .arr 8 (List.replicate 8 0)]
theorem tZ111 : yK Try.prog 111 z111 := ⟨.agg #[.int .u8 0, .int .u8 0, .int .u8 0, .int .u8 0, .int .u8 0, .int .u8 0, .int .u8 0, .int .u8 0, .int .u8 0, .int .u8 0, .int .u8 0, .int .u8 0, .int .u8 0, .int .u8 0, .int .u8 0, .int .u8 0, .int .u8 0, .int .u8 0, .int .u8 0, .int .u8 0, .int .u8 0, .int .u8 0, .int .u8 0, .int .u8 0], by kernel_rfl, by kernel_rfl⟩
def zs111 : AV := .agg [.arr 16 (List.replicate 16 0), .arr 8 (List.replicate 8 0)]
theorem tU111 : yK Try.prog 111 zs111 := ⟨.agg #[.int .u8 0, .int .u8 0, .int .u8 0, .int .u8 0, .int .u8 0, .int .u8 0, .int .u8 0, .int .u8 0, .int .u8 0, .int .u8 0, .int .u8 0, .int .u8 0, .int .u8 0, .int .u8 0, .int .u8 0, .int .u8 0, .int .u8 0, .int .u8 0, .int .u8 0, .int .u8 0, .int .u8 0, .int .u8 0, .int .u8 0, .int .u8 0], by kernel_rfl, by kernel_rfl⟩
theorem pl111 : yv Try.prog (Program.fieldsOf Try.prog 111).toList = some [(0, 16), (16, 8)] := by kernel_rfl
theorem us111 : Try.prog.underlying 111 = some (.struct (Program.fieldsOf Try.prog 111)) := by kernel_rfl
end Go.Proofs
namespace Go.Al
open Go.RowKit
def AVT (P : Program) : Nat → TypeId → AV → Prop
  | 0, _, _ => False
  | f + 1, T, X =>
    match P.underlying T with
    | some .bool => ∃ b, X = .v (.bool b)
    | some (.int k) => ∃ n, X = .v (.int k n) ∧ (Lit.int k n).wf = true
    | some .string => ∃ s : ByteArray, X = .v (.string s) ∧ s.size ≤ maxLen
    | some (.slice e) => ∃ l, X = .sl (P.cellsOf e) l ∧ ∀ x ∈ l, AVT P f e x
    | some (.struct fs) => ∃ l, X = .agg l ∧ l.length = fs.toList.length ∧ ∀ (j : Nat) fl x, fs.toList[j]? = some fl → l[j]? = some x → AVT P f fl.type x
    | some (.array n e) => match P.underlying e with
      | some (.int .i64) => ∃ l : List Int, X = .agg (l.map fun x => .v (.int .i64 x)) ∧ l.length = n ∧ ∀ x ∈ l, (Lit.int .i64 x).wf = true
      | _ => ∃ l : List UInt8, X = .arr n l ∧ l.length = n
    | _ => False
def dataTys (P : Program) (S : List TypeId) : Bool := S.all fun t => decide (t < P.types.size) && match P.underlying t with
  | some .bool => true
  | some (.int _) => true
  | some .string => true
  | some (.slice e) => S.contains e && decide (0 < P.cellsOf e)
  | some (.struct fs) => fs.toList.all fun f => S.contains f.type
  | some (.array _ e) => decide (P.cellsOf e = 1) && (match P.underlying e with | some (.int .u8) => true | some (.int .i64) => true | _ => false)
  | _ => false
theorem repM_of {w : World} {I : Nat → Nat → Prop} {n : Nat} : ∀ (l : List AV) (b o : Nat), (∀ i x, l[i]? = some x → ∃ c, c.length = n ∧ RepC w I x c ∧ yQ w I b (o + i * n) c) → RepM w I n l b o
  | [], _, _, _ => by simp only [RepM]
  | p :: ps, b, o, h => by
    simp only [RepM]
    refine ⟨by simpa using h 0 p rfl, repM_of ps b (o + n) fun i x hx => ?_⟩
    have := h (i + 1) x (by simpa using hx)
    rw [show o + n + i * n = o + (i + 1) * n from by rw [Nat.add_mul]; omega]
    exact this
theorem list_of {α : Type} {Q : Nat → α → Prop} : ∀ (n : Nat), (∀ i, i < n → ∃ x, Q i x) → ∃ l : List α, l.length = n ∧ ∀ i x, l[i]? = some x → Q i x
  | 0, _ => ⟨[], rfl, fun i x h => by simp at h⟩
  | n + 1, h => by
    obtain ⟨l, h1, h2⟩ := list_of n fun i hi => h i (by omega)
    obtain ⟨x, hx⟩ := h n (by omega)
    refine ⟨l ++ [x], by simp [h1], fun i y hy => ?_⟩
    rcases Nat.lt_or_ge i l.length with hi | hi
    · rw [List.getElem?_append_left hi] at hy; exact h2 i y hy
    · rw [List.getElem?_append_right hi] at hy
      have h3 : i - l.length < 1 := by have := (List.getElem?_eq_some_iff.1 hy).1; simpa using this
      have h4 : i - l.length = 0 := by omega
      rw [h4] at hy
      simp at hy
      subst hy
      have : i = n := by omega
      rw [this]; exact hx
theorem mapM_get {α β : Type} {f : α → Option β} : ∀ {l : List α} {r : List β}, l.mapM f = some r → ∀ (i : Nat) (x : α), l[i]? = some x → ∃ y, r[i]? = some y ∧ f x = some y := by
  intro l
  induction l with
  | nil => intro r _ i x h; simp at h
  | cons a az ih =>
    intro r h i x hx
    rw [List.mapM_cons] at h
    cases ha : f a with
    | none => simp [ha] at h
    | some b =>
      cases has : az.mapM f with
      | none => simp [ha, has] at h
      | some bs =>
        simp [ha, has] at h
        subst h
        cases i with
        | zero => simp at hx; subst hx; exact ⟨b, rfl, ha⟩
        | succ i => simpa using ih has i x (by simpa using hx)
section
variable {H : Type} {enc : TypeId × Value → H} {P : Program} {w : World} {S : List TypeId}
theorem cells_at {a : Addr} {n : Nat} {cs : List Value} (h : w.cells? 0 a n = some cs) (h0 : 0 < n) : a.spot = none ∧ cs.length = n ∧ a.block < w.heap.size ∧ yQ w (fun b _ => b < w.heap.size) a.block a.off cs := by
  have hb := World.cells?_block h h0
  obtain ⟨_, hl, hc⟩ := World.cells?_some h
  have hsp : a.spot = none := by
    have h1 := hc 0 h0
    obtain ⟨c, hc0⟩ : ∃ c, cs[0]? = some c := by
      cases cs with
      | nil => simp at hl; omega
      | cons c _ => exact ⟨c, rfl⟩
    rw [hc0] at h1
    simp only [Addr.add, if_true] at h1
    simp only [World.cell?] at h1
    split at h1
    · cases hs : a.spot with
      | none => rfl
      | some s => simp [hs] at h1
    · cases h1
  refine ⟨hsp, hl, hb, fun j hj => ⟨?_, hb⟩⟩
  have h1 := hc j (by omega)
  have e : a.add j = ⟨a.block, a.off + j, none⟩ := by
    obtain ⟨b, o, s⟩ := a
    simp only at hsp; subst hsp
    exact wM b o j
  rw [e, List.getElem?_eq_getElem hj] at h1
  exact h1
theorem open_fields {r : TypeId → List Value → Option (DataW H × List MemPlace)} {A : TypeId → AV → Prop} {I : Nat → Nat → Prop} {cs : List Value} :
    ∀ (fs : List Field) (off : Nat) (xs : List (DataW H × List MemPlace)), (fs.mapM fun f => r f.type ((cs.drop f.offset).take (P.cellsOf f.type))) = some xs →
    (∀ f ∈ fs, ∀ c x, c.length = P.cellsOf f.type → r f.type c = some x → ∃ X, RepC w I X c ∧ A f.type X) →
    (∀ (j : Nat) f, fs[j]? = some f → f.offset = off + ((fs.take j).map fun f => P.cellsOf f.type).sum) → off + (fs.map fun f => P.cellsOf f.type).sum = cs.length →
    ∃ l, l.length = fs.length ∧ yL w I l (cs.drop off) ∧ ∀ (j : Nat) fl x, fs[j]? = some fl → l[j]? = some x → A fl.type x
  | [], off, xs, _, _, _, hs => ⟨[], rfl, by simp at hs; simp only [yL]; exact List.drop_of_length_le (by omega), fun j fl x h => by simp at h⟩
  | f :: fs, off, xs, hm, hr, ho, hs => by
    simp only [List.map_cons, List.sum_cons] at hs
    rw [List.mapM_cons] at hm
    cases h1 : r f.type ((cs.drop f.offset).take (P.cellsOf f.type)) with
    | none => simp [h1] at hm
    | some y =>
      cases h2 : fs.mapM fun f => r f.type ((cs.drop f.offset).take (P.cellsOf f.type)) with
      | none => simp [h1, h2] at hm
      | some ys =>
        have hoff : f.offset = off := by simpa using ho 0 f rfl
        rw [hoff] at h1
        obtain ⟨X, k1, k2⟩ := hr f List.mem_cons_self _ y (by rw [List.length_take, List.length_drop]; omega) h1
        obtain ⟨l, k3, k4, k5⟩ := open_fields fs (off + P.cellsOf f.type) ys h2 (fun g hg => hr g (List.mem_cons_of_mem _ hg)) (fun j g hj => by
          have := ho (j + 1) g (by simpa using hj)
          simp only [List.take_succ_cons, List.map_cons, List.sum_cons] at this
          omega) (by omega)
        refine ⟨X :: l, by simp [k3], ?_, fun j fl x hj hx => ?_⟩
        · simp only [yL]
          refine ⟨_, _, ?_, k1, k4⟩
          rw [← List.drop_drop, List.take_append_drop]
        · cases j with
          | zero => simp at hj hx; subst hj; subst hx; exact k2
          | succ j => exact k5 j fl x (by simpa using hj) (by simpa using hx)
theorem repCs_ints {w : World} {I : Nat → Nat → Prop} : ∀ l : List Int, yL w I (l.map fun x => .v (.int .i64 x)) (l.map fun x => Value.int .i64 x)
  | [] => by simp only [List.map_nil, yL]
  | x :: l => by
    simp only [List.map_cons, yL]
    exact ⟨[.int .i64 x], _, rfl, by simp only [RepC]; exact ⟨rfl, rfl⟩, repCs_ints l⟩
theorem open_av (K : Kids P (· < P.types.size)) (hS : dataTys P S = true) : ∀ (n : Nat) (T : TypeId) (cs : List Value) (x : DataW H × List MemPlace), T ∈ S →
    DataW.trod enc P w 0 (fun _ => true) true n T cs = some x → ∃ X, RepC w (fun b _ => b < w.heap.size) X cs ∧ AVT P n T X := by
  intro n
  induction n with
  | zero => intro T cs x _ h; simp [DataW.trod] at h
  | succ n ih =>
    intro T cs x hT h
    have hd := List.all_eq_true.1 hS T hT
    simp only [Bool.and_eq_true, qa] at hd
    obtain ⟨hlt, hd⟩ := hd
    rw [DataW.trod_step] at h
    unfold DataW.trodStep at h
    simp only [AVT]
    split at h
    case h_1 b hu =>
      rw [hu]
      exact ⟨_, by simp only [RepC]; exact ⟨rfl, rfl⟩, b, rfl⟩
    case h_2 k k' m hu =>
      rw [hu]
      split at h
      · rename_i hk
        obtain ⟨rfl, hw⟩ := hk
        exact ⟨_, by simp only [RepC]; exact ⟨rfl, rfl⟩, m, rfl, hw⟩
      · cases h
    case h_3 hu => rw [hu] at hd; cases hd
    case h_4 s hu =>
      rw [hu]
      split at h
      · rename_i hs
        exact ⟨_, by simp only [RepC]; exact ⟨rfl, rfl⟩, s, rfl, hs⟩
      · cases h
    case h_5 hu => rw [hu] at hd; cases hd
    case h_6 hu => rw [hu] at hd; cases hd
    case h_7 e hu =>
      rw [hu]
      exact ⟨.sl (P.cellsOf e) [], by simp only [RepC]; exact ⟨_, rfl, .inl ⟨none, 0, rfl, trivial, Nat.zero_le _, fun _ => rfl⟩⟩, [], rfl, fun x hx => by cases hx⟩
    case h_8 e a len cap hu =>
      rw [hu] at hd ⊢
      simp only [Bool.and_eq_true, qa] at hd
      obtain ⟨heS, hce⟩ := hd
      have heS : e ∈ S := by simpa using heS
      simp only at h
      split at h
      · rename_i hc
        obtain ⟨_, hlc, hcm⟩ := hc
        simp only [Option.map_eq_some_iff, Option.bind_eq_some_iff] at h
        obtain ⟨elems, he, rest, hrest, rfl⟩ := h
        rcases Nat.eq_zero_or_pos len with h0 | h0
        · subst h0
          exact ⟨.sl (P.cellsOf e) [], by simp only [RepC]; exact ⟨_, rfl, .inl ⟨some a, cap, rfl, trivial, hcm, fun h => by cases h⟩⟩, [], rfl, fun x hx => by cases hx⟩
        · have one : ∀ i, i < len → ∃ c y, w.cells? 0 (a.add (i * P.cellsOf e)) (P.cellsOf e) = some c ∧ DataW.trod enc P w 0 (fun _ => true) true n e c = some y := by
            intro i hi
            obtain ⟨y, _, hy⟩ := mapM_get he i i (by simp [hi])
            simp only [Option.bind_eq_some_iff] at hy
            obtain ⟨c, h1, h2⟩ := hy
            exact ⟨c, y, h1, h2⟩
          obtain ⟨c0, _, hc0, _⟩ := one 0 h0
          obtain ⟨hsp, _, _, _⟩ := cells_at (by simpa [Addr.add] using hc0) hce
          obtain ⟨b, o, s⟩ := a
          simp only at hsp
          subst hsp
          obtain ⟨l, hl1, hl2⟩ := list_of (Q := fun i X => (∃ c, c.length = P.cellsOf e ∧ RepC w (fun b _ => b < w.heap.size) X c ∧ yQ w (fun b _ => b < w.heap.size) b (o + i * P.cellsOf e) c) ∧ AVT P n e X) len (by
            intro i hi
            obtain ⟨c, y, h1, h2⟩ := one i hi
            obtain ⟨X, k1, k2⟩ := ih e c y heS h2
            rw [wM] at h1
            obtain ⟨_, k3, _, k4⟩ := cells_at h1 hce
            exact ⟨X, ⟨c, k3, k1, k4⟩, k2⟩)
          refine ⟨.sl (P.cellsOf e) l, ?_, l, rfl, fun x hx => ?_⟩
          · simp only [RepC]
            refine ⟨_, rfl, .inr ⟨b, o, cap, by rw [hl1], by omega, hcm, repM_of l b o fun i x hx => (hl2 i x hx).1⟩⟩
          · obtain ⟨i, hi⟩ := List.getElem?_of_mem hx
            exact (hl2 i x hi).2
      · cases h
    case h_9 fs hu =>
      rw [hu] at hd ⊢
      split at h
      · rename_i hlen
        simp only [Option.map_eq_some_iff] at h
        obtain ⟨xs, hx, rfl⟩ := h
        obtain ⟨_, k1, k2⟩ := K.struct hlt hu
        obtain ⟨l, k3, k4, k5⟩ := open_fields (w := w) (I := fun b _ => b < w.heap.size) (A := fun t X => AVT P n t X) fs.toList 0 xs hx
          (fun f hf c x _ hr => ih f.type c x (by simpa using List.all_eq_true.1 hd f hf) hr)
          (fun j f hj => by rw [Nat.zero_add]; exact k2 j f hj) (by rw [Nat.zero_add, ← k1]; exact hlen.symm)
        exact ⟨.agg l, by simpa only [RepC, List.drop_zero] using k4, l, rfl, k3, k5⟩
      · cases h
    case h_10 cs _ _ m e hu =>
      rw [hu] at hd ⊢
      simp only [Bool.and_eq_true, qa] at hd
      obtain ⟨hce, hub⟩ := hd
      split at h
      · rename_i hlen
        simp only [Option.map_eq_some_iff] at h
        obtain ⟨xs, hx, rfl⟩ := h
        have hcl : cs.length = m := by rw [hlen, (K.array hlt hu).2, hce, Nat.mul_one]
        have hub' : P.underlying e = some (.int .u8) ∨ P.underlying e = some (.int .i64) := by
          cases he : P.underlying e with
          | none => rw [he] at hub; cases hub
          | some d =>
            rw [he] at hub
            cases d <;> first | cases hub | skip
            rename_i k
            cases k <;> first | exact .inl rfl | exact .inr rfl | cases hub
        rcases hub' with hub' | hub'
        case inr =>
          simp only [hub']
          obtain ⟨l, hl1, hl2⟩ := list_of (Q := fun i (b : Int) => cs[i]? = some (.int .i64 b) ∧ (Lit.int .i64 b).wf = true) m (by
            intro i hi
            obtain ⟨y, _, hy⟩ := mapM_get hx i i (by simp [hi])
            rw [hce, Nat.mul_one] at hy
            have e1 : (cs.drop i).take 1 = [cs[i]] := by
              rw [List.drop_eq_getElem_cons (by omega)]; rfl
            rw [e1] at hy
            cases n with
            | zero => simp [DataW.trod] at hy
            | succ n =>
              rw [DataW.trod_step] at hy
              unfold DataW.trodStep at hy
              rw [hub'] at hy
              cases hv : cs[i] with
              | int k q =>
                rw [hv] at hy
                simp only at hy
                split at hy
                · rename_i hk
                  obtain ⟨rfl, hw⟩ := hk
                  exact ⟨q, by rw [List.getElem?_eq_getElem (by omega), hv], hw⟩
                · cases hy
              | _ => rw [hv] at hy; simp at hy)
          have ecs : cs = l.map fun x => Value.int .i64 x := by
            apply List.ext_getElem?
            intro i
            rcases Nat.lt_or_ge i m with hi | hi
            · rw [(hl2 i l[i] (by rw [List.getElem?_eq_getElem])).1, List.getElem?_map, List.getElem?_eq_getElem (by omega)]
              rfl
            · rw [List.getElem?_eq_none (by omega), List.getElem?_eq_none (by simp; omega)]
          refine ⟨.agg (l.map fun x => .v (.int .i64 x)), by simp only [RepC]; rw [ecs]; exact repCs_ints l, l, rfl, hl1, fun x hx => ?_⟩
          obtain ⟨i, hi⟩ := List.getElem?_of_mem hx
          exact (hl2 i x hi).2
        simp only [hub']
        obtain ⟨l, hl1, hl2⟩ := list_of (Q := fun i (b : UInt8) => cs[i]? = some (byteV b)) m (by
          intro i hi
          obtain ⟨y, _, hy⟩ := mapM_get hx i i (by simp [hi])
          rw [hce, Nat.mul_one] at hy
          have e1 : (cs.drop i).take 1 = [cs[i]] := by
            rw [List.drop_eq_getElem_cons (by omega)]; rfl
          rw [e1] at hy
          cases n with
          | zero => simp [DataW.trod] at hy
          | succ n =>
            rw [DataW.trod_step] at hy
            unfold DataW.trodStep at hy
            rw [hub'] at hy
            cases hv : cs[i] with
            | int k q =>
              rw [hv] at hy
              simp only at hy
              split at hy
              · rename_i hk
                obtain ⟨rfl, hw⟩ := hk
                refine ⟨UInt8.ofNat q.toNat, ?_⟩
                rw [List.getElem?_eq_getElem (by omega), hv]
                have : 0 ≤ q ∧ q < 256 := by
                  have e1 : IntKind.u8.min = 0 := by decide
                  have e2 : IntKind.u8.max = 255 := by decide
                  simp [Lit.wf, e1, e2] at hw; omega
                simp only [byteV, Option.some.injEq, Value.int.injEq, true_and]
                simp [UInt8.toNat_ofNat']
                omega
              · cases hy
            | _ => rw [hv] at hy; simp at hy)
        refine ⟨.arr m l, ?_, l, rfl, hl1⟩
        simp only [RepC]
        refine ⟨?_, hl1⟩
        apply List.ext_getElem?
        intro i
        rcases Nat.lt_or_ge i m with hi | hi
        · rw [hl2 i l[i] (by rw [List.getElem?_eq_getElem]), List.getElem?_map, List.getElem?_eq_getElem (by omega)]
          rfl
        · rw [List.getElem?_eq_none (by omega), List.getElem?_eq_none (by simp; omega)]
      · cases h
    all_goals
      rename_i hu
      first
        | (rw [hu] at hd; cases hd)
        | cases h
        | (exfalso; simp_all)
theorem open_arg (K : Kids P (· < P.types.size)) (hS : dataTys P S = true) {r : Reach} {b0 : Nat} {T : TypeId} {v : Value} {d : DataW H} {ps : List MemPlace} (hT : T ∈ S) (hval : Value.okWide P w r b0 T v)
    (h : DataW.Trod enc P w 0 (fun _ => true) true T v d ps) : ∃ n X, Rep w (fun b _ => b < w.heap.size) X v ∧ AVT P n T X := by
  obtain ⟨n, hn⟩ := h
  obtain ⟨X, h1, h2⟩ := open_av K hS n T _ _ hT hn
  refine ⟨n, X, ⟨_, h1, ?_⟩, h2⟩
  cases n with
  | zero => exact h2.elim
  | succ n =>
    simp only [AVT] at h2
    unfold Value.okWide at hval
    split at h2 <;> (try exact h2.elim) <;> rename_i hu <;> rw [hu] at hval <;> simp only at hval
    · obtain ⟨b, rfl⟩ := h2
      unfold Cell.okWide at hval; rw [hu] at hval; unfold Cell.ok at hval; rw [hu] at hval
      cases v <;> first | rfl | exact hval.elim
    · obtain ⟨b, rfl, _⟩ := h2
      unfold Cell.okWide at hval; rw [hu] at hval; unfold Cell.ok at hval; rw [hu] at hval
      cases v <;> first | rfl | exact hval.elim
    · obtain ⟨b, rfl, _⟩ := h2
      unfold Cell.okWide at hval; rw [hu] at hval; unfold Cell.ok at hval; rw [hu] at hval
      cases v <;> first | rfl | exact hval.elim
    · obtain ⟨l, rfl, _⟩ := h2
      unfold Cell.okWide at hval; rw [hu] at hval; unfold Cell.ok at hval; rw [hu] at hval
      cases v <;> first | rfl | exact hval.elim
    · obtain ⟨l, rfl, _⟩ := h2
      obtain ⟨cs, rfl, _⟩ := hval
      simp [mkV, AV.isAgg, Value.cells]
    · split at h2
      · obtain ⟨l, rfl, _⟩ := h2
        obtain ⟨cs, rfl, _⟩ := hval
        simp [mkV, AV.isAgg, Value.cells]
      · obtain ⟨l, rfl, _⟩ := h2
        obtain ⟨cs, rfl, _⟩ := hval
        simp [mkV, AV.isAgg, Value.cells]
theorem again (K : Kids P (· < P.types.size)) (hz : ∀ t e, t < P.types.size → P.underlying t = some (.slice e) → 0 < P.cellsOf e) {w' : World} (hb : Below w.heap.size w w') :
    ∀ {ts : List TypeId} {vs : List Value} {ds : List (DataW H)} {ps : List MemPlace}, (∀ t ∈ ts, t < P.types.size) → DataW.TrodAll enc P w 0 (fun _ => true) true ts vs ds ps →
      DataW.TrodAll enc P w' 0 (fun b => decide (b < w.heap.size)) true ts vs ds ps := by
  intro ts vs ds ps hT h
  have hlt := h.lt
  have h1 := DataW.TrodAll.respare (spare' := fun b => decide (b < w.heap.size)) K hz hT h (fun p hp => by simpa using hlt p hp)
  have hsame : ∀ p ∈ ps, w.sameAt w' p := fun p hp => by
    have := hb.block p.block (hlt p hp)
    cases p with
    | cell b o => exact World.cell?_of_block (w := w) this
    | map b => exact this
  clear h hlt hT
  have key : ∀ (ts : List TypeId) (vs : List Value) (ds : List (DataW H)) (ps : List MemPlace), DataW.TrodAll enc P w 0 (fun b => decide (b < w.heap.size)) true ts vs ds ps → (∀ p ∈ ps, w.sameAt w' p) →
      DataW.TrodAll enc P w' 0 (fun b => decide (b < w.heap.size)) true ts vs ds ps := by
    intro ts
    induction ts with
    | nil => intro vs ds ps h _; cases vs <;> cases ds <;> exact h
    | cons t ts ih =>
      intro vs ds ps h hs
      cases vs with
      | nil => exact h
      | cons v vs =>
        cases ds with
        | nil => exact h
        | cons d ds =>
          obtain ⟨p, q, ⟨n, hn⟩, h2, e⟩ := h
          exact ⟨p, q, ⟨n, DataW.trod_carry n _ _ _ hn (fun x hx => hs x (by rw [e]; exact List.mem_append_left _ hx))⟩, ih _ _ _ h2 (fun x hx => hs x (by rw [e]; exact List.mem_append_right _ hx)), e⟩
  exact key _ _ _ _ h1 hsame
end
end Go.Al
namespace Go.Proofs
open Go Go.Al
mutual
inductive GV where
  | mk (kind : Int) (text : ByteArray) (num bits : Int) (list : List GV) (map : List GA)
inductive GA where
  | mk (key : ByteArray) (val : GV)
end
def GV.kind : GV → Int | .mk k _ _ _ _ _ => k
def GV.text : GV → ByteArray | .mk _ t _ _ _ _ => t
def GV.num : GV → Int | .mk _ _ n _ _ _ => n
def GV.bits : GV → Int | .mk _ _ _ b _ _ => b
def GV.list : GV → List GV | .mk _ _ _ _ l _ => l
def GV.map : GV → List GA | .mk _ _ _ _ _ m => m
def GA.key : GA → ByteArray | .mk k _ => k
def GA.val : GA → GV | .mk _ v => v
theorem GA.key_mk (k : ByteArray) (v : GV) : (GA.mk k v).key = k := rfl
theorem GA.val_mk (k : ByteArray) (v : GV) : (GA.mk k v).val = v := rfl
theorem GV.kind_mk (k : Int) (t : ByteArray) (n b : Int) (l : List GV) (m : List GA) : (GV.mk k t n b l m).kind = k := rfl
theorem GV.text_mk (k : Int) (t : ByteArray) (n b : Int) (l : List GV) (m : List GA) : (GV.mk k t n b l m).text = t := rfl
theorem GV.num_mk (k : Int) (t : ByteArray) (n b : Int) (l : List GV) (m : List GA) : (GV.mk k t n b l m).num = n := rfl
theorem GV.bits_mk (k : Int) (t : ByteArray) (n b : Int) (l : List GV) (m : List GA) : (GV.mk k t n b l m).bits = b := rfl
theorem GV.list_mk (k : Int) (t : ByteArray) (n b : Int) (l : List GV) (m : List GA) : (GV.mk k t n b l m).list = l := rfl
theorem GV.map_mk (k : Int) (t : ByteArray) (n b : Int) (l : List GV) (m : List GA) : (GV.mk k t n b l m).map = m := rfl
mutual
def avV : GV → AV
  | .mk k t n b l m => .agg [cv k, sv t, iv n, uv b, .sl 6 (avVs l), .sl 7 (avAs m)]
def avVs : List GV → List AV
  | [] => []
  | x :: xs => avV x :: avVs xs
def avA : GA → AV
  | .mk k v => .agg [sv k, avV v]
def avAs : List GA → List AV
  | [] => []
  | x :: xs => avA x :: avAs xs
end
theorem avVs_map : ∀ l : List GV, avVs l = l.map avV
  | [] => rfl
  | x :: xs => by rw [avVs, avVs_map xs]; rfl
theorem avAs_map : ∀ l : List GA, avAs l = l.map avA
  | [] => rfl
  | x :: xs => by rw [avAs, avAs_map xs]; rfl
def GV.av (g : GV) : AV := .agg [cv g.kind, sv g.text, iv g.num, uv g.bits, .sl 6 (g.list.map avV), .sl 7 (g.map.map avA)]
def GA.av (a : GA) : AV := .agg [sv a.key, a.val.av]
theorem avV_eq (g : GV) : avV g = g.av := by
  cases g with
  | mk k t n b l m => rw [avV, avVs_map, avAs_map]; rfl
theorem avA_eq (a : GA) : avA a = a.av := by
  cases a with
  | mk k v => rw [avA, avV_eq]; rfl
mutual
def GV.wt : GV → Nat
  | .mk _ t _ _ l m => 1 + t.size + wtVs l + wtAs m
def wtVs : List GV → Nat
  | [] => 0
  | x :: xs => GV.wt x + wtVs xs
def GA.wt : GA → Nat
  | .mk k v => k.size + GV.wt v
def wtAs : List GA → Nat
  | [] => 0
  | x :: xs => GA.wt x + wtAs xs
end
theorem GV.wt_eq (g : GV) : g.wt = 1 + g.text.size + wtVs g.list + wtAs g.map := by cases g; rw [GV.wt]; rfl
theorem GA.wt_eq (a : GA) : a.wt = a.key.size + a.val.wt := by cases a; rw [GA.wt]; rfl
theorem GV.wt_pos (g : GV) : 1 ≤ g.wt := by rw [g.wt_eq]; omega
theorem GA.wt_pos (a : GA) : 1 ≤ a.wt := by rw [a.wt_eq]; have := a.val.wt_pos; omega
theorem wtVs_append : ∀ l m : List GV, wtVs (l ++ m) = wtVs l + wtVs m
  | [], m => by simp [wtVs]
  | x :: xs, m => by simp only [List.cons_append, wtVs, wtVs_append xs m]; omega
theorem wtAs_append : ∀ l m : List GA, wtAs (l ++ m) = wtAs l + wtAs m
  | [], m => by simp [wtAs]
  | x :: xs, m => by simp only [List.cons_append, wtAs, wtAs_append xs m]; omega
theorem wtVs_mem : ∀ {l : List GV} {x : GV}, x ∈ l → x.wt ≤ wtVs l
  | y :: ys, x, h => by
    rw [wtVs]
    rcases List.mem_cons.1 h with rfl | h
    · omega
    · have := wtVs_mem h; omega
theorem wtAs_mem : ∀ {l : List GA} {x : GA}, x ∈ l → x.wt ≤ wtAs l
  | y :: ys, x, h => by
    rw [wtAs]
    rcases List.mem_cons.1 h with rfl | h
    · omega
    · have := wtAs_mem h; omega
theorem len_wtVs : ∀ l : List GV, l.length ≤ wtVs l
  | [] => by simp [wtVs]
  | x :: xs => by rw [wtVs]; have := len_wtVs xs; have := x.wt_pos; simp; omega
theorem len_wtAs : ∀ l : List GA, l.length ≤ wtAs l
  | [] => by simp [wtAs]
  | x :: xs => by rw [wtAs]; have := len_wtAs xs; have := x.wt_pos; simp; omega
theorem GV.ind {P : GV → Prop} (h : ∀ g : GV, (∀ y ∈ g.list, P y) → (∀ a ∈ g.map, P a.val) → P g) (g : GV) : P g := by
  have key : ∀ n, ∀ g : GV, g.wt ≤ n → P g := by
    intro n
    induction n with
    | zero => intro g hg; have := g.wt_pos; omega
    | succ n ih =>
      intro g hg
      have e := g.wt_eq
      refine h g (fun y hy => ih y ?_) (fun a ha => ih a.val ?_)
      · have := wtVs_mem hy; omega
      · have := wtAs_mem ha; have := a.wt_eq; omega
  exact key g.wt g (Nat.le_refl _)
mutual
def GV.ok : GV → Prop
  | .mk k t n b l m => (0 ≤ k ∧ k < 256) ∧ t.size ≤ maxLen ∧ (-9223372036854775808 ≤ n ∧ n < 9223372036854775808) ∧ (0 ≤ b ∧ b < 18446744073709551616) ∧ okVs l ∧ okAs m
def okVs : List GV → Prop
  | [] => True
  | x :: xs => GV.ok x ∧ okVs xs
def GA.ok : GA → Prop
  | .mk k v => k.size ≤ maxLen ∧ GV.ok v
def okAs : List GA → Prop
  | [] => True
  | x :: xs => GA.ok x ∧ okAs xs
end
theorem okVs_iff : ∀ {l : List GV}, okVs l ↔ ∀ x ∈ l, x.ok
  | [] => by simp [okVs]
  | x :: xs => by rw [okVs, okVs_iff]; simp
theorem okAs_iff : ∀ {l : List GA}, okAs l ↔ ∀ x ∈ l, x.ok
  | [] => by simp [okAs]
  | x :: xs => by rw [okAs, okAs_iff]; simp
abbrev Bs := List UInt8
def be : Nat → Nat → Bs
  | 0, _ => []
  | n + 1, u => be n (u / 256) ++ [UInt8.ofNat (u % 256)]
end Go.Proofs
namespace Go.Proofs
open Go Go.Al
structure GE where
  time : Int
  name : ByteArray
  attrs : List GA
structure GL where
  trace : Bs
  span : Bs
  state : ByteArray
  attrs : List GA
structure GSpan where
  trace : Bs
  id : Bs
  parent : Bs
  state : ByteArray
  name : ByteArray
  kind : Int
  start : Int
  fin : Int
  attrs : List GA
  events : List GE
  links : List GL
  code : Int
  note : ByteArray
structure GScope where
  name : ByteArray
  version : ByteArray
  spans : List GSpan
structure GRes where
  attrs : List GA
  scopes : List GScope
def GE.av (e : GE) : AV := .agg [uv e.time, sv e.name, .sl 7 (e.attrs.map avA)]
def GL.av (e : GL) : AV := .agg [.arr 16 e.trace, .arr 8 e.span, sv e.state, .sl 7 (e.attrs.map avA)]
def GSpan.av (s : GSpan) : AV := .agg [.arr 16 s.trace, .arr 8 s.id, .arr 8 s.parent, sv s.state, sv s.name, iv s.kind, uv s.start, uv s.fin, .sl 7 (s.attrs.map avA), .sl 3 (s.events.map GE.av), .sl 26 (s.links.map GL.av), .agg [iv s.code, sv s.note]]
def GScope.av (s : GScope) : AV := .agg [sv s.name, sv s.version, .sl 42 (s.spans.map GSpan.av)]
def GRes.av (r : GRes) : AV := .agg [.sl 7 (r.attrs.map avA), .sl 3 (r.scopes.map GScope.av)]
def z9 (b : List GRes) : AV := .agg [.sl 2 (b.map GRes.av)]
def ya {α : Type} (f : α → Nat) : List α → Nat
  | [] => 0
  | x :: xs => f x + ya f xs
theorem sumBy_append {α : Type} (f : α → Nat) : ∀ l m : List α, ya f (l ++ m) = ya f l + ya f m
  | [], m => by simp [ya]
  | x :: xs, m => by simp only [List.cons_append, ya, sumBy_append f xs m]; omega
theorem sumBy_mem {α : Type} (f : α → Nat) : ∀ {l : List α} {x : α}, x ∈ l → f x ≤ ya f l
  | y :: ys, x, h => by
    rw [ya]
    rcases List.mem_cons.1 h with rfl | h
    · omega
    · have := sumBy_mem f h; omega
theorem wB {α : Type} (f : α → Nat) (hf : ∀ x, 1 ≤ f x) : ∀ l : List α, l.length ≤ ya f l
  | [] => by simp [ya]
  | x :: xs => by rw [ya]; have := wB f hf xs; have := hf x; simp; omega
def GE.wt (e : GE) : Nat := 1 + e.name.size + wtAs e.attrs
def GL.wt (e : GL) : Nat := 1 + e.state.size + wtAs e.attrs
def GSpan.wt (s : GSpan) : Nat := 1 + s.state.size + s.name.size + s.note.size + wtAs s.attrs + ya GE.wt s.events + ya GL.wt s.links
def GScope.wt (s : GScope) : Nat := 1 + s.name.size + s.version.size + ya GSpan.wt s.spans
def GRes.wt (r : GRes) : Nat := 1 + wtAs r.attrs + ya GScope.wt r.scopes
def wtB (b : List GRes) : Nat := ya GRes.wt b
def u64 (n : Int) : Prop := 0 ≤ n ∧ n < 18446744073709551616
def i64 (n : Int) : Prop := -9223372036854775808 ≤ n ∧ n < 9223372036854775808
def GE.ok (e : GE) : Prop := u64 e.time ∧ e.name.size ≤ maxLen ∧ ∀ a ∈ e.attrs, a.ok
def GL.ok (e : GL) : Prop := e.trace.length = 16 ∧ e.span.length = 8 ∧ e.state.size ≤ maxLen ∧ ∀ a ∈ e.attrs, a.ok
def GSpan.ok (s : GSpan) : Prop := (s.trace.length = 16 ∧ s.id.length = 8 ∧ s.parent.length = 8) ∧ (s.state.size ≤ maxLen ∧ s.name.size ≤ maxLen ∧ s.note.size ≤ maxLen) ∧ (i64 s.kind ∧ u64 s.start ∧ u64 s.fin ∧ i64 s.code) ∧ (∀ a ∈ s.attrs, a.ok) ∧ (∀ e ∈ s.events, e.ok) ∧ ∀ e ∈ s.links, e.ok
def GScope.ok (s : GScope) : Prop := s.name.size ≤ maxLen ∧ s.version.size ≤ maxLen ∧ ∀ x ∈ s.spans, x.ok
def GRes.ok (r : GRes) : Prop := (∀ a ∈ r.attrs, a.ok) ∧ ∀ s ∈ r.scopes, s.ok
def okB (b : List GRes) : Prop := ∀ r ∈ b, r.ok
def leftV (v : GV) (left : Int) : Int := if left < 0 then -1 else if (v.wt : Int) ≤ left then left - v.wt else -1
def zp (l : List GA) (left : Int) : Int := if left < 0 then left else if (wtAs l : Int) ≤ left then left - wtAs l else -1
mutual
def sameV : GV → GV → Bool
  | .mk k t n b l m, .mk k' t' n' b' l' m' => k == k' && decide (t = t') && n == n' && b == b' && sameVs l l' && sameAs m m'
def sameVs : List GV → List GV → Bool
  | [], [] => true
  | x :: xs, y :: ys => sameV x y && sameVs xs ys
  | _, _ => false
def sameA : GA → GA → Bool
  | .mk k v, .mk k' v' => decide (k = k') && sameV v v'
def sameAs : List GA → List GA → Bool
  | [], [] => true
  | x :: xs, y :: ys => sameA x y && sameAs xs ys
  | _, _ => false
end
mutual
theorem sameV_iff : ∀ (x y : GV), sameV x y = true ↔ x = y
  | .mk k t n b l m, .mk k' t' n' b' l' m' => by
    simp only [sameV, Bool.and_eq_true, beq_iff_eq, qa, sameVs_iff l l', sameAs_iff m m', GV.mk.injEq]
    constructor
    · rintro ⟨⟨⟨⟨⟨h1, h2⟩, h3⟩, h4⟩, h5⟩, h6⟩; exact ⟨h1, h2, h3, h4, h5, h6⟩
    · rintro ⟨h1, h2, h3, h4, h5, h6⟩; exact ⟨⟨⟨⟨⟨h1, h2⟩, h3⟩, h4⟩, h5⟩, h6⟩
theorem sameVs_iff : ∀ (x y : List GV), sameVs x y = true ↔ x = y
  | [], [] => by simp [sameVs]
  | x :: xs, y :: ys => by simp only [sameVs, Bool.and_eq_true, sameV_iff x y, sameVs_iff xs ys, List.cons.injEq]
  | [], y :: ys => by simp [sameVs]
  | x :: xs, [] => by simp [sameVs]
theorem sameA_iff : ∀ (x y : GA), sameA x y = true ↔ x = y
  | .mk k v, .mk k' v' => by simp only [sameA, Bool.and_eq_true, qa, sameV_iff v v', GA.mk.injEq]
theorem sameAs_iff : ∀ (x y : List GA), sameAs x y = true ↔ x = y
  | [], [] => by simp [sameAs]
  | x :: xs, y :: ys => by simp only [sameAs, Bool.and_eq_true, sameA_iff x y, sameAs_iff xs ys, List.cons.injEq]
  | [], y :: ys => by simp [sameAs]
  | x :: xs, [] => by simp [sameAs]
end
end Go.Proofs
namespace Go.Proofs
open Go Go.Al
def w64 (n : Int) : Int := IntKind.i64.wrap n
def yn (c : Int) : Int := if c < 128 then 1 else if c < 194 then 0 else if c < 224 then 2 else if c < 240 then 3 else if c < 245 then 4 else 0
def leastM (k : Int) : Int := if k = 2 then 128 else if k = 3 then 2048 else if k = 4 then 65536 else 0
def sizeM (r : Int) : Int := if r < 128 then 1 else if r < 2048 then 2 else if r < 65536 then 3 else 4
def isM (r : Int) : Bool := decide ((r ≥ 0 ∧ r < 55296) ∨ (r ≥ 57344 ∧ r < 1114112))
def isR (r : Int) : Bool := decide (r ≥ 0 ∧ r ≤ 1114111 ∧ (r < 55296 ∨ r > 57343))
def stepM (r b : Int) : Int := vB (· ||| ·) .i32 (IntKind.i32.wrap (r * 2 ^ (min (6 : Int).toNat (IntKind.bits .i32)))) (IntKind.i32.wrap (vB (· &&& ·) .u8 b 63))
def r0M (c k : Int) : Int := vB (· &&& ·) .i32 (IntKind.i32.wrap c) ((127 : Int).fdiv (2 ^ (min k.toNat (IntKind.bits .i32))))
def badM (b : Int) : Bool := vB (· &&& ·) .u8 b 192 != 128
def w_ (s : ByteArray) (p : Int) : Nat → Int → Int → Option Int
  | 0, _, r => some r
  | n + 1, i, r => if badM (bAt s (p + i)) = true then none else w_ s p n (i + 1) (stepM r (bAt s (p + i)))
def runeM (s : ByteArray) (p : Int) : Int × Int :=
  if p < 0 ∨ p ≥ s.size then (0, 0) else
  if yn (bAt s p) = 0 ∨ yn (bAt s p) > s.size - p then (0, 0) else
  if yn (bAt s p) = 1 then (IntKind.i32.wrap (bAt s p), 1) else
  match w_ s p (yn (bAt s p) - 1).toNat 1 (r0M (bAt s p) (yn (bAt s p))) with
  | none => (0, 0)
  | some r => if r < leastM (yn (bAt s p)) ∨ isM r = false then (0, 0) else (r, yn (bAt s p))
def goM (f : Int → Int) (n : Int) : Nat → Int → Int → Int × Int
  | 0, p, c => (p, c)
  | m + 1, p, c => if p < n then (if f p = 0 then (p, c) else goM f n m (p + f p) (c + 1)) else (p, c)
def cutG (f : Int → Int) (n lim : Int) : Nat → Int → Int
  | 0, p => p
  | m + 1, p => if p < n then (if f p = 0 ∨ p + f p > lim then p else cutG f n lim m (p + f p)) else p
def fM (s : ByteArray) (p : Int) : Int := (runeM s p).2
def endM (s : ByteArray) : Int × Int := goM (fM s) s.size (s.size + 1) 0 0
def checkM (s : ByteArray) : Int := if (endM s).1 < s.size then (endM s).1 else -1
def countM (s : ByteArray) : Int := if (endM s).1 < s.size then -1 else (endM s).2
def cutM (s : ByteArray) (n : Int) : Int := cutG (fM s) s.size n (s.size + 1) 0
def contM (n : Int) : Int := vB (· ||| ·) .u8 128 (vB (· &&& ·) .u8 (IntKind.u8.wrap n) 63)
def headM (r k : Int) : Int := vB (· ||| ·) .u8 (IntKind.u8.wrap (240 * 2 ^ (min (w64 (4 - k)).toNat (IntKind.bits .u8)))) (IntKind.u8.wrap (r.fdiv (2 ^ (min (w64 (6 * w64 (k - 1))).toNat (IntKind.bits .i32)))))
def bytesP (r : Int) : List UInt8 :=
  if sizeM r = 1 then [ofI (IntKind.u8.wrap r)] else
  if sizeM r = 2 then [ofI (headM r (sizeM r)), ofI (contM r)] else
  if sizeM r = 3 then [ofI (headM r (sizeM r)), ofI (contM (r.fdiv (2 ^ (min (6 : Int).toNat (IntKind.bits .i32))))), ofI (contM r)] else
  [ofI (headM r (sizeM r)), ofI (contM (r.fdiv (2 ^ (min (12 : Int).toNat (IntKind.bits .i32))))), ofI (contM (r.fdiv (2 ^ (min (6 : Int).toNat (IntKind.bits .i32))))), ofI (contM r)]
def putM (l : List UInt8) (r : Int) : List UInt8 := if isM r then l ++ bytesP r else l
-- the reference
def guessLoop (s : ByteArray) : Nat → Int → Int → Int
  | 0, _, n => n
  | m + 1, i, n => if i ≥ s.size then -1 else guessLoop s m (i + 1) (64 * n + bAt s i - 128)
def guessM (s : ByteArray) : Int :=
  if bAt s 0 < 128 then bAt s 0 else if bAt s 0 ≥ 240 then guessLoop s 3 1 (bAt s 0 - 240) else if bAt s 0 ≥ 224 then guessLoop s 2 1 (bAt s 0 - 224) else guessLoop s 1 1 (bAt s 0 - 192)
def topM (k n d : Int) : UInt8 := ofI (IntKind.u8.wrap (w64 (k + w64 (n.tdiv d))))
def midM (n d : Int) : UInt8 := ofI (IntKind.u8.wrap (w64 (128 + (w64 (n.tdiv d)).tmod 64)))
def lowM (n : Int) : UInt8 := ofI (IntKind.u8.wrap (w64 (128 + n.tmod 64)))
def bytesM (r : Int) : List UInt8 :=
  if w64 r < 128 then [ofI (IntKind.u8.wrap (w64 r))] else
  if w64 r < 2048 then [topM 192 (w64 r) 64, lowM (w64 r)] else
  if w64 r < 65536 then [topM 224 (w64 r) 4096, midM (w64 r) 64, lowM (w64 r)] else
  [topM 240 (w64 r) 262144, midM (w64 r) 4096, midM (w64 r) 64, lowM (w64 r)]
def rRuneM (s : ByteArray) (p : Int) : Int × Int :=
  if p < 0 ∨ p ≥ s.size then (0, 0) else
  if guessM (s.extract p.toNat s.size) < 0 ∨ guessM (s.extract p.toNat s.size) > 1114111 ∨ isR (guessM (s.extract p.toNat s.size)) = false then (0, 0) else
  if ((strOf (bytesM (guessM (s.extract p.toNat s.size)))).size : Int) > s.size - p ∨ s.extract p.toNat (p + (strOf (bytesM (guessM (s.extract p.toNat s.size)))).size).toNat ≠ strOf (bytesM (guessM (s.extract p.toNat s.size))) then (0, 0) else
  (guessM (s.extract p.toNat s.size), (strOf (bytesM (guessM (s.extract p.toNat s.size)))).size)
def rF (s : ByteArray) (p : Int) : Int := (rRuneM s p).2
def rEnd (s : ByteArray) : Int × Int := goM (rF s) s.size (s.size + 1) 0 0
def rCheckM (s : ByteArray) : Int := if (rEnd s).1 = s.size then -1 else (rEnd s).1
def rCountM (s : ByteArray) : Int := if (rEnd s).1 < s.size then -1 else (rEnd s).2
def rCutLoop (s : ByteArray) : Nat → ByteArray
  | 0 => .empty
  | k + 1 => if rCheckM (s.extract 0 (k + 1)) = -1 then s.extract 0 (k + 1) else rCutLoop s k
def rCutM (s : ByteArray) (n : Int) : ByteArray := rCutLoop s (if s.size < n then (s.size : Int) else n).toNat
end Go.Proofs
namespace Go.Proofs
open Go Go.Al
theorem lengthM_range (c : Int) : 0 ≤ yn c ∧ yn c ≤ 4 := by
  unfold yn
  (repeat' split)
  all_goals omega
end Go.Proofs
namespace Go.Proofs
open Go Go.Al
end Go.Proofs
namespace Go.Proofs
open Go Go.Al
def Dec (f : Int → Int) (n : Nat) : Prop := ∀ p : Int, 0 ≤ p → p < n → f p = 0 ∨ (1 ≤ f p ∧ p + f p ≤ n)
theorem dec_fM (s : ByteArray) : Dec (fM s) s.size := by
  intro p h0 h1
  unfold fM runeM
  have := lengthM_range (bAt s p)
  (repeat' split)
  all_goals (dsimp only; omega)
end Go.Proofs
namespace Go.Proofs
open Go Go.Al
end Go.Proofs
namespace Go.Proofs
open Go Go.Al
theorem bits_and8 (a b : Int) (ha : 0 ≤ a ∧ a < 256) (hb : 0 ≤ b ∧ b < 256) : vB (· &&& ·) .u8 a b = ((a.toNat &&& b.toNat : Nat) : Int) := by
  have h1 : (BitVec.ofInt 8 a).toNat = a.toNat := by rw [BitVec.toNat_ofInt]; omega
  have h2 : (BitVec.ofInt 8 b).toNat = b.toNat := by rw [BitVec.toNat_ofInt]; omega
  show IntKind.u8.wrap ((BitVec.ofInt 8 a &&& BitVec.ofInt 8 b).toNat) = _
  rw [BitVec.toNat_and, h1, h2]
  have := @Nat.and_le_left a.toNat b.toNat
  exact wrap8 (by omega) (by omega)
theorem bits_or8 (a b : Int) (ha : 0 ≤ a ∧ a < 256) (hb : 0 ≤ b ∧ b < 256) : vB (· ||| ·) .u8 a b = ((a.toNat ||| b.toNat : Nat) : Int) := by
  have h1 : (BitVec.ofInt 8 a).toNat = a.toNat := by rw [BitVec.toNat_ofInt]; omega
  have h2 : (BitVec.ofInt 8 b).toNat = b.toNat := by rw [BitVec.toNat_ofInt]; omega
  show IntKind.u8.wrap ((BitVec.ofInt 8 a ||| BitVec.ofInt 8 b).toNat) = _
  rw [BitVec.toNat_or, h1, h2]
  have : a.toNat ||| b.toNat < 2 ^ 8 := Nat.or_lt_two_pow (by omega) (by omega)
  exact wrap8 (by omega) (by omega)
theorem bits_or32 (a b : Int) (ha : 0 ≤ a ∧ a < 1073741824) (hb : 0 ≤ b ∧ b < 1073741824) : vB (· ||| ·) .i32 a b = ((a.toNat ||| b.toNat : Nat) : Int) := by
  have h1 : (BitVec.ofInt 32 a).toNat = a.toNat := by rw [BitVec.toNat_ofInt]; omega
  have h2 : (BitVec.ofInt 32 b).toNat = b.toNat := by rw [BitVec.toNat_ofInt]; omega
  show IntKind.i32.wrap ((BitVec.ofInt 32 a ||| BitVec.ofInt 32 b).toNat) = _
  rw [BitVec.toNat_or, h1, h2]
  have : a.toNat ||| b.toNat < 2 ^ 30 := Nat.or_lt_two_pow (by omega) (by omega)
  exact xJ (by omega) (by omega)
theorem bits_and32 (a b : Int) (ha : 0 ≤ a ∧ a < 1073741824) (hb : 0 ≤ b ∧ b < 1073741824) : vB (· &&& ·) .i32 a b = ((a.toNat &&& b.toNat : Nat) : Int) := by
  have h1 : (BitVec.ofInt 32 a).toNat = a.toNat := by rw [BitVec.toNat_ofInt]; omega
  have h2 : (BitVec.ofInt 32 b).toNat = b.toNat := by rw [BitVec.toNat_ofInt]; omega
  show IntKind.i32.wrap ((BitVec.ofInt 32 a &&& BitVec.ofInt 32 b).toNat) = _
  rw [BitVec.toNat_and, h1, h2]
  have := @Nat.and_le_left a.toNat b.toNat
  exact xJ (by omega) (by omega)
theorem nat192 : ∀ b, b < 256 → ((b &&& 192) = 128 ↔ 128 ≤ b ∧ b < 192) := by decide +kernel
theorem nat63 (b : Nat) : (b &&& 63) = b % 64 := Nat.and_two_pow_sub_one_eq_mod b 6
theorem nator64 (a b : Nat) (h : b < 64) : a * 64 ||| b = a * 64 + b := by
  have := Nat.two_pow_add_eq_or_of_lt (i := 6) h a
  rw [Nat.mul_comm a 64]; exact this.symm
def isC (b : Int) : Prop := 128 ≤ b ∧ b < 192
theorem bad_iff (b : Int) (h : 0 ≤ b ∧ b < 256) : badM b = true ↔ ¬ isC b := by
  have := nat192 b.toNat (by omega)
  unfold badM isC
  rw [bits_and8 b 192 h (by omega), qc, ne_eq, show (192 : Int).toNat = 192 from rfl]
  constructor
  · intro h1 h2; exact h1 (by have := this.2 (by omega); omega)
  · intro h1 h2; exact h1 (by have := this.1 (by omega); omega)
theorem step_eq (r b : Int) (hr : 0 ≤ r ∧ r < 1000000) (hb : isC b) : stepM r b = 64 * r + (b - 128) := by
  unfold isC at hb
  unfold stepM
  have e1 : IntKind.i32.wrap (r * 2 ^ (min (6 : Int).toNat (IntKind.bits .i32))) = r * 64 := xJ (n := r * 64) (by omega) (by omega)
  have e2 : vB (· &&& ·) .u8 b 63 = b - 128 := by
    rw [bits_and8 b 63 (by omega) (by omega), show (63 : Int).toNat = 63 from rfl, nat63]; omega
  rw [e1, e2, xJ (by omega) (by omega), bits_or32 _ _ (by omega) (by omega)]
  have : (r * 64).toNat = r.toNat * 64 := by omega
  rw [this, nator64 _ _ (by omega)]
  omega
theorem r0_2 (c : Int) (h : 192 ≤ c ∧ c < 224) : r0M c 2 = c - 192 := by
  unfold r0M
  rw [xJ (by omega) (by omega)]
  have e : ((127 : Int).fdiv (2 ^ (min (2 : Int).toNat (IntKind.bits .i32)))) = 31 := by decide
  rw [e, bits_and32 _ _ (by omega) (by omega), show (31 : Int).toNat = 31 from rfl, Nat.and_two_pow_sub_one_eq_mod c.toNat 5]
  omega
theorem r0_3 (c : Int) (h : 224 ≤ c ∧ c < 240) : r0M c 3 = c - 224 := by
  unfold r0M
  rw [xJ (by omega) (by omega)]
  have e : ((127 : Int).fdiv (2 ^ (min (3 : Int).toNat (IntKind.bits .i32)))) = 15 := by decide
  rw [e, bits_and32 _ _ (by omega) (by omega), show (15 : Int).toNat = 15 from rfl, Nat.and_two_pow_sub_one_eq_mod c.toNat 4]
  omega
theorem r0_4 (c : Int) (h : 240 ≤ c ∧ c < 248) : r0M c 4 = c - 240 := by
  unfold r0M
  rw [xJ (by omega) (by omega)]
  have e : ((127 : Int).fdiv (2 ^ (min (4 : Int).toNat (IntKind.bits .i32)))) = 7 := by decide
  rw [e, bits_and32 _ _ (by omega) (by omega), show (7 : Int).toNat = 7 from rfl, Nat.and_two_pow_sub_one_eq_mod c.toNat 3]
  omega
end Go.Proofs
namespace Go.Proofs
open Go Go.Al
instance (b : Int) : Decidable (isC b) := by unfold isC; infer_instance
def r3 (b0 b1 b2 : Int) : Int := 64 * (64 * (b0 - 224) + (b1 - 128)) + (b2 - 128)
def r4 (b0 b1 b2 b3 : Int) : Int := 64 * (64 * (64 * (b0 - 240) + (b1 - 128)) + (b2 - 128)) + (b3 - 128)
def ok2 (n b0 b1 : Int) : Prop := 194 ≤ b0 ∧ b0 < 224 ∧ 2 ≤ n ∧ isC b1
def ok3 (n b0 b1 b2 : Int) : Prop := 224 ≤ b0 ∧ b0 < 240 ∧ 3 ≤ n ∧ isC b1 ∧ isC b2 ∧ 2048 ≤ r3 b0 b1 b2 ∧ (r3 b0 b1 b2 < 55296 ∨ 57344 ≤ r3 b0 b1 b2)
def ok4 (n b0 b1 b2 b3 : Int) : Prop := 240 ≤ b0 ∧ b0 < 245 ∧ 4 ≤ n ∧ isC b1 ∧ isC b2 ∧ isC b3 ∧ 65536 ≤ r4 b0 b1 b2 b3 ∧ r4 b0 b1 b2 b3 < 1114112
instance (n b0 b1 : Int) : Decidable (ok2 n b0 b1) := by unfold ok2; infer_instance
instance (n b0 b1 b2 : Int) : Decidable (ok3 n b0 b1 b2) := by unfold ok3; infer_instance
instance (n b0 b1 b2 b3 : Int) : Decidable (ok4 n b0 b1 b2 b3) := by unfold ok4; infer_instance
def D4 (n b0 b1 b2 b3 : Int) : Int × Int :=
  if n < 1 then (0, 0) else if b0 < 128 then (b0, 1) else
  if ok2 n b0 b1 then (64 * (b0 - 192) + (b1 - 128), 2) else
  if ok3 n b0 b1 b2 then (r3 b0 b1 b2, 3) else
  if ok4 n b0 b1 b2 b3 then (r4 b0 b1 b2 b3, 4) else (0, 0)
def DS (s : ByteArray) (p : Int) : Int × Int := D4 (s.size - p) (bAt s p) (bAt s (p + 1)) (bAt s (p + 2)) (bAt s (p + 3))
theorem isM_iff (r : Int) : isM r = true ↔ (0 ≤ r ∧ r < 55296) ∨ (57344 ≤ r ∧ r < 1114112) := by simp [isM]
theorem isM_false {r : Int} (h : ¬ ((0 ≤ r ∧ r < 55296) ∨ (57344 ≤ r ∧ r < 1114112))) : isM r = false := by
  cases k : isM r
  · rfl
  · exact absurd ((isM_iff r).1 k) h
theorem len0 {c : Int} (h : 128 ≤ c ∧ c < 194 ∨ 245 ≤ c) : yn c = 0 := by unfold yn; (repeat' split) <;> omega
theorem len1 {c : Int} (h : c < 128) : yn c = 1 := by unfold yn; (repeat' split) <;> omega
theorem len2 {c : Int} (h : 194 ≤ c ∧ c < 224) : yn c = 2 := by unfold yn; (repeat' split) <;> omega
theorem len3 {c : Int} (h : 224 ≤ c ∧ c < 240) : yn c = 3 := by unfold yn; (repeat' split) <;> omega
theorem len4 {c : Int} (h : 240 ≤ c ∧ c < 245) : yn c = 4 := by unfold yn; (repeat' split) <;> omega
theorem loop1 (s : ByteArray) (p r : Int) (h : 0 ≤ r ∧ r < 1000000) (i : Int) (n : Nat) : w_ s p (n + 1) i r = if isC (bAt s (p + i)) then w_ s p n (i + 1) (64 * r + (bAt s (p + i) - 128)) else none := by
  have hb := bAt_lt s (p + i)
  have h1 := bad_iff _ hb
  rw [w_]
  by_cases hc : isC (bAt s (p + i))
  · rw [if_neg (by rw [h1]; exact fun h => h hc), if_pos hc, step_eq r _ h hc]
  · rw [if_pos (h1.2 hc), if_neg hc]
theorem rune_neg (s : ByteArray) (p : Int) (h : p < 0 ∨ s.size ≤ p) : runeM s p = (0, 0) := by unfold runeM; rw [if_pos (by omega)]
theorem not_ok2 {n b0 b1 : Int} (h : ¬ (194 ≤ b0 ∧ b0 < 224 ∧ 2 ≤ n)) : ¬ ok2 n b0 b1 := fun ⟨a, b, c, _⟩ => h ⟨a, b, c⟩
theorem not_ok3 {n b0 b1 b2 : Int} (h : ¬ (224 ≤ b0 ∧ b0 < 240 ∧ 3 ≤ n)) : ¬ ok3 n b0 b1 b2 := fun ⟨a, b, c, _⟩ => h ⟨a, b, c⟩
theorem not_ok4 {n b0 b1 b2 b3 : Int} (h : ¬ (240 ≤ b0 ∧ b0 < 245 ∧ 4 ≤ n)) : ¬ ok4 n b0 b1 b2 b3 := fun ⟨a, b, c, _⟩ => h ⟨a, b, c⟩
theorem rune_D (s : ByteArray) (p : Int) (hp : 0 ≤ p) : runeM s p = DS s p := by
  unfold DS
  generalize hn : (s.size : Int) - p = n
  by_cases h1 : n < 1
  · rw [rune_neg s p (by omega)]; unfold D4; rw [if_pos h1]
  have hb := bAt_lt s p
  unfold runeM
  rw [if_neg (by omega), hn]
  unfold D4
  rw [if_neg h1]
  generalize hb0 : bAt s p = b0 at hb ⊢
  by_cases a1 : b0 < 128
  · rw [len1 a1, if_neg (by omega), if_pos rfl, if_pos a1, xJ (by omega) (by omega)]
  rw [if_neg a1]
  by_cases a2 : b0 < 194
  · rw [len0 (by omega), if_pos (.inl rfl), if_neg (not_ok2 (by omega)), if_neg (not_ok3 (by omega)), if_neg (not_ok4 (by omega))]
  by_cases a3 : b0 < 224
  · rw [len2 (by omega)]
    by_cases c : n < 2
    · rw [if_pos (by omega), if_neg (not_ok2 (by omega)), if_neg (not_ok3 (by omega)), if_neg (not_ok4 (by omega))]
    rw [if_neg (by omega), if_neg (by decide), r0_2 _ (by omega), show ((2 : Int) - 1).toNat = 0 + 1 from rfl, loop1 _ _ _ (by omega)]
    by_cases c1 : isC (bAt s (p + 1))
    · have c1' := c1; unfold isC at c1'
      rw [if_pos c1]
      simp only [w_]
      rw [if_neg, if_pos ⟨by omega, by omega, by omega, c1⟩]
      have e1 : leastM 2 = 128 := rfl
      rw [e1]
      rintro (h | h)
      · omega
      · have := (isM_iff (64 * (b0 - 192) + (bAt s (p + 1) - 128))).2 (by omega); rw [this] at h; cases h
    · rw [if_neg c1, if_neg (fun h => c1 h.2.2.2), if_neg (not_ok3 (by omega)), if_neg (not_ok4 (by omega))]
  by_cases a4 : b0 < 240
  · rw [len3 (by omega), if_neg (not_ok2 (by omega))]
    by_cases c : n < 3
    · rw [if_pos (by omega), if_neg (not_ok3 (by omega)), if_neg (not_ok4 (by omega))]
    rw [if_neg (by omega), if_neg (by decide), r0_3 _ (by omega), show ((3 : Int) - 1).toNat = 0 + 1 + 1 from rfl, loop1 _ _ _ (by omega)]
    by_cases c1 : isC (bAt s (p + 1))
    · have c1' := c1; unfold isC at c1'
      rw [if_pos c1, loop1 _ _ _ (by omega), show p + (1 + 1) = p + 2 by omega]
      by_cases c2 : isC (bAt s (p + 2))
      · have c2' := c2; unfold isC at c2'
        rw [if_pos c2]
        simp only [w_]
        rw [show 64 * (64 * (b0 - 224) + (bAt s (p + 1) - 128)) + (bAt s (p + 2) - 128) = r3 b0 (bAt s (p + 1)) (bAt s (p + 2)) from rfl]
        have hr : r3 b0 (bAt s (p + 1)) (bAt s (p + 2)) = 64 * (64 * (b0 - 224) + (bAt s (p + 1) - 128)) + (bAt s (p + 2) - 128) := rfl
        have hm := isM_iff (r3 b0 (bAt s (p + 1)) (bAt s (p + 2)))
        have e1 : leastM 3 = 2048 := rfl
        rw [e1, if_neg (not_ok4 (by omega))]
        by_cases d : 2048 ≤ r3 b0 (bAt s (p + 1)) (bAt s (p + 2)) ∧ (r3 b0 (bAt s (p + 1)) (bAt s (p + 2)) < 55296 ∨ 57344 ≤ r3 b0 (bAt s (p + 1)) (bAt s (p + 2)))
        · rw [if_neg, if_pos (show ok3 _ _ _ _ from ⟨by omega, by omega, by omega, c1, c2, d⟩)]
          rintro (h | h)
          · omega
          · rw [hm.2 (by omega)] at h; cases h
        · rw [if_pos, if_neg (fun h => d h.2.2.2.2.2)]
          by_cases e : r3 b0 (bAt s (p + 1)) (bAt s (p + 2)) < 2048
          · exact .inl e
          · exact .inr (isM_false (by omega))
      · rw [if_neg c2, if_neg (fun h => c2 h.2.2.2.2.1), if_neg (not_ok4 (by omega))]
    · rw [if_neg c1, if_neg (fun h => c1 h.2.2.2.1), if_neg (not_ok4 (by omega))]
  rw [if_neg (not_ok2 (by omega)), if_neg (not_ok3 (by omega))]
  by_cases a5 : b0 < 245
  · rw [len4 (by omega)]
    by_cases c : n < 4
    · rw [if_pos (by omega), if_neg (not_ok4 (by omega))]
    rw [if_neg (by omega), if_neg (by decide), r0_4 _ (by omega), show ((4 : Int) - 1).toNat = 0 + 1 + 1 + 1 from rfl, loop1 _ _ _ (by omega)]
    by_cases c1 : isC (bAt s (p + 1))
    · have c1' := c1; unfold isC at c1'
      rw [if_pos c1, loop1 _ _ _ (by omega), show p + (1 + 1) = p + 2 by omega]
      by_cases c2 : isC (bAt s (p + 2))
      · have c2' := c2; unfold isC at c2'
        rw [if_pos c2, loop1 _ _ _ (by omega), show p + (1 + 1 + 1) = p + 3 by omega]
        by_cases c3 : isC (bAt s (p + 3))
        · have c3' := c3; unfold isC at c3'
          rw [if_pos c3]
          simp only [w_]
          rw [show 64 * (64 * (64 * (b0 - 240) + (bAt s (p + 1) - 128)) + (bAt s (p + 2) - 128)) + (bAt s (p + 3) - 128) = r4 b0 (bAt s (p + 1)) (bAt s (p + 2)) (bAt s (p + 3)) from rfl]
          have hr : r4 b0 (bAt s (p + 1)) (bAt s (p + 2)) (bAt s (p + 3)) = 64 * (64 * (64 * (b0 - 240) + (bAt s (p + 1) - 128)) + (bAt s (p + 2) - 128)) + (bAt s (p + 3) - 128) := rfl
          have hm := isM_iff (r4 b0 (bAt s (p + 1)) (bAt s (p + 2)) (bAt s (p + 3)))
          have e1 : leastM 4 = 65536 := rfl
          rw [e1]
          by_cases d : 65536 ≤ r4 b0 (bAt s (p + 1)) (bAt s (p + 2)) (bAt s (p + 3)) ∧ r4 b0 (bAt s (p + 1)) (bAt s (p + 2)) (bAt s (p + 3)) < 1114112
          · rw [if_neg, if_pos (show ok4 _ _ _ _ _ from ⟨by omega, by omega, by omega, c1, c2, c3, d⟩)]
            rintro (h | h)
            · omega
            · rw [hm.2 (by omega)] at h; cases h
          · rw [if_pos, if_neg (fun h => d h.2.2.2.2.2.2)]
            by_cases e : r4 b0 (bAt s (p + 1)) (bAt s (p + 2)) (bAt s (p + 3)) < 65536
            · exact .inl e
            · exact .inr (isM_false (by omega))
        · rw [if_neg c3, if_neg (fun h => c3 h.2.2.2.2.2.1)]
      · rw [if_neg c2, if_neg (fun h => c2 h.2.2.2.2.1)]
    · rw [if_neg c1, if_neg (fun h => c1 h.2.2.2.1)]
  · rw [len0 (by omega), if_pos (.inl rfl), if_neg (not_ok4 (by omega))]
end Go.Proofs
namespace Go.Proofs
open Go Go.Al
def valid (r : Int) : Prop := (0 ≤ r ∧ r < 55296) ∨ (57344 ≤ r ∧ r < 1114112)
def pb (n : Int) : List Int :=
  if n < 128 then [n] else
  if n < 2048 then [192 + n / 64, 128 + n % 64] else
  if n < 65536 then [224 + n / 4096, 128 + n / 64 % 64, 128 + n % 64] else
  [240 + n / 262144, 128 + n / 4096 % 64, 128 + n / 64 % 64, 128 + n % 64]
def Mat (s : ByteArray) : Int → List Int → Prop
  | _, [] => True
  | p, x :: xs => bAt s p = x ∧ Mat s (p + 1) xs
theorem enc_D4 {s : ByteArray} {p g : Int} (hv : valid g) (hm : Mat s p (pb g)) (hl : ((pb g).length : Int) ≤ s.size - p) : DS s p = (g, ((pb g).length : Int)) := by
  unfold valid at hv
  unfold pb at hm hl ⊢
  unfold DS D4
  by_cases a1 : g < 128
  · rw [if_pos a1] at *
    simp only [Mat, and_true] at hm
    simp only [List.length_cons, List.length_nil] at *
    rw [if_neg (by omega), if_pos (by omega), hm]; rfl
  rw [if_neg a1] at *
  by_cases a2 : g < 2048
  · rw [if_pos a2] at *
    simp only [Mat, and_true] at hm
    simp only [List.length_cons, List.length_nil] at *
    obtain ⟨m1, m2⟩ := hm
    rw [if_neg (by omega), if_neg (by omega), if_pos]
    · rw [m1, m2]; congr 1; omega
    · exact ⟨by omega, by omega, by omega, by unfold isC; omega⟩
  rw [if_neg a2] at *
  by_cases a3 : g < 65536
  · rw [if_pos a3] at *
    simp only [Mat, and_true] at hm
    simp only [List.length_cons, List.length_nil, show p + 1 + 1 = p + 2 by omega] at *
    obtain ⟨m1, m2, m3⟩ := hm
    have e : r3 (bAt s p) (bAt s (p + 1)) (bAt s (p + 2)) = g := by unfold r3; rw [m1, m2, m3]; omega
    rw [if_neg (by omega), if_neg (by omega), if_neg (not_ok2 (by omega)), if_pos]
    · rw [e]; rfl
    · exact ⟨by omega, by omega, by omega, by unfold isC; omega, by unfold isC; omega, by omega, by omega⟩
  rw [if_neg a3] at *
  simp only [Mat, and_true] at hm
  simp only [List.length_cons, List.length_nil, show p + 1 + 1 = p + 2 by omega, show p + 2 + 1 = p + 3 by omega] at *
  obtain ⟨m1, m2, m3, m4⟩ := hm
  have e : r4 (bAt s p) (bAt s (p + 1)) (bAt s (p + 2)) (bAt s (p + 3)) = g := by unfold r4; rw [m1, m2, m3, m4]; omega
  rw [if_neg (by omega), if_neg (by omega), if_neg (not_ok2 (by omega)), if_neg (not_ok3 (by omega)), if_pos]
  · rw [e]; rfl
  · exact ⟨by omega, by omega, by omega, by unfold isC; omega, by unfold isC; omega, by unfold isC; omega, by omega, by omega⟩
end Go.Proofs
namespace Go.Proofs
open Go Go.Al
theorem wrap8_id {n : Int} (h : 0 ≤ n ∧ n < 256) : IntKind.u8.wrap n = n := wrap8 h.1 h.2
theorem bytesM_pb {r : Int} (h : 0 ≤ r ∧ r < 1114112) : bytesM r = (pb r).map ofI := by
  have hw : w64 r = r := ze (by omega) (by omega)
  have q1 : ∀ d : Int, 0 < d → r.tdiv d = r / d := fun d _ => Int.tdiv_eq_ediv_of_nonneg h.1
  have m1 : ∀ x : Int, 0 ≤ x → x.tmod 64 = x % 64 := fun x hx => Int.tmod_eq_emod_of_nonneg hx
  have top : ∀ (k d : Int), 0 < d → 0 ≤ k → k + r / d < 256 → topM k r d = ofI (k + r / d) := by
    intro k d hd hk hlt
    have hq : 0 ≤ r / d := Int.ediv_nonneg h.1 (by omega)
    unfold topM w64
    rw [q1 d hd, ze (n := r / d) (by omega) (by omega), ze (by omega) (by omega), wrap8_id (by omega)]
  have mid : ∀ d : Int, 0 < d → midM r d = ofI (128 + r / d % 64) := by
    intro d hd
    have hq : 0 ≤ r / d := Int.ediv_nonneg h.1 (by omega)
    have hle : r / d ≤ r := Int.ediv_le_self _ h.1
    unfold midM w64
    rw [q1 d hd, ze (n := r / d) (by omega) (by omega), m1 _ hq, ze (by omega) (by omega), wrap8_id (by omega)]
  have low : lowM r = ofI (128 + r % 64) := by
    unfold lowM w64
    rw [m1 _ h.1, ze (by omega) (by omega), wrap8_id (by omega)]
  unfold bytesM pb
  rw [hw]
  by_cases a1 : r < 128
  · rw [if_pos a1, if_pos a1, wrap8_id (by omega)]; rfl
  rw [if_neg a1, if_neg a1]
  by_cases a2 : r < 2048
  · rw [if_pos a2, if_pos a2, top 192 64 (by omega) (by omega) (by omega), low]; rfl
  rw [if_neg a2, if_neg a2]
  by_cases a3 : r < 65536
  · rw [if_pos a3, if_pos a3, top 224 4096 (by omega) (by omega) (by omega), low, mid 64 (by omega)]; rfl
  rw [if_neg a3, if_neg a3, top 240 262144 (by omega) (by omega) (by omega), low, mid 64 (by omega), mid 4096 (by omega)]; rfl
theorem pb_range {r : Int} (h : 0 ≤ r ∧ r < 1114112) : ∀ x ∈ pb r, 0 ≤ x ∧ x < 256 := by
  intro x hx
  unfold pb at hx
  (repeat' split at hx) <;> simp only [List.mem_cons, List.not_mem_nil, or_false] at hx <;> omega
theorem drop_bAt (s : ByteArray) (p : Int) (h0 : 0 ≤ p) (h1 : p < s.size) : s.data.toList.drop p.toNat = s.data.toList.getD p.toNat 0 :: s.data.toList.drop (p + 1).toNat := by
  have hl : p.toNat < s.data.toList.length := by
    have : s.data.toList.length = s.size := by simp
    omega
  rw [List.drop_eq_getElem_cons hl, show (p + 1).toNat = p.toNat + 1 by omega, List.getD_eq_getElem?_getD, List.getElem?_eq_getElem hl, Option.getD_some]
theorem mat_iff (s : ByteArray) : ∀ (l : List Int) (p : Int), 0 ≤ p → p + l.length ≤ s.size → (∀ x ∈ l, 0 ≤ x ∧ x < 256) →
    ((s.data.toList.drop p.toNat).take l.length = l.map ofI ↔ Mat s p l)
  | [], p, _, _, _ => by simp [Mat]
  | x :: l, p, h0, h1, hr => by
    simp only [List.length_cons] at h1
    have ih := mat_iff s l (p + 1) (by omega) (by omega) (fun y hy => hr y (List.mem_cons_of_mem _ hy))
    rw [drop_bAt s p h0 (by omega), List.length_cons, List.take_succ_cons, List.map_cons, List.cons.injEq, ih]
    simp only [Mat]
    have hx := hr x List.mem_cons_self
    refine and_congr_left fun _ => ?_
    unfold bAt
    constructor
    · intro e; rw [e]; exact ofI_toNat hx
    · intro e; unfold ofI; rw [← e, Int.toNat_natCast, UInt8.ofNat_toNat]
theorem strOf_map (l : List Int) : (strOf (l.map ofI)).size = l.length := by rw [strOf_size, List.length_map]
end Go.Proofs
namespace Go.Proofs
open Go Go.Al
theorem f_out (s : ByteArray) (p : Int) (h : p < 0 ∨ s.size ≤ p) : fM s p = 0 := by unfold fM; rw [rune_neg s p h]
theorem f_pos (s : ByteArray) (p : Int) (h : fM s p ≠ 0) : 0 ≤ p ∧ p < s.size ∧ 1 ≤ fM s p ∧ p + fM s p ≤ s.size := by
  by_cases hp : p < 0 ∨ s.size ≤ p
  · exact absurd (f_out s p hp) h
  · have := dec_fM s p (by omega) (by omega)
    omega
inductive Path (f : Int → Int) : Int → Int → Int → Prop
  | refl (p : Int) : Path f p p 0
  | step {p q c : Int} (h : f p ≠ 0) (k : Path f (p + f p) q c) : Path f p q (c + 1)
theorem Path.trans {f : Int → Int} {p q r c d : Int} (h : Path f p q c) (k : Path f q r d) : Path f p r (c + d) := by
  induction h with
  | refl => rw [Int.zero_add]; exact k
  | @step p q c h _ ih => have := Path.step h (ih k); rw [show c + 1 + d = c + d + 1 by omega]; exact this
theorem Path.first {f : Int → Int} {p q c : Int} (h : Path f p q c) (hn : p ≠ q) : f p ≠ 0 ∧ ∃ d, Path f (p + f p) q d := by
  cases h with
  | refl => exact absurd rfl hn
  | step h k => exact ⟨h, _, k⟩
theorem path_le {s : ByteArray} {p q c : Int} (h : Path (fM s) p q c) : p ≤ q ∧ 0 ≤ c := by
  induction h with
  | refl => exact ⟨Int.le_refl _, Int.le_refl _⟩
  | step h _ ih => have := f_pos s _ h; omega
theorem Path.comp {s : ByteArray} {p q r c d : Int} (h : Path (fM s) p q c) (k : Path (fM s) p r d) (hle : q ≤ r) : ∃ e, Path (fM s) q r e := by
  induction h generalizing d with
  | refl p => exact ⟨d, k⟩
  | step h k' ih =>
    cases k with
    | refl => have := f_pos s _ h; have := path_le k'; omega
    | step _ k => exact ih k hle
end Go.Proofs
namespace Go.Proofs
open Go Go.Al
theorem app_size (s t : ByteArray) : (s ++ t).size = s.size + t.size := ByteArray.size_append
theorem app_list (s t : ByteArray) : (s ++ t).data.toList = s.data.toList ++ t.data.toList := ByteArray.toList_data_append
theorem len_list (s : ByteArray) : s.data.toList.length = s.size := by simp
theorem nator (i a b : Nat) (h : b < 2 ^ i) : 2 ^ i * a ||| b = 2 ^ i * a + b := (Nat.two_pow_add_eq_or_of_lt h a).symm
theorem contM_eq (n : Int) (h : 0 ≤ n) : contM n = 128 + n % 64 := by
  unfold contM
  have hw : IntKind.u8.wrap n = n % 256 := by
    simp only [IntKind.wrap, IntKind.bits, IntKind.signed, Bool.false_and, Bool.false_eq_true, if_false]; rfl
  have e2 : vB (· &&& ·) .u8 (IntKind.u8.wrap n) 63 = n % 64 := by
    rw [hw, bits_and8 _ 63 (by omega) (by omega), show (63 : Int).toNat = 63 from rfl, nat63]; omega
  rw [e2, bits_or8 _ _ (by omega) (by omega), show (128 : Int).toNat = 2 ^ 6 * 2 from rfl, nator 6 2 _ (by omega)]
  omega
theorem fdiv_pos (a b : Int) (h : 0 < b) : a.fdiv b = a / b := Int.fdiv_eq_ediv_of_nonneg a (by omega)
theorem sz1 {r : Int} (h : r < 128) : sizeM r = 1 := by unfold sizeM; rw [if_pos h]
theorem sz2 {r : Int} (h : 128 ≤ r ∧ r < 2048) : sizeM r = 2 := by unfold sizeM; rw [if_neg (by omega), if_pos (by omega)]
theorem sz3 {r : Int} (h : 2048 ≤ r ∧ r < 65536) : sizeM r = 3 := by unfold sizeM; rw [if_neg (by omega), if_neg (by omega), if_pos (by omega)]
theorem sz4 {r : Int} (h : 65536 ≤ r) : sizeM r = 4 := by unfold sizeM; rw [if_neg (by omega), if_neg (by omega), if_neg (by omega)]
theorem head_eq (r k top : Int) (d : Nat) (m i : Nat) (h : 0 ≤ r) (h1 : IntKind.u8.wrap (240 * 2 ^ (min (w64 (4 - k)).toNat (IntKind.bits .u8))) = top) (h2 : min (w64 (6 * w64 (k - 1))).toNat (IntKind.bits .i32) = d) (ht : top = ((2 ^ i * m : Nat) : Int)) (hlt : r / 2 ^ d < 2 ^ i) (hi : 2 ^ i ≤ 64) (hm : 2 ^ i * m < 192 + 64) :
    headM r k = top + r / 2 ^ d := by
  unfold headM
  have hp : (0 : Int) < 2 ^ d := by have := Nat.two_pow_pos d; exact_mod_cast this
  have hq : 0 ≤ r / 2 ^ d := Int.ediv_nonneg h (by omega)
  have hc : ((2 : Int) ^ i) = ((2 ^ i : Nat) : Int) := by simp
  rw [hc] at hlt
  rw [h1, h2, fdiv_pos _ _ hp, wrap8_id (by omega), bits_or8 _ _ (by omega) (by omega), ht, Int.toNat_natCast, nator i m _ (by omega)]
  omega
theorem bytesP_pb {r : Int} (hv : valid r) : bytesP r = (pb r).map ofI := by
  unfold valid at hv
  unfold bytesP pb
  have c := contM_eq r (by omega)
  have c6 : contM (r.fdiv (2 ^ (min (6 : Int).toNat (IntKind.bits .i32)))) = 128 + r / 64 % 64 := by
    rw [show ((2 : Int) ^ (min (6 : Int).toNat (IntKind.bits .i32))) = 64 from rfl, fdiv_pos _ _ (by omega), contM_eq _ (by omega)]
  have c12 : contM (r.fdiv (2 ^ (min (12 : Int).toNat (IntKind.bits .i32)))) = 128 + r / 4096 % 64 := by
    rw [show ((2 : Int) ^ (min (12 : Int).toNat (IntKind.bits .i32))) = 4096 from rfl, fdiv_pos _ _ (by omega), contM_eq _ (by omega)]
  by_cases a1 : r < 128
  · rw [sz1 a1, if_pos rfl, if_pos a1, wrap8_id (by omega)]; rfl
  rw [if_neg a1]
  by_cases a2 : r < 2048
  · rw [sz2 (by omega), if_neg (by decide), if_pos rfl, if_pos a2, c, head_eq r 2 192 6 3 6 (by omega) (by decide) (by decide) (by decide) (by omega) (by decide) (by decide)]; rfl
  rw [if_neg a2]
  by_cases a3 : r < 65536
  · rw [sz3 (by omega), if_neg (by decide), if_neg (by decide), if_pos rfl, if_pos a3, c, c6, head_eq r 3 224 12 7 5 (by omega) (by decide) (by decide) (by decide) (by omega) (by decide) (by decide)]; rfl
  rw [if_neg a3, sz4 (by omega), if_neg (by decide), if_neg (by decide), if_neg (by decide), c, c6, c12, head_eq r 4 240 18 15 4 (by omega) (by decide) (by decide) (by decide) (by omega) (by decide) (by decide)]; rfl
theorem mat_app (s : ByteArray) : ∀ (l : List Int) (p : Int) (t u : ByteArray), s = t ++ strOf (l.map ofI) ++ u → p = t.size → (∀ x ∈ l, 0 ≤ x ∧ x < 256) → Mat s p l := by
  intro l p t u hs hp hr
  have hz : s.size = t.size + l.length + u.size := by rw [hs, app_size, app_size, strOf_map]
  refine (mat_iff s l p (by omega) (by omega) hr).1 ?_
  rw [hs, app_list, app_list, strOf_list, hp, Int.toNat_natCast, List.append_assoc, List.drop_append, List.drop_eq_nil_of_le (by rw [len_list]; omega), len_list]
  simp
theorem back (p : ByteArray) (r : Int) (u : ByteArray) (hv : isM r = true) :
    strOf (putM p.data.toList r) = p ++ strOf (bytesM r) ∧ runeM (strOf (putM p.data.toList r) ++ u) p.size = (r, ((strOf (putM p.data.toList r)).size : Int) - p.size) := by
  have hv' := (isM_iff r).1 hv
  have h1 : strOf (putM p.data.toList r) = p ++ strOf (bytesM r) := by
    refine str_ext ?_
    rw [strOf_list, app_list, strOf_list]
    unfold putM
    rw [if_pos hv, bytesP_pb hv', bytesM_pb (by omega)]
  refine ⟨h1, ?_⟩
  rw [h1, rune_D _ _ (by omega), bytesM_pb (by omega)]
  have hz : ((p ++ strOf ((pb r).map ofI)).size : Int) - p.size = (pb r).length := by rw [app_size, strOf_map]; omega
  rw [hz]
  refine enc_D4 hv' (mat_app _ (pb r) _ p u rfl rfl (pb_range (by omega))) ?_
  rw [app_size, app_size, strOf_map]; omega
end Go.Proofs
namespace Go.Proofs
open Go Go.Al
def xh (l : Bs) : Bool := l.all (· == 0)
end Go.Proofs
namespace Go.Proofs
open Go Go.Al
end Go.Proofs
namespace Go.Proofs
open Go Go.Al
theorem wC {α : Type} {l : List α} {i : Nat} {c : α} (h : l[i]? = some c) : l.take (i + 1) = l.take i ++ [c] := by
  rw [List.take_add_one, h]; rfl
def nth {α : Type} (l : List α) (i : Nat) (d : α) : α := l.getD i d
theorem yP {α : Type} {l : List α} {i : Nat} {d : α} (h : i < l.length) : l[i]? = some (nth l i d) := by
  unfold nth
  rw [List.getD_eq_getElem?_getD, List.getElem?_eq_getElem h]; rfl
theorem wG {α : Type} {l : List α} {i : Nat} {d : α} (h : i < l.length) : nth l i d ∈ l := List.mem_of_getElem? (yP h)
theorem xX {α β : Type} {l : List α} {i : Nat} {d : α} {f : α → β} (h : i < l.length) : (l.map f)[((i : Nat) : Int).toNat]? = some (f (nth l i d)) := by
  rw [Int.toNat_natCast, List.getElem?_map, yP h]; rfl
def v0 : GV := .mk 0 ⟨#[]⟩ 0 0 [] []
def a0 : GA := .mk ⟨#[]⟩ v0
def nthV (l : List GV) (i : Nat) : GV := nth l i v0
def nthA (l : List GA) (i : Nat) : GA := nth l i a0
theorem ixV {l : List GV} {i : Nat} (h : i < l.length) : (l.map avV)[((i : Nat) : Int).toNat]? = some (nthV l i).av := by rw [xX (d := v0) h, avV_eq]; rfl
theorem ixA {l : List GA} {i : Nat} (h : i < l.length) : (l.map avA)[((i : Nat) : Int).toNat]? = some (nthA l i).av := by rw [xX (d := a0) h, avA_eq]; rfl
theorem nthV_mem {l : List GV} {i : Nat} (h : i < l.length) : nthV l i ∈ l := wG h
theorem nthA_mem {l : List GA} {i : Nat} (h : i < l.length) : nthA l i ∈ l := wG h
theorem wtVs_take (l : List GV) (i : Nat) : wtVs (l.take i) ≤ wtVs l := by
  have := wtVs_append (l.take i) (l.drop i); rw [List.take_append_drop] at this; omega
theorem wtAs_take (l : List GA) (i : Nat) : wtAs (l.take i) ≤ wtAs l := by
  have := wtAs_append (l.take i) (l.drop i); rw [List.take_append_drop] at this; omega
theorem wtAs_nth {l : List GA} {i : Nat} (h : i < l.length) : wtAs (l.take i) + (nthA l i).wt ≤ wtAs l := by
  have := wtAs_take l (i + 1); rw [wC (yP (d := a0) h), wtAs_append] at this; simp only [wtAs, Nat.add_zero] at this; exact this
end Go.Proofs
namespace Go.Proofs
open Go Go.Al
def wA (L : Int) (k : Nat) : Int := if (k : Int) ≤ L then L - k else -1
theorem leftF_bd {L : Int} (h : -1 ≤ L) (k : Nat) : -1 ≤ wA L k ∧ wA L k ≤ L := by unfold wA; split <;> omega
theorem leftV_F (v : GV) (n : Int) : leftV v n = if n < 0 then -1 else wA n v.wt := rfl
theorem xr (l : List GA) (n : Int) : zp l n = if n < 0 then n else wA n (wtAs l) := rfl
theorem leftF_zero {L : Int} (h : -1 ≤ L) : wA L 0 = L := by unfold wA; split <;> omega
theorem leftV_step {l : List GV} {L : Int} {i : Nat} (hi : i < l.length) (h : 0 ≤ wA L (wtVs (l.take i))) : leftV (nthV l i) (wA L (wtVs (l.take i))) = wA L (wtVs (l.take (i + 1))) := by
  have e : wtVs (l.take (i + 1)) = wtVs (l.take i) + (nthV l i).wt := by
    rw [wC (yP (d := v0) hi), wtVs_append]; simp only [wtVs, Nat.add_zero]; rfl
  rw [leftV_F, e]
  unfold wA at *
  split <;> (try split) <;> (try split) <;> (try split) <;> omega
theorem leftV_fin {v : GV} {n : Int} {i : Nat} (hn : ¬ n < 0) (ht : ¬ (v.text.size : Int) > n) (hi : i = v.list.length ∨ wA (n - 1 - v.text.size) (wtVs (v.list.take i)) < 0) : zp v.map (wA (n - 1 - v.text.size) (wtVs (v.list.take i))) = leftV v n := by
  have h1 := wtVs_take v.list i
  have e := v.wt_eq
  rw [xr, leftV_F, if_neg hn]
  have h2 : i = v.list.length → wtVs (v.list.take i) = wtVs v.list := fun h => by rw [h, List.take_length]
  unfold wA at *
  split <;> (try split) <;> (try split) <;> (try split) <;> omega
theorem leftAs_zero (l : List GA) {n : Int} : zp (l.take 0) n = n := by rw [xr]; split; rfl; exact leftF_zero (by omega)
theorem xF (l : List GA) (n : Int) : zp l n ≤ n ∧ (n < 0 → zp l n = n) ∧ (0 ≤ n → -1 ≤ zp l n) := by rw [xr]; unfold wA; split <;> (try split) <;> omega
theorem leftAs_step {l : List GA} {n : Int} {i : Nat} (hi : i < l.length) (h : 0 ≤ zp (l.take i) n) (hk : ¬ ((nthA l i).key.size : Int) > zp (l.take i) n) : leftV (nthA l i).val (zp (l.take i) n - (nthA l i).key.size) = zp (l.take (i + 1)) n := by
  have e : wtAs (l.take (i + 1)) = wtAs (l.take i) + (nthA l i).wt := by
    rw [wC (yP (d := a0) hi), wtAs_append]; simp only [wtAs, Nat.add_zero]; rfl
  have e2 := (nthA l i).wt_eq
  rw [leftV_F, xr, xr, e] at *
  unfold wA at *
  split <;> (try split) <;> (try split) <;> (try split) <;> (try split) <;> omega
theorem leftAs_out {l : List GA} {n : Int} {i : Nat} (hi : i < l.length) (h : 0 ≤ zp (l.take i) n) (hk : ((nthA l i).key.size : Int) > zp (l.take i) n) : (-1 : Int) = zp l n := by
  have q := wtAs_nth hi
  have e2 := (nthA l i).wt_eq
  have q2 := wtAs_take l i
  rw [xr] at *
  unfold wA at *
  split <;> (try split) <;> (try split) <;> (try split) <;> omega
theorem leftAs_fin {l : List GA} {n : Int} {i : Nat} (hi : i = l.length ∨ zp (l.take i) n < 0) : zp (l.take i) n = zp l n := by
  rcases hi with rfl | h
  · rw [List.take_length]
  · have q2 := wtAs_take l i
    rw [xr] at *
    rw [xr]
    unfold wA at *
    split <;> (try split) <;> (try split) <;> (try split) <;> omega
theorem leftF_le {L : Int} {k : Nat} (h : 0 ≤ wA L k) : (k : Int) ≤ L := by unfold wA at h; split at h <;> omega
theorem leftV_len {l : List GV} {L : Int} {i : Nat} (h : 0 ≤ wA L (wtVs (l.take i))) (hi : i ≤ l.length) : (i : Int) ≤ L := by
  have := leftF_le h
  have := len_wtVs (l.take i)
  rw [List.length_take] at this
  omega
theorem leftAs_len {l : List GA} {n : Int} {i : Nat} (h : 0 ≤ zp (l.take i) n) (hi : i ≤ l.length) : (i : Int) ≤ n := by
  rw [xr] at h
  have := len_wtAs (l.take i)
  rw [List.length_take] at this
  split at h
  · omega
  · have := leftF_le h; omega
end Go.Proofs
namespace Go.Proofs
open Go Go.Al
def ge0 : GE := ⟨0, ⟨#[]⟩, []⟩
def gl0 : GL := ⟨[], [], ⟨#[]⟩, []⟩
def gs0 : GSpan := ⟨[], [], [], ⟨#[]⟩, ⟨#[]⟩, 0, 0, 0, [], [], [], 0, ⟨#[]⟩⟩
def gc0 : GScope := ⟨⟨#[]⟩, ⟨#[]⟩, []⟩
def gr0 : GRes := ⟨[], []⟩
def nthE (l : List GE) (i : Nat) : GE := nth l i ge0
def nthL (l : List GL) (i : Nat) : GL := nth l i gl0
def nthS (l : List GSpan) (i : Nat) : GSpan := nth l i gs0
def nthC (l : List GScope) (i : Nat) : GScope := nth l i gc0
def nthR (l : List GRes) (i : Nat) : GRes := nth l i gr0
theorem ixE {l : List GE} {i : Nat} (h : i < l.length) : (l.map GE.av)[((i : Nat) : Int).toNat]? = some (nthE l i).av := xX h
theorem ixL {l : List GL} {i : Nat} (h : i < l.length) : (l.map GL.av)[((i : Nat) : Int).toNat]? = some (nthL l i).av := xX h
theorem ixS {l : List GSpan} {i : Nat} (h : i < l.length) : (l.map GSpan.av)[((i : Nat) : Int).toNat]? = some (nthS l i).av := xX h
theorem ixC {l : List GScope} {i : Nat} (h : i < l.length) : (l.map GScope.av)[((i : Nat) : Int).toNat]? = some (nthC l i).av := xX h
theorem ixR {l : List GRes} {i : Nat} (h : i < l.length) : (l.map GRes.av)[((i : Nat) : Int).toNat]? = some (nthR l i).av := xX h
theorem nthS_mem {l : List GSpan} {i : Nat} (h : i < l.length) : nthS l i ∈ l := wG h
theorem nthC_mem {l : List GScope} {i : Nat} (h : i < l.length) : nthC l i ∈ l := wG h
theorem nthR_mem {l : List GRes} {i : Nat} (h : i < l.length) : nthR l i ∈ l := wG h
theorem sumBy_take {α : Type} (F : α → Nat) (l : List α) (i : Nat) : ya F (l.take i) ≤ ya F l := by
  have := sumBy_append F (l.take i) (l.drop i); rw [List.take_append_drop] at this; omega
theorem getS_w {X : AV} {n : Nat} (h : X.width = n) (ha : (SV.imm X).isAgg = true) : getS 8 (.imm X) 0 n true = some (.imm X) := by
  unfold getS
  exact if_pos ⟨rfl, by rw [SV.width]; exact h, ha⟩
theorem setS_w {X Y : AV} (h : X.width = Y.width) (ha : (SV.imm X).isAgg = (SV.imm Y).isAgg) : setS 8 (.imm X) 0 (.imm Y) = some (.imm Y) := by
  unfold setS
  exact if_pos ⟨rfl, by rw [SV.width, SV.width]; exact h, ha⟩
theorem beqW {a b : Nat} (h : a = b) : Nat.beq a b = true := by subst h; exact Nat.beq_refl a
theorem GSpan.width (s : GSpan) : s.av.width = 42 := by
  simp only [GSpan.av, AV.width, AV.widths, sv, iv, uv]; rfl
theorem GL.width (s : GL) : s.av.width = 26 := by
  simp only [GL.av, AV.width, AV.widths, sv, iv, uv]; rfl
end Go.Proofs
namespace Go.Al
open Go.RowKit
section
variable {P : Program}
def AVTs (P : Program) (n : Nat) : List TypeId → List AV → Prop
  | [], [] => True
  | t :: ts, x :: xs => AVT P n t x ∧ AVTs P n ts xs
  | _, _ => False
theorem avts_of {n : Nat} : ∀ {tys : List TypeId} {l : List AV}, l.length = tys.length → (∀ (j : Nat) t x, tys[j]? = some t → l[j]? = some x → AVT P n t x) → AVTs P n tys l
  | [], [], _, _ => trivial
  | [], _ :: _, h, _ => by simp at h
  | _ :: _, [], h, _ => by simp at h
  | t :: ts, x :: xs, h, k => ⟨k 0 t x rfl rfl, avts_of (by simpa using h) fun j t' x' h1 h2 => k (j + 1) t' x' (by simpa using h1) (by simpa using h2)⟩
theorem AVT.struct {n : Nat} {T : TypeId} {X : AV} {fs : Array Field} {tys : List TypeId} (h : AVT P n T X) (hu : P.underlying T = some (.struct fs)) (ht : fs.toList.map (·.type) = tys) : ∃ m l, n = m + 1 ∧ X = .agg l ∧ AVTs P m tys l := by
  cases n with
  | zero => exact h.elim
  | succ n =>
    simp only [AVT, hu] at h
    obtain ⟨l, h1, h2, h3⟩ := h
    refine ⟨n, l, rfl, h1, avts_of (by rw [h2, ← ht]; simp) fun j t x hj hx => ?_⟩
    rw [← ht, List.getElem?_map] at hj
    cases hf : fs.toList[j]? with
    | none => rw [hf] at hj; cases hj
    | some fl => rw [hf] at hj; cases hj; exact h3 j fl x hf hx
theorem AVT.sl {n w : Nat} {T e : TypeId} {X : AV} (h : AVT P n T X) (hu : P.underlying T = some (.slice e)) (hw : P.cellsOf e = w) : ∃ m l, n = m + 1 ∧ X = .sl w l ∧ ∀ x ∈ l, AVT P m e x := by
  cases n with
  | zero => exact h.elim
  | succ n =>
    simp only [AVT, hu] at h
    obtain ⟨l, h1, h2⟩ := h
    exact ⟨n, l, rfl, by rw [← hw]; exact h1, h2⟩
theorem AVT.int {n : Nat} {T : TypeId} {X : AV} {k : IntKind} (h : AVT P n T X) (hu : P.underlying T = some (.int k)) : ∃ i, X = .v (.int k i) ∧ (Lit.int k i).wf = true := by
  cases n with
  | zero => exact h.elim
  | succ n => simp only [AVT, hu] at h; exact h
theorem AVT.str {n : Nat} {T : TypeId} {X : AV} (h : AVT P n T X) (hu : P.underlying T = some .string) : ∃ s : ByteArray, X = .v (.string s) ∧ s.size ≤ maxLen := by
  cases n with
  | zero => exact h.elim
  | succ n => simp only [AVT, hu] at h; exact h
theorem AVT.bool {n : Nat} {T : TypeId} {X : AV} (h : AVT P n T X) (hu : P.underlying T = some .bool) : ∃ b, X = .v (.bool b) := by
  cases n with
  | zero => exact h.elim
  | succ n => simp only [AVT, hu] at h; exact h
theorem AVT.arr {n m : Nat} {T e : TypeId} {X : AV} (h : AVT P n T X) (hu : P.underlying T = some (.array m e)) (he : P.underlying e = some (.int .u8)) : ∃ l : List UInt8, X = .arr m l ∧ l.length = m := by
  cases n with
  | zero => exact h.elim
  | succ n => simp only [AVT, hu, he] at h; exact h
theorem wK {α : Type} {f : α → AV} {Q : α → Prop} : ∀ {l : List AV}, (∀ x ∈ l, ∃ g, x = f g ∧ Q g) → ∃ gs : List α, l = gs.map f ∧ ∀ g ∈ gs, Q g
  | [], _ => ⟨[], rfl, fun g h => by cases h⟩
  | x :: l, h => by
    obtain ⟨g, h1, h2⟩ := h x List.mem_cons_self
    obtain ⟨gs, h3, h4⟩ := wK (l := l) fun y hy => h y (List.mem_cons_of_mem _ hy)
    refine ⟨g :: gs, by rw [h1, h3]; rfl, fun y hy => ?_⟩
    rcases List.mem_cons.1 hy with rfl | hy
    · exact h2
    · exact h4 y hy
theorem wf_u8 {i : Int} (h : (Lit.int .u8 i).wf = true) : 0 ≤ i ∧ i < 256 := by
  have : 0 ≤ i ∧ i ≤ 255 := by simpa [Lit.wf, IntKind.min, IntKind.max, IntKind.signed, IntKind.bits] using h
  omega
theorem wf_i64 {i : Int} (h : (Lit.int .i64 i).wf = true) : -9223372036854775808 ≤ i ∧ i < 9223372036854775808 := by
  have : -9223372036854775808 ≤ i ∧ i ≤ 9223372036854775807 := by simpa [Lit.wf, IntKind.min, IntKind.max, IntKind.signed, IntKind.bits] using h
  omega
theorem wf_u64 {i : Int} (h : (Lit.int .u64 i).wf = true) : 0 ≤ i ∧ i < 18446744073709551616 := by
  have : 0 ≤ i ∧ i ≤ 18446744073709551615 := by simpa [Lit.wf, IntKind.min, IntKind.max, IntKind.signed, IntKind.bits] using h
  omega
end
end Go.Al
namespace Go.Al
open Go.RowKit
end Go.Al
namespace Go.Proofs
open Go Go.Al
set_option maxRecDepth 10000
def dtys : List TypeId := [3, 4, 5, 9, 22, 24, 26, 28, 42, 60, 61, 62, 63, 65, 67, 69, 71, 73, 75, 94, 96, 98, 101, 103, 118]
theorem dtys_ok : dataTys Try.prog dtys = true := by kernel_rfl
theorem kids : Kids Try.prog (· < Try.prog.types.size) := kids_rows (by kernel_rfl) (by kernel_rfl)
theorem full : ∀ t e, t < Try.prog.types.size → Try.prog.underlying t = some (.slice e) → 0 < Try.prog.cellsOf e := slices_full_of _ (by kernel_rfl)
theorem co22 : Try.prog.cellsOf 71 = 2 := by kernel_rfl
theorem ft24 : (Program.fieldsOf Try.prog 24).toList.map (·.type) = [22] := by kernel_rfl
theorem co61 : Try.prog.cellsOf 98 = 7 := by kernel_rfl
theorem co62 : Try.prog.cellsOf 101 = 3 := by kernel_rfl
theorem co63 : Try.prog.cellsOf 103 = 26 := by kernel_rfl
theorem ft65 : (Program.fieldsOf Try.prog 65).toList.map (·.type) = [3, 9] := by kernel_rfl
theorem ft67 : (Program.fieldsOf Try.prog 67).toList.map (·.type) = [26, 28, 28, 9, 9, 3, 60, 60, 61, 62, 63, 65] := by kernel_rfl
theorem co69 : Try.prog.cellsOf 75 = 3 := by kernel_rfl
theorem ft71 : (Program.fieldsOf Try.prog 71).toList.map (·.type) = [61, 69] := by kernel_rfl
theorem co73 : Try.prog.cellsOf 67 = 42 := by kernel_rfl
theorem ft75 : (Program.fieldsOf Try.prog 75).toList.map (·.type) = [9, 9, 73] := by kernel_rfl
theorem co94 : Try.prog.cellsOf 96 = 6 := by kernel_rfl
theorem ft96 : (Program.fieldsOf Try.prog 96).toList.map (·.type) = [5, 9, 3, 60, 94, 61] := by kernel_rfl
theorem ft98 : (Program.fieldsOf Try.prog 98).toList.map (·.type) = [9, 96] := by kernel_rfl
theorem ft101 : (Program.fieldsOf Try.prog 101).toList.map (·.type) = [60, 9, 61] := by kernel_rfl
theorem ft103 : (Program.fieldsOf Try.prog 103).toList.map (·.type) = [26, 28, 9, 61] := by kernel_rfl
theorem zl {n : Nat} {t : TypeId} {ts : List TypeId} {l : List AV} (h : AVTs Try.prog n (t :: ts) l) : ∃ x xs, l = x :: xs ∧ AVT Try.prog n t x ∧ AVTs Try.prog n ts xs := by
  cases l with
  | nil => exact h.elim
  | cons x xs => exact ⟨x, xs, rfl, h.1, h.2⟩
theorem xn {n : Nat} {l : List AV} (h : AVTs Try.prog n [] l) : l = [] := by
  cases l with
  | nil => rfl
  | cons x xs => exact h.elim
theorem in_V : ∀ n X, AVT Try.prog n 96 X → ∃ v : GV, X = avV v ∧ v.ok := by
  intro n
  induction n using Nat.strongRecOn with
  | _ n ih =>
  intro X h
  obtain ⟨m, l, rfl, rfl, q⟩ := AVT.struct h us96 ft96
  obtain ⟨x0, l0, rfl, h0, q0⟩ := zl q
  obtain ⟨x1, l1, rfl, h1, q1⟩ := zl q0
  obtain ⟨x2, l2, rfl, h2, q2⟩ := zl q1
  obtain ⟨x3, l3, rfl, h3, q3⟩ := zl q2
  obtain ⟨x4, l4, rfl, h4, q4⟩ := zl q3
  obtain ⟨x5, l5, rfl, h5, q5⟩ := zl q4
  obtain rfl := xn q5
  obtain ⟨k, rfl, wk⟩ := AVT.int h0 Try.underlying5
  obtain ⟨t, rfl, wt⟩ := AVT.str h1 Try.underlying9
  obtain ⟨i, rfl, wi⟩ := AVT.int h2 Try.underlying3
  obtain ⟨b, rfl, wb⟩ := AVT.int h3 Try.underlying60
  obtain ⟨m4, l4', rfl, rfl, e4⟩ := AVT.sl h4 Try.underlying94 co94
  obtain ⟨m5, l5', e5, rfl, e6⟩ := AVT.sl h5 Try.underlying61 co61
  obtain ⟨vs, rfl, ovs⟩ := wK (f := avV) (Q := GV.ok) fun x hx => ih m4 (by omega) x (e4 x hx)
  obtain ⟨az, rfl, oas⟩ := wK (f := avA) (Q := GA.ok) fun x hx => by
    have h := e6 x hx
    clear h0 h1 h2 h3 h4 h5 e4 e6
    obtain ⟨m', l, e7, rfl, q⟩ := AVT.struct h us98 ft98
    obtain ⟨x0, l0, rfl, h0, q0⟩ := zl q
    obtain ⟨x1, l1, rfl, h1, q1⟩ := zl q0
    obtain rfl := xn q1
    obtain ⟨key, rfl, wkey⟩ := AVT.str h0 Try.underlying9
    obtain ⟨v, rfl, ov⟩ := ih m' (by omega) x1 h1
    exact ⟨.mk key v, by rw [avA], by rw [GA.ok]; exact ⟨wkey, ov⟩⟩
  refine ⟨.mk k t i b vs az, by rw [avV_eq]; rfl, ?_⟩
  rw [GV.ok, okVs_iff, okAs_iff]
  exact ⟨wf_u8 wk, wt, wf_i64 wi, wf_u64 wb, ovs, oas⟩
theorem in_A {n : Nat} {X : AV} (h : AVT Try.prog n 98 X) : ∃ a : GA, X = avA a ∧ a.ok := by
  obtain ⟨m, l, rfl, rfl, q⟩ := AVT.struct h us98 ft98
  obtain ⟨x0, l0, rfl, h0, q0⟩ := zl q
  obtain ⟨x1, l1, rfl, h1, q1⟩ := zl q0
  obtain rfl := xn q1
  obtain ⟨key, rfl, wkey⟩ := AVT.str h0 Try.underlying9
  obtain ⟨v, rfl, ov⟩ := in_V _ _ h1
  exact ⟨.mk key v, by rw [avA], by rw [GA.ok]; exact ⟨wkey, ov⟩⟩
theorem in_As {n : Nat} {X : AV} (h : AVT Try.prog n 61 X) : ∃ l : List GA, X = .sl 7 (l.map avA) ∧ ∀ a ∈ l, a.ok := by
  obtain ⟨m, l, rfl, rfl, e⟩ := AVT.sl h Try.underlying61 co61
  obtain ⟨az, rfl, oas⟩ := wK (f := avA) (Q := GA.ok) fun x hx => in_A (e x hx)
  exact ⟨az, rfl, oas⟩
theorem in_E {n : Nat} {X : AV} (h : AVT Try.prog n 101 X) : ∃ e : GE, X = e.av ∧ e.ok := by
  obtain ⟨m, l, rfl, rfl, q⟩ := AVT.struct h us101 ft101
  obtain ⟨x0, l0, rfl, h0, q0⟩ := zl q
  obtain ⟨x1, l1, rfl, h1, q1⟩ := zl q0
  obtain ⟨x2, l2, rfl, h2, q2⟩ := zl q1
  obtain rfl := xn q2
  obtain ⟨t, rfl, wt⟩ := AVT.int h0 Try.underlying60
  obtain ⟨s, rfl, ws⟩ := AVT.str h1 Try.underlying9
  obtain ⟨az, rfl, oas⟩ := in_As h2
  exact ⟨⟨t, s, az⟩, rfl, wf_u64 wt, ws, oas⟩
theorem in_L {n : Nat} {X : AV} (h : AVT Try.prog n 103 X) : ∃ e : GL, X = e.av ∧ e.ok := by
  obtain ⟨m, l, rfl, rfl, q⟩ := AVT.struct h us103 ft103
  obtain ⟨x0, l0, rfl, h0, q0⟩ := zl q
  obtain ⟨x1, l1, rfl, h1, q1⟩ := zl q0
  obtain ⟨x2, l2, rfl, h2, q2⟩ := zl q1
  obtain ⟨x3, l3, rfl, h3, q3⟩ := zl q2
  obtain rfl := xn q3
  obtain ⟨t, rfl, wt⟩ := AVT.arr h0 Try.underlying26 Try.underlying5
  obtain ⟨s, rfl, ws⟩ := AVT.arr h1 Try.underlying28 Try.underlying5
  obtain ⟨z, rfl, wz⟩ := AVT.str h2 Try.underlying9
  obtain ⟨az, rfl, oas⟩ := in_As h3
  exact ⟨⟨t, s, z, az⟩, rfl, wt, ws, wz, oas⟩
theorem in_S {n : Nat} {X : AV} (h : AVT Try.prog n 67 X) : ∃ s : GSpan, X = s.av ∧ s.ok := by
  obtain ⟨m, l, rfl, rfl, q⟩ := AVT.struct h us67 ft67
  obtain ⟨x0, l0, rfl, h0, q0⟩ := zl q
  obtain ⟨x1, l1, rfl, h1, q1⟩ := zl q0
  obtain ⟨x2, l2, rfl, h2, q2⟩ := zl q1
  obtain ⟨x3, l3, rfl, h3, q3⟩ := zl q2
  obtain ⟨x4, l4, rfl, h4, q4⟩ := zl q3
  obtain ⟨x5, l5, rfl, h5, q5⟩ := zl q4
  obtain ⟨x6, l6, rfl, h6, q6⟩ := zl q5
  obtain ⟨x7, l7, rfl, h7, q7⟩ := zl q6
  obtain ⟨x8, l8, rfl, h8, q8⟩ := zl q7
  obtain ⟨x9, l9, rfl, h9, q9⟩ := zl q8
  obtain ⟨x10, l10, rfl, h10, q10⟩ := zl q9
  obtain ⟨x11, l11, rfl, h11, q11⟩ := zl q10
  obtain rfl := xn q11
  obtain ⟨tr, rfl, w0⟩ := AVT.arr h0 Try.underlying26 Try.underlying5
  obtain ⟨id, rfl, w1⟩ := AVT.arr h1 Try.underlying28 Try.underlying5
  obtain ⟨pa, rfl, w2⟩ := AVT.arr h2 Try.underlying28 Try.underlying5
  obtain ⟨s3, rfl, w3⟩ := AVT.str h3 Try.underlying9
  obtain ⟨s4, rfl, w4⟩ := AVT.str h4 Try.underlying9
  obtain ⟨i5, rfl, w5⟩ := AVT.int h5 Try.underlying3
  obtain ⟨i6, rfl, w6⟩ := AVT.int h6 Try.underlying60
  obtain ⟨i7, rfl, w7⟩ := AVT.int h7 Try.underlying60
  obtain ⟨az, rfl, w8⟩ := in_As h8
  obtain ⟨m9, l9', e9, rfl, k9⟩ := AVT.sl h9 Try.underlying62 co62
  obtain ⟨es, rfl, w9⟩ := wK (f := GE.av) (Q := GE.ok) fun x hx => in_E (k9 x hx)
  obtain ⟨m10, l10', e10, rfl, k10⟩ := AVT.sl h10 Try.underlying63 co63
  obtain ⟨ls, rfl, w10⟩ := wK (f := GL.av) (Q := GL.ok) fun x hx => in_L (k10 x hx)
  obtain ⟨mm, ll, em, rfl, qq⟩ := AVT.struct h11 us65 ft65
  obtain ⟨y0, ll0, rfl, g0, qq0⟩ := zl qq
  obtain ⟨y1, ll1, rfl, g1, qq1⟩ := zl qq0
  obtain rfl := xn qq1
  obtain ⟨c, rfl, wc⟩ := AVT.int g0 Try.underlying3
  obtain ⟨nt, rfl, wn⟩ := AVT.str g1 Try.underlying9
  exact ⟨⟨tr, id, pa, s3, s4, i5, i6, i7, az, es, ls, c, nt⟩, rfl, ⟨w0, w1, w2⟩, ⟨w3, w4, wn⟩, ⟨wf_i64 w5, wf_u64 w6, wf_u64 w7, wf_i64 wc⟩, w8, w9, w10⟩
theorem in_C {n : Nat} {X : AV} (h : AVT Try.prog n 75 X) : ∃ s : GScope, X = s.av ∧ s.ok := by
  obtain ⟨m, l, rfl, rfl, q⟩ := AVT.struct h us75 ft75
  obtain ⟨x0, l0, rfl, h0, q0⟩ := zl q
  obtain ⟨x1, l1, rfl, h1, q1⟩ := zl q0
  obtain ⟨x2, l2, rfl, h2, q2⟩ := zl q1
  obtain rfl := xn q2
  obtain ⟨s0, rfl, w0⟩ := AVT.str h0 Try.underlying9
  obtain ⟨s1, rfl, w1⟩ := AVT.str h1 Try.underlying9
  obtain ⟨m2, l2', e2, rfl, k2⟩ := AVT.sl h2 Try.underlying73 co73
  obtain ⟨ss, rfl, w2⟩ := wK (f := GSpan.av) (Q := GSpan.ok) fun x hx => in_S (k2 x hx)
  exact ⟨⟨s0, s1, ss⟩, rfl, w0, w1, w2⟩
theorem in_R {n : Nat} {X : AV} (h : AVT Try.prog n 71 X) : ∃ r : GRes, X = r.av ∧ r.ok := by
  obtain ⟨m, l, rfl, rfl, q⟩ := AVT.struct h us71 ft71
  obtain ⟨x0, l0, rfl, h0, q0⟩ := zl q
  obtain ⟨x1, l1, rfl, h1, q1⟩ := zl q0
  obtain rfl := xn q1
  obtain ⟨az, rfl, w0⟩ := in_As h0
  obtain ⟨m1, l1', e1, rfl, k1⟩ := AVT.sl h1 Try.underlying69 co69
  obtain ⟨ss, rfl, w1⟩ := wK (f := GScope.av) (Q := GScope.ok) fun x hx => in_C (k1 x hx)
  exact ⟨⟨az, ss⟩, rfl, w0, w1⟩
theorem in_B {n : Nat} {X : AV} (h : AVT Try.prog n 24 X) : ∃ b : List GRes, X = z9 b ∧ okB b := by
  obtain ⟨m, l, rfl, rfl, q⟩ := AVT.struct h us24 ft24
  obtain ⟨x0, l0, rfl, h0, q0⟩ := zl q
  obtain rfl := xn q0
  obtain ⟨m1, l1', e1, rfl, k1⟩ := AVT.sl h0 Try.underlying22 co22
  obtain ⟨rs, rfl, w1⟩ := wK (f := GRes.av) (Q := GRes.ok) fun x hx => in_R (k1 x hx)
  exact ⟨rs, rfl, w1⟩
end Go.Proofs
namespace Go.Proofs
open Go Go.Al
end Go.Proofs
namespace Go.Proofs
open Go Go.Al
def wE : List GE → Int → Int
  | [], m => m
  | e :: es, m => if m < 0 then m else if (e.name.size : Int) > m then -1 else wE es (zp e.attrs (m - 1 - e.name.size))
def wD : List GL → Int → Int
  | [], m => m
  | e :: es, m => if m < 0 then m else if (e.state.size : Int) > m then -1 else wD es (zp e.attrs (m - 1 - e.state.size))
def wI (s : GSpan) (n : Int) : Int :=
  if n < 0 ∨ (s.state.size : Int) > n ∨ (s.name.size : Int) > n ∨ (s.note.size : Int) > n then -1
  else wD s.links (wE s.events (zp s.attrs (n - 1 - s.state.size - s.name.size - s.note.size)))
def xI : List GSpan → Int → Int
  | [], m => m
  | x :: xs, m => if m < 0 then m else xI xs (wI x m)
def wT : List GScope → Int → Int
  | [], m => m
  | c :: cs, m => if m < 0 then m else if (c.name.size : Int) > m ∨ (c.version.size : Int) > m then -1 else wT cs (xI c.spans (m - 1 - c.name.size - c.version.size))
def wJ : List GRes → Int → Int
  | [], m => m
  | r :: rs, m => if m < 0 then m else wJ rs (wT r.scopes (zp r.attrs (m - 1)))
theorem leftAs_wt {l : List GA} {n : Int} (h : 0 ≤ zp l n) : zp l n + wtAs l ≤ n := by
  rw [xr] at h ⊢
  unfold wA at h ⊢
  split at h <;> (try split at h) <;> (try split) <;> (try split) <;> omega
theorem leftE_neg : ∀ (es : List GE) {m : Int}, m < 0 → wE es m = m
  | [], _, _ => rfl
  | _ :: _, m, h => by rw [wE, if_pos h]
theorem yZ : ∀ (es : List GL) {m : Int}, m < 0 → wD es m = m
  | [], _, _ => rfl
  | _ :: _, m, h => by rw [wD, if_pos h]
theorem leftSp_neg : ∀ (es : List GSpan) {m : Int}, m < 0 → xI es m = m
  | [], _, _ => rfl
  | _ :: _, m, h => by rw [xI, if_pos h]
theorem leftC_neg : ∀ (es : List GScope) {m : Int}, m < 0 → wT es m = m
  | [], _, _ => rfl
  | _ :: _, m, h => by rw [wT, if_pos h]
theorem xW : ∀ (es : List GRes) {m : Int}, m < 0 → wJ es m = m
  | [], _, _ => rfl
  | _ :: _, m, h => by rw [wJ, if_pos h]
theorem leftE_wt : ∀ (es : List GE) {m : Int}, 0 ≤ wE es m → wE es m + ya GE.wt es ≤ m
  | [], m, h => by simp [wE, ya]
  | e :: es, m, h => by
    rw [wE] at h ⊢
    split at h
    · omega
    split at h
    · omega
    rename_i h1 h2
    rw [if_neg h1, if_neg h2]
    have h3 := leftE_wt es h
    have h4 := leftAs_wt (l := e.attrs) (n := m - 1 - e.name.size) (by omega)
    simp only [ya, GE.wt]; omega
theorem leftL_wt : ∀ (es : List GL) {m : Int}, 0 ≤ wD es m → wD es m + ya GL.wt es ≤ m
  | [], m, h => by simp [wD, ya]
  | e :: es, m, h => by
    rw [wD] at h ⊢
    split at h
    · omega
    split at h
    · omega
    rename_i h1 h2
    rw [if_neg h1, if_neg h2]
    have h3 := leftL_wt es h
    have h4 := leftAs_wt (l := e.attrs) (n := m - 1 - e.state.size) (by omega)
    simp only [ya, GL.wt]; omega
theorem leftS_wt {s : GSpan} {n : Int} (h : 0 ≤ wI s n) : wI s n + s.wt ≤ n := by
  unfold wI at h ⊢
  split at h
  · omega
  rename_i h1
  rw [if_neg h1]
  have h2 := leftL_wt _ h
  have h3 := leftE_wt s.events (m := zp s.attrs (n - 1 - s.state.size - s.name.size - s.note.size)) (by omega)
  have h4 := leftAs_wt (l := s.attrs) (n := n - 1 - s.state.size - s.name.size - s.note.size) (by omega)
  unfold GSpan.wt; omega
theorem leftSp_wt : ∀ (es : List GSpan) {m : Int}, 0 ≤ xI es m → xI es m + ya GSpan.wt es ≤ m
  | [], m, h => by simp [xI, ya]
  | e :: es, m, h => by
    rw [xI] at h ⊢
    split at h
    · omega
    rename_i h1
    rw [if_neg h1]
    have h3 := leftSp_wt es h
    have h4 := leftS_wt (s := e) (n := m) (by omega)
    simp only [ya]; omega
theorem leftC_wt : ∀ (es : List GScope) {m : Int}, 0 ≤ wT es m → wT es m + ya GScope.wt es ≤ m
  | [], m, h => by simp [wT, ya]
  | e :: es, m, h => by
    rw [wT] at h ⊢
    split at h
    · omega
    split at h
    · omega
    rename_i h1 h2
    rw [if_neg h1, if_neg h2]
    have h3 := leftC_wt es h
    have h4 := leftSp_wt e.spans (m := m - 1 - e.name.size - e.version.size) (by omega)
    simp only [ya, GScope.wt]; omega
theorem leftR_wt : ∀ (es : List GRes) {m : Int}, 0 ≤ wJ es m → wJ es m + wtB es ≤ m
  | [], m, h => by simp [wJ, ya, wtB]
  | e :: es, m, h => by
    rw [wJ] at h ⊢
    split at h
    · omega
    rename_i h1
    rw [if_neg h1]
    have h3 := leftR_wt es h
    have h4 := leftC_wt e.scopes (m := zp e.attrs (m - 1)) (by omega)
    have h5 := leftAs_wt (l := e.attrs) (n := m - 1) (by omega)
    simp only [wtB, ya, GRes.wt] at h3 ⊢; omega
theorem we {α : Type} {l : List α} {i : Nat} {d : α} (h : i < l.length) : l.drop i = nth l i d :: l.drop (i + 1) := by
  rw [List.drop_eq_getElem_cons h]
  congr 1
  unfold nth
  rw [List.getD_eq_getElem?_getD, List.getElem?_eq_getElem h]; rfl
theorem leftE_drop {l : List GE} {i : Nat} {m : Int} (hi : i < l.length) (hm : ¬ m < 0) (hk : ¬ ((nthE l i).name.size : Int) > m) : wE (l.drop i) m = wE (l.drop (i + 1)) (zp (nthE l i).attrs (m - 1 - (nthE l i).name.size)) := by
  rw [we (d := ge0) hi, wE, if_neg hm]; exact if_neg hk
theorem y9 {l : List GE} {i : Nat} {m : Int} (hi : i < l.length) (hm : ¬ m < 0) (hk : ((nthE l i).name.size : Int) > m) : wE (l.drop i) m = -1 := by
  rw [we (d := ge0) hi, wE, if_neg hm]; exact if_pos hk
theorem leftL_drop {l : List GL} {i : Nat} {m : Int} (hi : i < l.length) (hm : ¬ m < 0) (hk : ¬ ((nthL l i).state.size : Int) > m) : wD (l.drop i) m = wD (l.drop (i + 1)) (zp (nthL l i).attrs (m - 1 - (nthL l i).state.size)) := by
  rw [we (d := gl0) hi, wD, if_neg hm]; exact if_neg hk
theorem xC {l : List GL} {i : Nat} {m : Int} (hi : i < l.length) (hm : ¬ m < 0) (hk : ((nthL l i).state.size : Int) > m) : wD (l.drop i) m = -1 := by
  rw [we (d := gl0) hi, wD, if_neg hm]; exact if_pos hk
theorem leftSp_drop {l : List GSpan} {i : Nat} {m : Int} (hi : i < l.length) (hm : ¬ m < 0) : xI (l.drop i) m = xI (l.drop (i + 1)) (wI (nthS l i) m) := by
  rw [we (d := gs0) hi, xI, if_neg hm]; rfl
theorem leftC_drop {l : List GScope} {i : Nat} {m : Int} (hi : i < l.length) (hm : ¬ m < 0) (h1 : ¬ ((nthC l i).name.size : Int) > m) (h2 : ¬ ((nthC l i).version.size : Int) > m) : wT (l.drop i) m = wT (l.drop (i + 1)) (xI (nthC l i).spans (m - 1 - (nthC l i).name.size - (nthC l i).version.size)) := by
  rw [we (d := gc0) hi, wT, if_neg hm]; exact if_neg (fun h => h.elim h1 h2)
theorem xx {l : List GScope} {i : Nat} {m : Int} (hi : i < l.length) (hm : ¬ m < 0) (h1 : ((nthC l i).name.size : Int) > m ∨ ((nthC l i).version.size : Int) > m) : wT (l.drop i) m = -1 := by
  rw [we (d := gc0) hi, wT, if_neg hm]; exact if_pos h1
theorem y6 {l : List GRes} {i : Nat} {m : Int} (hi : i < l.length) (hm : ¬ m < 0) : wJ (l.drop i) m = wJ (l.drop (i + 1)) (wT (nthR l i).scopes (zp (nthR l i).attrs (m - 1))) := by
  rw [we (d := gr0) hi, wJ, if_neg hm]; rfl
end Go.Proofs
namespace Go.Proofs
open Go Go.Al
set_option maxRecDepth 10000
end Go.Proofs
namespace Go.Proofs
open Go Go.Al
set_option maxRecDepth 10000
end Go.Proofs
namespace Go.Proofs
open Go Go.Al
set_option maxRecDepth 10000
end Go.Proofs
namespace Go.Proofs
open Go Go.Al
set_option maxRecDepth 10000
end Go.Proofs
namespace Go.Proofs
open Go Go.Al
set_option maxRecDepth 10000
end Go.Proofs
namespace Go.Proofs
open Go Go.Al
set_option maxRecDepth 10000
theorem leftV_st (v : GV) (n : Int) (hn : -1 ≤ n ∧ n ≤ 1000000000) (ih : ∀ y ∈ v.list, ∀ n : Int, -1 ≤ n ∧ n ≤ 1000000000 → z8 Try.prog Γ0 36 [y.av, iv n] [iv (leftV y n)]) (ihm : ∀ n : Int, -1 ≤ n ∧ n ≤ 1000000000 → z8 Try.prog Γ0 24 [.sl 7 (v.map.map avA), iv n] [iv (zp v.map n)]) : z8 Try.prog Γ0 36 [v.av, iv n] [iv (leftV v n)] := by
  have ek := v.wt_eq
  refine zq Try.func36 rfl Try.ntmps36 (by kernel_rfl) rfl fun w0 I0 G0 => ?_
  refine zF <| zC <| g_uG (zV 1002 rfl rfl rfl rfl) rfl <| g_u (zE rfl rfl) <| zH <| zA <| zF <| zF <| zC <| g_u (zB rfl rfl) <| g_u (y8 rfl rfl rfl) <| g_u (zB rfl rfl) <| z6 (t := 8) rfl ?_
  rintro (hb1 | hb1)
  · rw [hb1]
    have hn0 : n < 0 := of_decide_eq_true hb1
    refine zQ rfl rfl rfl <| zQ rfl rfl rfl <| zQ rfl rfl rfl <| zQ rfl rfl rfl <| zQ rfl rfl rfl <| g_u (zi rfl rfl rfl) <| zH <| zA <| yD rfl <| zF <| zC <| g_u (zE rfl rfl) <| zH <| zA <| zd <| zh ?_
    exact ⟨⟨(rfl : toAV (Al.look _ _) = some _).trans (congrArg some (by (exact congrArg iv (by rw [leftV_F, if_pos hn0])))), rfl⟩, trivial⟩
  · rw [hb1]
    have hn0 : ¬ n < 0 := of_decide_eq_false hb1
    refine zN rfl rfl (zI rfl rfl fa96_1 rfl) <| zN rfl rfl (zG rfl rfl rfl tA9 tS9 rfl rfl) <| zN rfl rfl (xP rfl rfl Try.underlying9) <| zN rfl rfl (zB rfl rfl) <| zN rfl rfl (s_gtI rfl rfl rfl) <| g_u (z0 rfl rfl rfl) <| zH <| zA ?_
    refine zf rfl (fun hb2 => ?_) (fun hb2 => ?_)
    · have ht0 : (v.text.size : Int) > n := of_decide_eq_true hb2
      refine zF <| zC <| g_u (zE rfl rfl) <| zH <| zA <| zd <| zh ?_
      exact ⟨⟨(rfl : toAV (Al.look _ _) = some _).trans (congrArg some (by (exact congrArg iv (by rw [leftV_F, if_neg hn0]; unfold wA; rw [if_neg (by omega)])))), rfl⟩, trivial⟩
    · have ht0 : ¬ (v.text.size : Int) > n := of_decide_eq_false hb2
      have hL : -1 ≤ n - 1 - v.text.size := by omega
      refine zW <| zA <| zF <| zC <| g_u (zB rfl rfl) <| g_u (vF rfl rfl rfl) <| g_u (zI rfl rfl fa96_1 rfl) <| g_u (zG rfl rfl rfl tA9 tS9 rfl rfl) <| g_u (xP rfl rfl Try.underlying9) <| g_u (vF rfl rfl rfl) <| g_u (zE rfl rfl) <| zH <| zA <| zF <| zF <| zC <| g_u (zE rfl rfl) <| zH <| zA <| za ?_
      refine yB (fun i : Nat => [(2, .ptr 1002 0), (1002, .box 96 (.imm v.av)), (1, .imm (iv (wA (n - 1 - v.text.size) (wtVs (v.list.take i))))), (5, .imm (iv (i : Int)))]) (fun i => i ≤ v.list.length) (fun i => v.list.length - i) (0) ?_ ⟨rfl, rfl, zb rfl (by rw [show wtVs (v.list.take 0) = 0 from rfl, leftF_zero hL, ze (n := n - 1) (by omega) (by omega), ze (by omega) (by omega)]), rfl, trivial⟩ ?_
      · exact Nat.zero_le _
      · rintro i h1; have h1 : i ≤ v.list.length := h1; have bd := leftF_bd hL (wtVs (v.list.take i))
        refine zF <| zF <| zC <| g_u (zB rfl rfl) <| g_u (zI rfl rfl fa96_4 rfl) <| g_u (zG rfl rfl rfl tA94 tS94 rfl rfl) <| g_u (yF rfl rfl Try.underlying94) <| g_u (y8 rfl rfl rfl) <| g_u (zB rfl rfl) <| z6 (t := 26) rfl ?_
        rintro (hb3 | hb3)
        · rw [hb3]
          have hiv : i < v.list.length := by have := of_decide_eq_true hb3; (try simp only [List.length_map] at this); omega
          refine zN rfl rfl (zB rfl rfl) <| zN rfl rfl (s_geI rfl rfl rfl) <| g_u (zi rfl rfl rfl) <| zH <| zA ?_
          refine zf rfl (fun hb4 => ?_) (fun hb4 => ?_)
          · have hs : 0 ≤ wA (n - 1 - v.text.size) (wtVs (v.list.take i)) := of_decide_eq_true hb4
            have hi9 := leftV_len hs h1
            refine zW <| zA <| zF <| za <| zC <| g_u (zI rfl rfl fa96_4 rfl) <| g_u (zG rfl rfl rfl tA94 tS94 rfl rfl) <| g_u (zB rfl rfl) ?_
            refine g_u (zK rfl rfl rfl Try.underlying94 tS96 (by omega) (ixV hiv)) ?_
            refine g_u (zO rfl rfl tA96 tS96 rfl rfl) <| g_u (zB rfl rfl) ?_
            refine g_u (zP (ih _ (nthV_mem hiv) _ ⟨bd.1, by have := bd.2; omega⟩) rfl rfl) ?_
            refine g_u (zE rfl rfl) <| zH <| zT <| zA <| zC <| g_u (zB rfl rfl) <| g_u (yh rfl rfl rfl) <| g_u (zE rfl rfl) <| zH <| zA ?_
            refine ⟨i + 1, hiv, ⟨rfl, rfl, zb rfl (leftV_step hiv hs), zb rfl (by rw [ze (by omega) (by omega)]; rfl), trivial⟩, by (try dsimp only); omega⟩
          · have hs : ¬ 0 ≤ wA (n - 1 - v.text.size) (wtVs (v.list.take i)) := of_decide_eq_false hb4
            refine yA <| zU <| zU <| zx <| zA <| zF <| zC <| g_u (zI rfl rfl fa96_5 rfl) <| g_u (zG rfl rfl rfl tA61 tS61 rfl rfl) <| g_u (zB rfl rfl) ?_
            refine g_u (zP (ihm _ ⟨bd.1, by have := bd.2; omega⟩) rfl rfl) ?_
            refine g_u (zE rfl rfl) <| zH <| zA <| zd ?_
            exact ⟨⟨(rfl : toAV (Al.look _ _) = some _).trans (congrArg some (by (exact congrArg iv (leftV_fin hn0 ht0 (by first | exact .inl hivn | exact .inr (by omega)))))), rfl⟩, trivial⟩
        · rw [hb3]
          have hivn : i = v.list.length := by have := of_decide_eq_false hb3; (try simp only [List.length_map] at this); omega
          refine zQ rfl rfl rfl <| zQ rfl rfl rfl <| g_u (z0 rfl rfl rfl) <| zH <| zA <| zc rfl <| yA <| zU <| zU <| zx <| zA <| zF <| zC <| g_u (zI rfl rfl fa96_5 rfl) <| g_u (zG rfl rfl rfl tA61 tS61 rfl rfl) <| g_u (zB rfl rfl) ?_
          refine g_u (zP (ihm _ ⟨bd.1, by have := bd.2; omega⟩) rfl rfl) ?_
          refine g_u (zE rfl rfl) <| zH <| zA <| zd ?_
          exact ⟨⟨(rfl : toAV (Al.look _ _) = some _).trans (congrArg some (by (exact congrArg iv (leftV_fin hn0 ht0 (by first | exact .inl hivn | exact .inr (by omega)))))), rfl⟩, trivial⟩
theorem leftAs_st (l : List GA) (n : Int) (hn : -1000000000000 ≤ n ∧ n ≤ 1000000000) (ih : ∀ a ∈ l, ∀ n : Int, -1 ≤ n ∧ n ≤ 1000000000 → z8 Try.prog Γ0 36 [a.val.av, iv n] [iv (leftV a.val n)]) : z8 Try.prog Γ0 24 [.sl 7 (l.map avA), iv n] [iv (zp l n)] := by
  refine zq Try.func24 rfl Try.ntmps24 (by kernel_rfl) rfl fun w0 I0 G0 => ?_
  refine zF <| zC <| g_u (zE rfl rfl) <| zH <| zA <| zF <| zF <| zC <| g_u (zE rfl rfl) <| zH <| zA <| za ?_
  refine yB (fun i : Nat => [(0, .imm (.sl 7 (l.map avA))), (1, .imm (iv (zp (l.take i) n))), (5, .imm (iv (i : Int)))]) (fun i => i ≤ l.length) (fun i => l.length - i) (0) ?_ ⟨rfl, zb rfl (leftAs_zero l).symm, rfl, trivial⟩ ?_
  · exact Nat.zero_le _
  · rintro i h1; have h1 : i ≤ l.length := h1; have bd := xF (l.take i) n
    refine zF <| zF <| zC <| g_u (zB rfl rfl) <| g_u (zB rfl rfl) <| g_u (yF rfl rfl Try.underlying61) <| g_u (y8 rfl rfl rfl) <| g_u (zB rfl rfl) <| z6 (t := 10) rfl ?_
    rintro (hb1 | hb1)
    · rw [hb1]
      have hia : i < l.length := by have := of_decide_eq_true hb1; (try simp only [List.length_map] at this); omega
      refine zN rfl rfl (zB rfl rfl) <| zN rfl rfl (s_geI rfl rfl rfl) <| g_u (zi rfl rfl rfl) <| zH <| zA ?_
      refine zf rfl (fun hb2 => ?_) (fun hb2 => ?_)
      · have hs : 0 ≤ zp (l.take i) n := of_decide_eq_true hb2
        have hi9 := leftAs_len hs h1
        refine zW <| zA <| zF <| za <| zF <| zF <| zC <| g_u (zB rfl rfl) <| g_u (zB rfl rfl) ?_
        refine g_u (zK rfl rfl rfl Try.underlying61 tS98 (by omega) (ixA hia)) ?_
        refine g_u (zJ rfl rfl fa98_0 rfl rfl) <| g_u (zO rfl rfl tA9 tS9 rfl rfl) <| g_u (xP rfl rfl Try.underlying9) <| g_u (zB rfl rfl) <| g_u (s_gtI rfl rfl rfl) <| zH <| zA ?_
        refine zf rfl (fun hb3 => ?_) (fun hb3 => ?_)
        · have hk : ((nthA l i).key.size : Int) > zp (l.take i) n := of_decide_eq_true hb3
          refine zF <| zC <| g_u (zE rfl rfl) <| zH <| zA <| zd <| zh <| yT <| zh <| zh <| yT <| zh ?_
          exact ⟨⟨(rfl : toAV (Al.look _ _) = some _).trans (congrArg some (by (exact congrArg iv (leftAs_out hia hs hk)))), rfl⟩, trivial⟩
        · have hk : ¬ ((nthA l i).key.size : Int) > zp (l.take i) n := of_decide_eq_false hb3
          have ew : IntKind.i64.wrap (zp (l.take i) n - (nthA l i).key.size) = zp (l.take i) n - (nthA l i).key.size := ze (by omega) (by omega)
          refine zW <| zA <| zs yR <| g_u (zB rfl rfl) <| g_u (zB rfl rfl) ?_
          refine g_u (zK rfl rfl rfl Try.underlying61 tS98 (by omega) (ixA hia)) ?_
          refine g_u (zJ rfl rfl fa98_1 rfl rfl) <| g_u (zO rfl rfl tA96 tS96 rfl rfl) <| g_u (zB rfl rfl) <| g_u (zB rfl rfl) <| g_u (zB rfl rfl) ?_
          refine g_u (zK rfl rfl rfl Try.underlying61 tS98 (by omega) (ixA hia)) ?_
          refine g_u (zJ rfl rfl fa98_0 rfl rfl) <| g_u (zO rfl rfl tA9 tS9 rfl rfl) <| g_u (xP rfl rfl Try.underlying9) <| g_u (vF rfl rfl rfl) ?_
          refine g_u (zP ((show z8 Try.prog Γ0 36 [(nthA l i).val.av, iv (IntKind.i64.wrap (zp (l.take i) n - (nthA l i).key.size))] [iv (leftV (nthA l i).val (zp (l.take i) n - (nthA l i).key.size))] from by rw [ew]; exact ih _ (nthA_mem hia) _ ⟨by omega, by omega⟩)) rfl rfl) ?_
          refine g_u (zE rfl rfl) ?_
          refine zH ⟨by kernel_rfl, ?_⟩
          refine zT <| zA <| zC <| g_u (zB rfl rfl) <| g_u (yh rfl rfl rfl) <| g_u (zE rfl rfl) <| zH <| zA ?_
          refine ⟨i + 1, hia, ⟨rfl, zb rfl (leftAs_step hia hs hk), zb rfl (by rw [ze (by omega) (by omega)]; rfl), trivial⟩, by (try dsimp only); omega⟩
      · have hs : ¬ 0 ≤ zp (l.take i) n := of_decide_eq_false hb2
        refine yA <| zU <| zU <| zx <| zA <| zF <| zC <| g_u (zB rfl rfl) <| g_u (zE rfl rfl) <| zH <| zA <| zd ?_
        exact ⟨⟨(rfl : toAV (Al.look _ _) = some _).trans (congrArg some (by (exact congrArg iv (leftAs_fin (by first | exact .inl hian | exact .inr (by omega)))))), rfl⟩, trivial⟩
    · rw [hb1]
      have hian : i = l.length := by have := of_decide_eq_false hb1; (try simp only [List.length_map] at this); omega
      refine zQ rfl rfl rfl <| zQ rfl rfl rfl <| g_u (z0 rfl rfl rfl) <| zH <| zA <| zc rfl <| yA <| zU <| zU <| zx <| zA <| zF <| zC <| g_u (zB rfl rfl) <| g_u (zE rfl rfl) <| zH <| zA <| zd ?_
      exact ⟨⟨(rfl : toAV (Al.look _ _) = some _).trans (congrArg some (by (exact congrArg iv (leftAs_fin (by first | exact .inl hian | exact .inr (by omega)))))), rfl⟩, trivial⟩
theorem leftV_c (v : GV) : ∀ n : Int, -1 ≤ n ∧ n ≤ 1000000000 → z8 Try.prog Γ0 36 [v.av, iv n] [iv (leftV v n)] := by
  refine GV.ind (P := fun v => ∀ n : Int, -1 ≤ n ∧ n ≤ 1000000000 → z8 Try.prog Γ0 36 [v.av, iv n] [iv (leftV v n)]) ?_ v
  intro v h1 h2 n hn
  exact leftV_st v n hn h1 fun n hn => leftAs_st v.map n (by omega) h2
theorem leftAs_c (l : List GA) (n : Int) (hn : -1000000000000 ≤ n ∧ n ≤ 1000000000) : z8 Try.prog Γ0 24 [.sl 7 (l.map avA), iv n] [iv (zp l n)] := leftAs_st l n hn fun a _ => leftV_c a.val
end Go.Proofs
namespace Go.Proofs
open Go Go.Al
set_option maxRecDepth 10000
theorem z67_w : AV.width z67 = 42 := by kernel_rfl
end Go.Proofs
namespace Go.Proofs
open Go Go.Al
set_option maxRecDepth 10000
end Go.Proofs
namespace Go.Proofs
open Go Go.Al
set_option maxRecDepth 10000
end Go.Proofs
namespace Go.Proofs
open Go Go.Al
set_option maxRecDepth 10000
end Go.Proofs
namespace Go.Proofs
open Go Go.Al
set_option maxRecDepth 10000
end Go.Proofs
namespace Go.Proofs
open Go Go.Al
set_option maxRecDepth 10000
end Go.Proofs
namespace Go.Proofs
open Go Go.Al
set_option maxRecDepth 10000
end Go.Proofs
namespace Go.Proofs
open Go Go.Al
set_option maxRecDepth 10000
end Go.Proofs
namespace Go.Proofs
open Go Go.Al
set_option maxRecDepth 10000
end Go.Proofs
namespace Go.Proofs
open Go Go.Al
set_option maxRecDepth 10000
set_option maxHeartbeats 4000000 in
theorem leftS_c (s : GSpan) (n : Int) (hn : -1000000000000 ≤ n ∧ n ≤ 1000000000) : z8 Try.prog Γ0 25 [s.av, iv n] [iv (wI s n)] := by
  refine zq Try.func25 rfl Try.ntmps25 (by kernel_rfl) rfl fun w0 I0 G0 => ?_
  refine zF <| zC <| g_uG (zV 1002 rfl rfl rfl rfl) rfl <| g_u (zE rfl rfl) <| zH <| zA <| zF <| zF <| zC <| g_u (zB rfl rfl) <| g_u (y8 rfl rfl rfl) <| g_u (zB rfl rfl) <| z6 (t := 9) rfl ?_
  rintro (hb1 | hb1)
  · rw [hb1]
    have z1 : n < 0 := of_decide_eq_true hb1
    refine zQ rfl rfl rfl <| zQ rfl rfl rfl <| zQ rfl rfl rfl <| zQ rfl rfl rfl <| zQ rfl rfl rfl <| g_u (zi rfl rfl rfl) <| g_u (zB rfl rfl) <| zQ rfl rfl rfl <| zQ rfl rfl rfl <| zQ rfl rfl rfl <| zQ rfl rfl rfl <| zQ rfl rfl rfl <| g_u (zi rfl rfl rfl) <| g_u (zB rfl rfl) <| zQ rfl rfl rfl <| zQ rfl rfl rfl <| zQ rfl rfl rfl <| zQ rfl rfl rfl <| zQ rfl rfl rfl <| zQ rfl rfl rfl <| g_u (zi rfl rfl rfl) <| zH <| zA <| yD rfl <| zF <| zC <| g_u (zE rfl rfl) <| zH <| zA <| zd <| zh ?_
    exact ⟨⟨(rfl : toAV (Al.look _ _) = some _).trans (congrArg some (by (exact congrArg iv (by unfold wI; first | (rw [if_pos (by omega)]; done) | (rw [if_neg (by omega), g4, gfin]; done) | (rw [if_neg (by omega), g4, xC hi2 (by omega) hk2]; done) | (rw [if_neg (by omega), h4, y9 hi (by omega) hk]; exact (yZ _ (by omega)).symm))))), rfl⟩, trivial⟩
  · rw [hb1]
    have z1 : ¬ n < 0 := of_decide_eq_false hb1
    refine zN rfl rfl (zI rfl rfl fa67_3 rfl) <| zN rfl rfl (zG rfl rfl rfl tA9 tS9 rfl rfl) <| zN rfl rfl (xP rfl rfl Try.underlying9) <| zN rfl rfl (zB rfl rfl) <| zN rfl rfl (s_gtI rfl rfl rfl) <| g_u (z0 rfl rfl rfl) <| g_u (zB rfl rfl) <| z6 (t := 16) rfl ?_
    rintro (hb2 | hb2)
    · rw [hb2]
      have z2 : (s.state.size : Int) > n := of_decide_eq_true hb2
      refine zQ rfl rfl rfl <| zQ rfl rfl rfl <| zQ rfl rfl rfl <| zQ rfl rfl rfl <| zQ rfl rfl rfl <| g_u (zi rfl rfl rfl) <| g_u (zB rfl rfl) <| zQ rfl rfl rfl <| zQ rfl rfl rfl <| zQ rfl rfl rfl <| zQ rfl rfl rfl <| zQ rfl rfl rfl <| zQ rfl rfl rfl <| g_u (zi rfl rfl rfl) <| zH <| zA <| yD rfl <| zF <| zC <| g_u (zE rfl rfl) <| zH <| zA <| zd <| zh ?_
      exact ⟨⟨(rfl : toAV (Al.look _ _) = some _).trans (congrArg some (by (exact congrArg iv (by unfold wI; first | (rw [if_pos (by omega)]; done) | (rw [if_neg (by omega), g4, gfin]; done) | (rw [if_neg (by omega), g4, xC hi2 (by omega) hk2]; done) | (rw [if_neg (by omega), h4, y9 hi (by omega) hk]; exact (yZ _ (by omega)).symm))))), rfl⟩, trivial⟩
    · rw [hb2]
      have z2 : ¬ (s.state.size : Int) > n := of_decide_eq_false hb2
      refine zN rfl rfl (zI rfl rfl fa67_4 rfl) <| zN rfl rfl (zG rfl rfl rfl tA9 tS9 rfl rfl) <| zN rfl rfl (xP rfl rfl Try.underlying9) <| zN rfl rfl (zB rfl rfl) <| zN rfl rfl (s_gtI rfl rfl rfl) <| g_u (z0 rfl rfl rfl) <| g_u (zB rfl rfl) <| z6 (t := 23) rfl ?_
      rintro (hb3 | hb3)
      · rw [hb3]
        have z3 : (s.name.size : Int) > n := of_decide_eq_true hb3
        refine zQ rfl rfl rfl <| zQ rfl rfl rfl <| zQ rfl rfl rfl <| zQ rfl rfl rfl <| zQ rfl rfl rfl <| zQ rfl rfl rfl <| g_u (zi rfl rfl rfl) <| zH <| zA <| yD rfl <| zF <| zC <| g_u (zE rfl rfl) <| zH <| zA <| zd <| zh ?_
        exact ⟨⟨(rfl : toAV (Al.look _ _) = some _).trans (congrArg some (by (exact congrArg iv (by unfold wI; first | (rw [if_pos (by omega)]; done) | (rw [if_neg (by omega), g4, gfin]; done) | (rw [if_neg (by omega), g4, xC hi2 (by omega) hk2]; done) | (rw [if_neg (by omega), h4, y9 hi (by omega) hk]; exact (yZ _ (by omega)).symm))))), rfl⟩, trivial⟩
      · rw [hb3]
        have z3 : ¬ (s.name.size : Int) > n := of_decide_eq_false hb3
        refine zN rfl rfl (zI rfl rfl fa67_11 rfl) <| zN rfl rfl (zI rfl rfl fa65_1 rfl) <| zN rfl rfl (zG rfl rfl rfl tA9 tS9 rfl rfl) <| zN rfl rfl (xP rfl rfl Try.underlying9) <| zN rfl rfl (zB rfl rfl) <| zN rfl rfl (s_gtI rfl rfl rfl) <| g_u (z0 rfl rfl rfl) <| zH <| zA ?_
        refine zf rfl (fun hb4 => ?_) (fun hb4 => ?_)
        · have z4 : (s.note.size : Int) > n := of_decide_eq_true hb4
          refine zF <| zC <| g_u (zE rfl rfl) <| zH <| zA <| zd <| zh ?_
          exact ⟨⟨(rfl : toAV (Al.look _ _) = some _).trans (congrArg some (by (exact congrArg iv (by unfold wI; first | (rw [if_pos (by omega)]; done) | (rw [if_neg (by omega), g4, gfin]; done) | (rw [if_neg (by omega), g4, xC hi2 (by omega) hk2]; done) | (rw [if_neg (by omega), h4, y9 hi (by omega) hk]; exact (yZ _ (by omega)).symm))))), rfl⟩, trivial⟩
        · have z4 : ¬ (s.note.size : Int) > n := of_decide_eq_false hb4
          have bm := xF s.attrs (n - 1 - s.state.size - s.name.size - s.note.size)
          have ew : zp s.attrs (IntKind.i64.wrap (IntKind.i64.wrap (IntKind.i64.wrap (IntKind.i64.wrap (n - 1) - s.state.size) - s.name.size) - s.note.size)) = zp s.attrs (n - 1 - s.state.size - s.name.size - s.note.size) := by rw [ze (n := n - 1) (by omega) (by omega), ze (n := n - 1 - s.state.size) (by omega) (by omega), ze (n := n - 1 - s.state.size - s.name.size) (by omega) (by omega), ze (by omega) (by omega)]
          refine zW <| zA <| zF <| zC <| g_u (zI rfl rfl fa67_8 rfl) <| g_u (zG rfl rfl rfl tA61 tS61 rfl rfl) <| g_u (zB rfl rfl) <| g_u (vF rfl rfl rfl) <| g_u (zI rfl rfl fa67_3 rfl) <| g_u (zG rfl rfl rfl tA9 tS9 rfl rfl) <| g_u (xP rfl rfl Try.underlying9) <| g_u (vF rfl rfl rfl) <| g_u (zI rfl rfl fa67_4 rfl) <| g_u (zG rfl rfl rfl tA9 tS9 rfl rfl) <| g_u (xP rfl rfl Try.underlying9) <| g_u (vF rfl rfl rfl) <| g_u (zI rfl rfl fa67_11 rfl) <| g_u (zI rfl rfl fa65_1 rfl) <| g_u (zG rfl rfl rfl tA9 tS9 rfl rfl) <| g_u (xP rfl rfl Try.underlying9) <| g_u (vF rfl rfl rfl) ?_
          refine g_u (zP (leftAs_c _ _ ⟨by ((try simp only [qa, qb, qc, ne_eq, beq_iff_eq, qd, qe, Bool.not_eq_true', Bool.not_eq_false', gt_iff_lt, ge_iff_le] at *); (repeat simp (disch := omega) only [ze, xJ] at *)); omega, by ((try simp only [qa, qb, qc, ne_eq, beq_iff_eq, qd, qe, Bool.not_eq_true', Bool.not_eq_false', gt_iff_lt, ge_iff_le] at *); (repeat simp (disch := omega) only [ze, xJ] at *)); omega⟩) rfl rfl) ?_
          refine g_u (zE rfl rfl) <| zH <| zA <| zF <| zF <| zC <| g_u (zE rfl rfl) <| zH <| zA <| za ?_
          refine yB (fun j : Nat × Int => [(2, .ptr 1002 0), (1002, .box 67 (.imm s.av)), (1, .imm (iv j.2)), (5, .imm (iv (j.1 : Int)))]) (fun j => j.1 ≤ s.events.length ∧ (-1000000000000 ≤ j.2 ∧ j.2 ≤ 1000000000) ∧ ((j.1 : Int) ≤ zp s.attrs (n - 1 - s.state.size - s.name.size - s.note.size) - j.2) ∧ wE s.events (zp s.attrs (n - 1 - s.state.size - s.name.size - s.note.size)) = wE (s.events.drop j.1) j.2) (fun j => s.events.length - j.1) (⟨0, zp s.attrs (n - 1 - s.state.size - s.name.size - s.note.size)⟩) ?_ ⟨rfl, rfl, zb rfl (by rw [ew]), rfl, trivial⟩ ?_
          · exact ⟨Nat.zero_le _, ⟨by have := bm.2.1; omega, by omega⟩, by simp, rfl⟩
          · rintro ⟨i, m⟩ ⟨h1, h2, h3, h4⟩; dsimp only at h1 h2 h3 h4
            refine zF <| zF <| zC <| g_u (zB rfl rfl) <| g_u (zI rfl rfl fa67_9 rfl) <| g_u (zG rfl rfl rfl tA62 tS62 rfl rfl) <| g_u (yF rfl rfl Try.underlying62) <| g_u (y8 rfl rfl rfl) <| g_u (zB rfl rfl) <| z6 (t := 54) rfl ?_
            rintro (hb5 | hb5)
            · rw [hb5]
              have hi : i < s.events.length := by have := of_decide_eq_true hb5; (try simp only [List.length_map] at this); omega
              refine zN rfl rfl (zB rfl rfl) <| zN rfl rfl (s_geI rfl rfl rfl) <| g_u (zi rfl rfl rfl) <| zH <| zA ?_
              refine zf rfl (fun hb6 => ?_) (fun hb6 => ?_)
              · have hs : ¬ m < 0 := by have := of_decide_eq_true hb6; omega
                refine zW <| zA <| zF <| za <| zF <| zF <| zC <| g_u (zI rfl rfl fa67_9 rfl) <| g_u (zG rfl rfl rfl tA62 tS62 rfl rfl) <| g_u (zB rfl rfl) ?_
                refine g_u (zK rfl rfl rfl Try.underlying62 tS101 (by omega) (ixE hi)) ?_
                refine g_u (zJ rfl rfl fa101_1 rfl rfl) <| g_u (zO rfl rfl tA9 tS9 rfl rfl) <| g_u (xP rfl rfl Try.underlying9) <| g_u (zB rfl rfl) <| g_u (s_gtI rfl rfl rfl) <| zH <| zA ?_
                refine zf rfl (fun hb7 => ?_) (fun hb7 => ?_)
                · have hk : ((nthE s.events i).name.size : Int) > m := of_decide_eq_true hb7
                  refine zF <| zC <| g_u (zE rfl rfl) <| zH <| zA <| zd <| zh <| yT <| zh <| zh <| yT <| zh ?_
                  exact ⟨⟨(rfl : toAV (Al.look _ _) = some _).trans (congrArg some (by (exact congrArg iv (by unfold wI; first | (rw [if_pos (by omega)]; done) | (rw [if_neg (by omega), g4, gfin]; done) | (rw [if_neg (by omega), g4, xC hi2 (by omega) hk2]; done) | (rw [if_neg (by omega), h4, y9 hi (by omega) hk]; exact (yZ _ (by omega)).symm))))), rfl⟩, trivial⟩
                · have hk : ¬ ((nthE s.events i).name.size : Int) > m := of_decide_eq_false hb7
                  refine zW <| zA <| zs yR <| g_u (zI rfl rfl fa67_9 rfl) <| g_u (zG rfl rfl rfl tA62 tS62 rfl rfl) <| g_u (zB rfl rfl) ?_
                  refine g_u (zK rfl rfl rfl Try.underlying62 tS101 (by omega) (ixE hi)) ?_
                  refine g_u (zJ rfl rfl fa101_2 rfl rfl) <| g_u (zO rfl rfl tA61 tS61 rfl rfl) <| g_u (zB rfl rfl) <| g_u (vF rfl rfl rfl) <| g_u (zI rfl rfl fa67_9 rfl) <| g_u (zG rfl rfl rfl tA62 tS62 rfl rfl) <| g_u (zB rfl rfl) ?_
                  refine g_u (zK rfl rfl rfl Try.underlying62 tS101 (by omega) (ixE hi)) ?_
                  refine g_u (zJ rfl rfl fa101_1 rfl rfl) <| g_u (zO rfl rfl tA9 tS9 rfl rfl) <| g_u (xP rfl rfl Try.underlying9) <| g_u (vF rfl rfl rfl) ?_
                  refine g_u (zP (leftAs_c _ _ ⟨by ((try simp only [qa, qb, qc, ne_eq, beq_iff_eq, qd, qe, Bool.not_eq_true', Bool.not_eq_false', gt_iff_lt, ge_iff_le] at *); (repeat simp (disch := omega) only [ze, xJ] at *)); omega, by ((try simp only [qa, qb, qc, ne_eq, beq_iff_eq, qd, qe, Bool.not_eq_true', Bool.not_eq_false', gt_iff_lt, ge_iff_le] at *); (repeat simp (disch := omega) only [ze, xJ] at *)); omega⟩) rfl rfl) ?_
                  refine g_u (zE rfl rfl) ?_
                  refine zH ⟨by kernel_rfl, ?_⟩
                  refine zT <| zA <| zC <| g_u (zB rfl rfl) <| g_u (yh rfl rfl rfl) <| g_u (zE rfl rfl) <| zH <| zA ?_
                  have ed := leftE_drop (m := m) hi (by omega) hk
                  have bl := xF (nthE s.events i).attrs (m - 1 - (nthE s.events i).name.size)
                  refine ⟨⟨i + 1, zp (nthE s.events i).attrs (m - 1 - (nthE s.events i).name.size)⟩, ⟨hi, ⟨by dsimp only; omega, by dsimp only; omega⟩, by dsimp only; omega, by dsimp only; rw [h4, ed]⟩, ⟨rfl, rfl, zb rfl (by dsimp only; rw [ze (n := m - 1) (by omega) (by omega), ze (by omega) (by omega)]), zb rfl (by rw [ze (by omega) (by omega)]; rfl), trivial⟩, by dsimp only; omega⟩
              · have hs : m < 0 := by have := of_decide_eq_false hb6; omega
                have hm : wE s.events (zp s.attrs (n - 1 - s.state.size - s.name.size - s.note.size)) = m := by rw [h4]; exact leftE_neg _ hs
                refine yA <| zU <| zU <| zx <| zA <| zF <| zF <| zC <| g_u (zE rfl rfl) <| zH <| zA <| za ?_
                refine yB (fun j : Nat × Int => [(2, .ptr 1002 0), (1002, .box 67 (.imm s.av)), (1, .imm (iv j.2)), (6, .imm (iv (j.1 : Int)))]) (fun j => j.1 ≤ s.links.length ∧ (-1000000000000 ≤ j.2 ∧ j.2 ≤ 1000000000) ∧ ((j.1 : Int) ≤ wE s.events (zp s.attrs (n - 1 - s.state.size - s.name.size - s.note.size)) - j.2) ∧ wD s.links (wE s.events (zp s.attrs (n - 1 - s.state.size - s.name.size - s.note.size))) = wD (s.links.drop j.1) j.2) (fun j => s.links.length - j.1) (⟨0, m⟩) ?_ ⟨rfl, rfl, rfl, rfl, trivial⟩ ?_
                · exact ⟨Nat.zero_le _, h2, by rw [hm]; simp, by rw [hm]; rfl⟩
                · rintro ⟨i2, m2⟩ ⟨g1, g2, g3, g4⟩; dsimp only at g1 g2 g3 g4
                  refine zF <| zF <| zC <| g_u (zB rfl rfl) <| g_u (zI rfl rfl fa67_10 rfl) <| g_u (zG rfl rfl rfl tA63 tS63 rfl rfl) <| g_u (yF rfl rfl Try.underlying63) <| g_u (y8 rfl rfl rfl) <| g_u (zB rfl rfl) <| z6 (t := 91) rfl ?_
                  rintro (hb8 | hb8)
                  · rw [hb8]
                    have hi2 : i2 < s.links.length := by have := of_decide_eq_true hb8; (try simp only [List.length_map] at this); omega
                    refine zN rfl rfl (zB rfl rfl) <| zN rfl rfl (s_geI rfl rfl rfl) <| g_u (zi rfl rfl rfl) <| zH <| zA ?_
                    refine zf rfl (fun hb9 => ?_) (fun hb9 => ?_)
                    · have hs2 : ¬ m2 < 0 := by have := of_decide_eq_true hb9; omega
                      refine zW <| zA <| zF <| za <| zF <| zF <| zC <| g_u (zI rfl rfl fa67_10 rfl) <| g_u (zG rfl rfl rfl tA63 tS63 rfl rfl) <| g_u (zB rfl rfl) ?_
                      refine g_u (zK rfl rfl rfl Try.underlying63 tS103 (by omega) (ixL hi2)) ?_
                      refine g_u (zJ rfl rfl fa103_2 rfl rfl) <| g_u (zO rfl rfl tA9 tS9 rfl rfl) <| g_u (xP rfl rfl Try.underlying9) <| g_u (zB rfl rfl) <| g_u (s_gtI rfl rfl rfl) <| zH <| zA ?_
                      refine zf rfl (fun hb10 => ?_) (fun hb10 => ?_)
                      · have hk2 : ((nthL s.links i2).state.size : Int) > m2 := of_decide_eq_true hb10
                        refine zF <| zC <| g_u (zE rfl rfl) <| zH <| zA <| zd <| zh <| yT <| zh <| zh <| yT <| zh ?_
                        exact ⟨⟨(rfl : toAV (Al.look _ _) = some _).trans (congrArg some (by (exact congrArg iv (by unfold wI; first | (rw [if_pos (by omega)]; done) | (rw [if_neg (by omega), g4, gfin]; done) | (rw [if_neg (by omega), g4, xC hi2 (by omega) hk2]; done) | (rw [if_neg (by omega), h4, y9 hi (by omega) hk]; exact (yZ _ (by omega)).symm))))), rfl⟩, trivial⟩
                      · have hk2 : ¬ ((nthL s.links i2).state.size : Int) > m2 := of_decide_eq_false hb10
                        refine zW <| zA <| zs yR <| g_u (zI rfl rfl fa67_10 rfl) <| g_u (zG rfl rfl rfl tA63 tS63 rfl rfl) <| g_u (zB rfl rfl) ?_
                        refine g_u (zK rfl rfl rfl Try.underlying63 tS103 (by omega) (ixL hi2)) ?_
                        refine g_u (zJ rfl rfl fa103_3 rfl rfl) <| g_u (zO rfl rfl tA61 tS61 rfl rfl) <| g_u (zB rfl rfl) <| g_u (vF rfl rfl rfl) <| g_u (zI rfl rfl fa67_10 rfl) <| g_u (zG rfl rfl rfl tA63 tS63 rfl rfl) <| g_u (zB rfl rfl) ?_
                        refine g_u (zK rfl rfl rfl Try.underlying63 tS103 (by omega) (ixL hi2)) ?_
                        refine g_u (zJ rfl rfl fa103_2 rfl rfl) <| g_u (zO rfl rfl tA9 tS9 rfl rfl) <| g_u (xP rfl rfl Try.underlying9) <| g_u (vF rfl rfl rfl) ?_
                        refine g_u (zP (leftAs_c _ _ ⟨by ((try simp only [qa, qb, qc, ne_eq, beq_iff_eq, qd, qe, Bool.not_eq_true', Bool.not_eq_false', gt_iff_lt, ge_iff_le] at *); (repeat simp (disch := omega) only [ze, xJ] at *)); omega, by ((try simp only [qa, qb, qc, ne_eq, beq_iff_eq, qd, qe, Bool.not_eq_true', Bool.not_eq_false', gt_iff_lt, ge_iff_le] at *); (repeat simp (disch := omega) only [ze, xJ] at *)); omega⟩) rfl rfl) ?_
                        refine g_u (zE rfl rfl) ?_
                        refine zH ⟨by kernel_rfl, ?_⟩
                        refine zT <| zA <| zC <| g_u (zB rfl rfl) <| g_u (yh rfl rfl rfl) <| g_u (zE rfl rfl) <| zH <| zA ?_
                        have ed := leftL_drop (m := m2) hi2 (by omega) hk2
                        have bl := xF (nthL s.links i2).attrs (m2 - 1 - (nthL s.links i2).state.size)
                        refine ⟨⟨i2 + 1, zp (nthL s.links i2).attrs (m2 - 1 - (nthL s.links i2).state.size)⟩, ⟨hi2, ⟨by dsimp only; omega, by dsimp only; omega⟩, by dsimp only; omega, by dsimp only; rw [g4, ed]⟩, ⟨rfl, rfl, zb rfl (by dsimp only; rw [ze (n := m2 - 1) (by omega) (by omega), ze (by omega) (by omega)]), zb rfl (by rw [ze (by omega) (by omega)]; rfl), trivial⟩, by dsimp only; omega⟩
                    · have hs2 : m2 < 0 := by have := of_decide_eq_false hb9; omega
                      have gfin : wD (s.links.drop i2) m2 = m2 := yZ _ hs2
                      refine yA <| zU <| zU <| zx <| zA <| zF <| zC <| g_u (zB rfl rfl) <| g_u (zE rfl rfl) <| zH <| zA <| zd ?_
                      exact ⟨⟨(rfl : toAV (Al.look _ _) = some _).trans (congrArg some (by (exact congrArg iv (by unfold wI; first | (rw [if_pos (by omega)]; done) | (rw [if_neg (by omega), g4, gfin]; done) | (rw [if_neg (by omega), g4, xC hi2 (by omega) hk2]; done) | (rw [if_neg (by omega), h4, y9 hi (by omega) hk]; exact (yZ _ (by omega)).symm))))), rfl⟩, trivial⟩
                  · rw [hb8]
                    have hin2 : i2 = s.links.length := by have := of_decide_eq_false hb8; (try simp only [List.length_map] at this); omega
                    have gfin : wD (s.links.drop i2) m2 = m2 := by rw [hin2, List.drop_length]; rfl
                    refine zQ rfl rfl rfl <| zQ rfl rfl rfl <| g_u (z0 rfl rfl rfl) <| zH <| zA <| zc rfl <| yA <| zU <| zU <| zx <| zA <| zF <| zC <| g_u (zB rfl rfl) <| g_u (zE rfl rfl) <| zH <| zA <| zd ?_
                    exact ⟨⟨(rfl : toAV (Al.look _ _) = some _).trans (congrArg some (by (exact congrArg iv (by unfold wI; first | (rw [if_pos (by omega)]; done) | (rw [if_neg (by omega), g4, gfin]; done) | (rw [if_neg (by omega), g4, xC hi2 (by omega) hk2]; done) | (rw [if_neg (by omega), h4, y9 hi (by omega) hk]; exact (yZ _ (by omega)).symm))))), rfl⟩, trivial⟩
            · rw [hb5]
              have hin : i = s.events.length := by have := of_decide_eq_false hb5; (try simp only [List.length_map] at this); omega
              have hm : wE s.events (zp s.attrs (n - 1 - s.state.size - s.name.size - s.note.size)) = m := by rw [h4, hin, List.drop_length]; rfl
              refine zQ rfl rfl rfl <| zQ rfl rfl rfl <| g_u (z0 rfl rfl rfl) <| zH <| zA <| zc rfl <| yA <| zU <| zU <| zx <| zA <| zF <| zF <| zC <| g_u (zE rfl rfl) <| zH <| zA <| za ?_
              refine yB (fun j : Nat × Int => [(2, .ptr 1002 0), (1002, .box 67 (.imm s.av)), (1, .imm (iv j.2)), (6, .imm (iv (j.1 : Int)))]) (fun j => j.1 ≤ s.links.length ∧ (-1000000000000 ≤ j.2 ∧ j.2 ≤ 1000000000) ∧ ((j.1 : Int) ≤ wE s.events (zp s.attrs (n - 1 - s.state.size - s.name.size - s.note.size)) - j.2) ∧ wD s.links (wE s.events (zp s.attrs (n - 1 - s.state.size - s.name.size - s.note.size))) = wD (s.links.drop j.1) j.2) (fun j => s.links.length - j.1) (⟨0, m⟩) ?_ ⟨rfl, rfl, rfl, rfl, trivial⟩ ?_
              · exact ⟨Nat.zero_le _, h2, by rw [hm]; simp, by rw [hm]; rfl⟩
              · rintro ⟨i2, m2⟩ ⟨g1, g2, g3, g4⟩; dsimp only at g1 g2 g3 g4
                refine zF <| zF <| zC <| g_u (zB rfl rfl) <| g_u (zI rfl rfl fa67_10 rfl) <| g_u (zG rfl rfl rfl tA63 tS63 rfl rfl) <| g_u (yF rfl rfl Try.underlying63) <| g_u (y8 rfl rfl rfl) <| g_u (zB rfl rfl) <| z6 (t := 91) rfl ?_
                rintro (hb11 | hb11)
                · rw [hb11]
                  have hi2 : i2 < s.links.length := by have := of_decide_eq_true hb11; (try simp only [List.length_map] at this); omega
                  refine zN rfl rfl (zB rfl rfl) <| zN rfl rfl (s_geI rfl rfl rfl) <| g_u (zi rfl rfl rfl) <| zH <| zA ?_
                  refine zf rfl (fun hb12 => ?_) (fun hb12 => ?_)
                  · have hs2 : ¬ m2 < 0 := by have := of_decide_eq_true hb12; omega
                    refine zW <| zA <| zF <| za <| zF <| zF <| zC <| g_u (zI rfl rfl fa67_10 rfl) <| g_u (zG rfl rfl rfl tA63 tS63 rfl rfl) <| g_u (zB rfl rfl) ?_
                    refine g_u (zK rfl rfl rfl Try.underlying63 tS103 (by omega) (ixL hi2)) ?_
                    refine g_u (zJ rfl rfl fa103_2 rfl rfl) <| g_u (zO rfl rfl tA9 tS9 rfl rfl) <| g_u (xP rfl rfl Try.underlying9) <| g_u (zB rfl rfl) <| g_u (s_gtI rfl rfl rfl) <| zH <| zA ?_
                    refine zf rfl (fun hb13 => ?_) (fun hb13 => ?_)
                    · have hk2 : ((nthL s.links i2).state.size : Int) > m2 := of_decide_eq_true hb13
                      refine zF <| zC <| g_u (zE rfl rfl) <| zH <| zA <| zd <| zh <| yT <| zh <| zh <| yT <| zh ?_
                      exact ⟨⟨(rfl : toAV (Al.look _ _) = some _).trans (congrArg some (by (exact congrArg iv (by unfold wI; first | (rw [if_pos (by omega)]; done) | (rw [if_neg (by omega), g4, gfin]; done) | (rw [if_neg (by omega), g4, xC hi2 (by omega) hk2]; done) | (rw [if_neg (by omega), h4, y9 hi (by omega) hk]; exact (yZ _ (by omega)).symm))))), rfl⟩, trivial⟩
                    · have hk2 : ¬ ((nthL s.links i2).state.size : Int) > m2 := of_decide_eq_false hb13
                      refine zW <| zA <| zs yR <| g_u (zI rfl rfl fa67_10 rfl) <| g_u (zG rfl rfl rfl tA63 tS63 rfl rfl) <| g_u (zB rfl rfl) ?_
                      refine g_u (zK rfl rfl rfl Try.underlying63 tS103 (by omega) (ixL hi2)) ?_
                      refine g_u (zJ rfl rfl fa103_3 rfl rfl) <| g_u (zO rfl rfl tA61 tS61 rfl rfl) <| g_u (zB rfl rfl) <| g_u (vF rfl rfl rfl) <| g_u (zI rfl rfl fa67_10 rfl) <| g_u (zG rfl rfl rfl tA63 tS63 rfl rfl) <| g_u (zB rfl rfl) ?_
                      refine g_u (zK rfl rfl rfl Try.underlying63 tS103 (by omega) (ixL hi2)) ?_
                      refine g_u (zJ rfl rfl fa103_2 rfl rfl) <| g_u (zO rfl rfl tA9 tS9 rfl rfl) <| g_u (xP rfl rfl Try.underlying9) <| g_u (vF rfl rfl rfl) ?_
                      refine g_u (zP (leftAs_c _ _ ⟨by ((try simp only [qa, qb, qc, ne_eq, beq_iff_eq, qd, qe, Bool.not_eq_true', Bool.not_eq_false', gt_iff_lt, ge_iff_le] at *); (repeat simp (disch := omega) only [ze, xJ] at *)); omega, by ((try simp only [qa, qb, qc, ne_eq, beq_iff_eq, qd, qe, Bool.not_eq_true', Bool.not_eq_false', gt_iff_lt, ge_iff_le] at *); (repeat simp (disch := omega) only [ze, xJ] at *)); omega⟩) rfl rfl) ?_
                      refine g_u (zE rfl rfl) ?_
                      refine zH ⟨by kernel_rfl, ?_⟩
                      refine zT <| zA <| zC <| g_u (zB rfl rfl) <| g_u (yh rfl rfl rfl) <| g_u (zE rfl rfl) <| zH <| zA ?_
                      have ed := leftL_drop (m := m2) hi2 (by omega) hk2
                      have bl := xF (nthL s.links i2).attrs (m2 - 1 - (nthL s.links i2).state.size)
                      refine ⟨⟨i2 + 1, zp (nthL s.links i2).attrs (m2 - 1 - (nthL s.links i2).state.size)⟩, ⟨hi2, ⟨by dsimp only; omega, by dsimp only; omega⟩, by dsimp only; omega, by dsimp only; rw [g4, ed]⟩, ⟨rfl, rfl, zb rfl (by dsimp only; rw [ze (n := m2 - 1) (by omega) (by omega), ze (by omega) (by omega)]), zb rfl (by rw [ze (by omega) (by omega)]; rfl), trivial⟩, by dsimp only; omega⟩
                  · have hs2 : m2 < 0 := by have := of_decide_eq_false hb12; omega
                    have gfin : wD (s.links.drop i2) m2 = m2 := yZ _ hs2
                    refine yA <| zU <| zU <| zx <| zA <| zF <| zC <| g_u (zB rfl rfl) <| g_u (zE rfl rfl) <| zH <| zA <| zd ?_
                    exact ⟨⟨(rfl : toAV (Al.look _ _) = some _).trans (congrArg some (by (exact congrArg iv (by unfold wI; first | (rw [if_pos (by omega)]; done) | (rw [if_neg (by omega), g4, gfin]; done) | (rw [if_neg (by omega), g4, xC hi2 (by omega) hk2]; done) | (rw [if_neg (by omega), h4, y9 hi (by omega) hk]; exact (yZ _ (by omega)).symm))))), rfl⟩, trivial⟩
                · rw [hb11]
                  have hin2 : i2 = s.links.length := by have := of_decide_eq_false hb11; (try simp only [List.length_map] at this); omega
                  have gfin : wD (s.links.drop i2) m2 = m2 := by rw [hin2, List.drop_length]; rfl
                  refine zQ rfl rfl rfl <| zQ rfl rfl rfl <| g_u (z0 rfl rfl rfl) <| zH <| zA <| zc rfl <| yA <| zU <| zU <| zx <| zA <| zF <| zC <| g_u (zB rfl rfl) <| g_u (zE rfl rfl) <| zH <| zA <| zd ?_
                  exact ⟨⟨(rfl : toAV (Al.look _ _) = some _).trans (congrArg some (by (exact congrArg iv (by unfold wI; first | (rw [if_pos (by omega)]; done) | (rw [if_neg (by omega), g4, gfin]; done) | (rw [if_neg (by omega), g4, xC hi2 (by omega) hk2]; done) | (rw [if_neg (by omega), h4, y9 hi (by omega) hk]; exact (yZ _ (by omega)).symm))))), rfl⟩, trivial⟩
end Go.Proofs
namespace Go.Proofs
open Go Go.Al
theorem leftE_bd : ∀ (es : List GE) (m : Int), wE es m ≤ m ∧ (0 ≤ m → -1 ≤ wE es m)
  | [], m => ⟨Int.le_refl _, fun h => by simp only [wE]; omega⟩
  | e :: es, m => by
    rw [wE]
    split
    · exact ⟨Int.le_refl _, fun h => by omega⟩
    split
    · exact ⟨by omega, fun h => by omega⟩
    rename_i h1 h2
    have b := xF e.attrs (m - 1 - e.name.size)
    have c := leftE_bd es (zp e.attrs (m - 1 - e.name.size))
    refine ⟨by omega, fun h => ?_⟩
    rcases Int.lt_or_le (zp e.attrs (m - 1 - e.name.size)) 0 with h3 | h3
    · rw [leftE_neg _ h3]; omega
    · exact c.2 h3
theorem leftL_bd : ∀ (es : List GL) (m : Int), wD es m ≤ m ∧ (0 ≤ m → -1 ≤ wD es m)
  | [], m => ⟨Int.le_refl _, fun h => by simp only [wD]; omega⟩
  | e :: es, m => by
    rw [wD]
    split
    · exact ⟨Int.le_refl _, fun h => by omega⟩
    split
    · exact ⟨by omega, fun h => by omega⟩
    rename_i h1 h2
    have b := xF e.attrs (m - 1 - e.state.size)
    have c := leftL_bd es (zp e.attrs (m - 1 - e.state.size))
    refine ⟨by omega, fun h => ?_⟩
    rcases Int.lt_or_le (zp e.attrs (m - 1 - e.state.size)) 0 with h3 | h3
    · rw [yZ _ h3]; omega
    · exact c.2 h3
theorem leftS_bd (s : GSpan) {n : Int} (h : 0 ≤ n) : wI s n ≤ n - 1 ∧ -(2 * n) - 1 ≤ wI s n := by
  unfold wI
  split
  · omega
  rename_i h1
  have a := xF s.attrs (n - 1 - s.state.size - s.name.size - s.note.size)
  generalize zp s.attrs (n - 1 - s.state.size - s.name.size - s.note.size) = m at a ⊢
  have b := leftE_bd s.events m
  have b2 := fun h => leftE_neg s.events (m := m) h
  generalize wE s.events m = p at b b2 ⊢
  have c := leftL_bd s.links p
  have c2 := fun h => yZ s.links (m := p) h
  generalize wD s.links p = q at c c2 ⊢
  omega
theorem leftSp_bd : ∀ (es : List GSpan) (m : Int), xI es m ≤ m ∧ (0 ≤ m → -(2 * m) - 1 ≤ xI es m)
  | [], m => ⟨Int.le_refl _, fun h => by simp only [xI]; omega⟩
  | e :: es, m => by
    rw [xI]
    split
    · exact ⟨Int.le_refl _, fun h => by omega⟩
    rename_i h1
    have b := leftS_bd e (n := m) (by omega)
    have c := leftSp_bd es (wI e m)
    have d := fun h => leftSp_neg es (m := wI e m) h
    generalize xI es (wI e m) = q at *
    omega
theorem leftC_bd : ∀ (es : List GScope) (m : Int), wT es m ≤ m ∧ (0 ≤ m → -(2 * m) - 1 ≤ wT es m)
  | [], m => ⟨Int.le_refl _, fun h => by simp only [wT]; omega⟩
  | e :: es, m => by
    rw [wT]
    split
    · exact ⟨Int.le_refl _, fun h => by omega⟩
    split
    · exact ⟨by omega, fun h => by omega⟩
    rename_i h1 h2
    have b := leftSp_bd e.spans (m - 1 - e.name.size - e.version.size)
    have b2 := fun h => leftSp_neg e.spans (m := m - 1 - e.name.size - e.version.size) h
    generalize xI e.spans (m - 1 - e.name.size - e.version.size) = p at *
    have c := leftC_bd es p
    have d := fun h => leftC_neg es (m := p) h
    generalize wT es p = q at *
    omega
theorem leftR_le {b : List GRes} {n : Int} (h : ¬ wJ b n < 0) : (wtB b : Int) ≤ n := by have := leftR_wt b (m := n) (by omega); omega
end Go.Proofs
namespace Go.Proofs
open Go Go.Al
set_option maxRecDepth 10000
set_option maxHeartbeats 4000000 in
theorem leftR_c (b : List GRes) (n : Int) (hn : -1000000000000 ≤ n ∧ n ≤ 1000000000) : z8 Try.prog Γ0 6 [z9 b, iv n] [iv (wJ b n)] := by
  refine zq Try.func6 rfl Try.ntmps6 (by kernel_rfl) rfl fun w0 I0 G0 => ?_
  refine zF <| zC <| g_uG (zV 1002 rfl rfl rfl rfl) rfl <| g_u (zE rfl rfl) <| zH <| zA <| zF <| zF <| zC <| g_u (zE rfl rfl) <| zH <| zA <| za ?_
  refine yB (fun j : Nat × Int => [(2, .ptr 1002 0), (1002, .box 24 (.imm (z9 b))), (1, .imm (iv j.2)), (5, .imm (iv (j.1 : Int)))]) (fun j => j.1 ≤ b.length ∧ (-1000000000000 ≤ j.2 ∧ j.2 ≤ 1000000000) ∧ ((j.1 : Int) ≤ n - j.2) ∧ wJ b n = wJ (b.drop j.1) j.2) (fun j => b.length - j.1) (⟨0, n⟩) ?_ ⟨rfl, rfl, rfl, rfl, trivial⟩ ?_
  · exact ⟨Nat.zero_le _, hn, by dsimp only; omega, rfl⟩
  · rintro ⟨i, m⟩ ⟨h1, h2, h3, h4⟩; dsimp only at h1 h2 h3 h4
    refine zF <| zF <| zC <| g_u (zB rfl rfl) <| g_u (zI rfl rfl fa24_0 rfl) <| g_u (zG rfl rfl rfl tA22 tS22 rfl rfl) <| g_u (yF rfl rfl Try.underlying22) <| g_u (y8 rfl rfl rfl) <| g_u (zB rfl rfl) <| z6 (t := 14) rfl ?_
    rintro (hb1 | hb1)
    · rw [hb1]
      have hi : i < b.length := by have := of_decide_eq_true hb1; (try simp only [List.length_map] at this); omega
      refine zN rfl rfl (zB rfl rfl) <| zN rfl rfl (s_geI rfl rfl rfl) <| g_u (zi rfl rfl rfl) <| zH <| zA ?_
      refine zf rfl (fun hb2 => ?_) (fun hb2 => ?_)
      · have hs : m ≥ 0 := of_decide_eq_true hb2
        have b1 := xF (nthR b i).attrs (m - 1)
        refine zW <| zA <| zF <| za <| zF <| zC <| g_u (zI rfl rfl fa24_0 rfl) <| g_u (zG rfl rfl rfl tA22 tS22 rfl rfl) <| g_u (zB rfl rfl) ?_
        refine g_u (zK rfl rfl rfl Try.underlying22 tS71 (by omega) (ixR hi)) ?_
        refine g_u (zO rfl rfl tA71 tS71 rfl rfl) <| g_uG (zu 1006 rfl rfl rfl tZ71) rfl <| g_u (zY rfl rfl rfl tS71 rfl rfl) <| zH <| zA <| zF <| zC <| g_u (zI rfl rfl fa71_0 rfl) <| g_u (zG rfl rfl rfl tA61 tS61 rfl rfl) <| g_u (zB rfl rfl) <| g_u (vF rfl rfl rfl) ?_
        refine g_u (zP (leftAs_c _ _ ⟨by ((try simp only [qa, qb, qc, ne_eq, beq_iff_eq, qd, qe, Bool.not_eq_true', Bool.not_eq_false', gt_iff_lt, ge_iff_le] at *); (repeat simp (disch := omega) only [ze, xJ] at *)); omega, by ((try simp only [qa, qb, qc, ne_eq, beq_iff_eq, qd, qe, Bool.not_eq_true', Bool.not_eq_false', gt_iff_lt, ge_iff_le] at *); (repeat simp (disch := omega) only [ze, xJ] at *)); omega⟩) rfl rfl) ?_
        refine g_u (zE rfl rfl) <| zH <| zA <| zF <| zC <| g_u (zE rfl rfl) <| zH <| zA <| za ?_
        refine yB (fun j : Nat × Int => [(2, .ptr 1002 0), (1002, .box 24 (.imm (z9 b))), (1, .imm (iv j.2)), (5, .imm (iv (i : Int))), (6, .ptr 1006 0), (1006, .box 71 (.imm (nthR b i).av)), (7, .imm (iv (j.1 : Int)))]) (fun j => j.1 ≤ (nthR b i).scopes.length ∧ (-1000000000000 ≤ j.2 ∧ j.2 ≤ 1000000000) ∧ ((j.1 : Int) ≤ (zp (nthR b i).attrs (m - 1)) - j.2) ∧ wT (nthR b i).scopes (zp (nthR b i).attrs (m - 1)) = wT ((nthR b i).scopes.drop j.1) j.2) (fun j => (nthR b i).scopes.length - j.1) (⟨0, (zp (nthR b i).attrs (m - 1))⟩) ?_ ⟨rfl, rfl, zb rfl (by rw [ze (by omega) (by omega)]), rfl, rfl, rfl, rfl, trivial⟩ ?_
        · exact ⟨Nat.zero_le _, ⟨by dsimp only; omega, by dsimp only; omega⟩, by simp, rfl⟩
        · rintro ⟨k, m1⟩ ⟨g1, g2, g3, g4⟩; dsimp only at g1 g2 g3 g4
          refine zF <| zF <| zC <| g_u (zB rfl rfl) <| g_u (zI rfl rfl fa71_1 rfl) <| g_u (zG rfl rfl rfl tA69 tS69 rfl rfl) <| g_u (yF rfl rfl Try.underlying69) <| g_u (y8 rfl rfl rfl) <| g_u (zB rfl rfl) <| z6 (t := 35) rfl ?_
          rintro (hb3 | hb3)
          · rw [hb3]
            have hk : k < (nthR b i).scopes.length := by have := of_decide_eq_true hb3; (try simp only [List.length_map] at this); omega
            refine zN rfl rfl (zB rfl rfl) <| zN rfl rfl (s_geI rfl rfl rfl) <| g_u (zi rfl rfl rfl) <| zH <| zA ?_
            refine zf rfl (fun hb4 => ?_) (fun hb4 => ?_)
            · have hs1 : m1 ≥ 0 := of_decide_eq_true hb4
              refine zW <| zA <| zF <| za <| zF <| zF <| zC <| g_u (zI rfl rfl fa71_1 rfl) <| g_u (zG rfl rfl rfl tA69 tS69 rfl rfl) <| g_u (zB rfl rfl) ?_
              refine g_u (zK rfl rfl rfl Try.underlying69 tS75 (by omega) (ixC hk)) ?_
              refine g_u (zJ rfl rfl fa75_0 rfl rfl) <| g_u (zO rfl rfl tA9 tS9 rfl rfl) <| g_u (xP rfl rfl Try.underlying9) <| g_u (zB rfl rfl) <| g_u (s_gtI rfl rfl rfl) <| g_u (zB rfl rfl) <| z6 (t := 50) rfl ?_
              rintro (hb5 | hb5)
              · rw [hb5]
                have hA : (((nthC (nthR b i).scopes k).name.size : Int) > m1) := of_decide_eq_true hb5
                refine zQ rfl rfl rfl <| zQ rfl rfl rfl <| zQ rfl rfl rfl <| zQ rfl rfl rfl <| zQ rfl rfl rfl <| zQ rfl rfl rfl <| zQ rfl rfl rfl <| zQ rfl rfl rfl <| zQ rfl rfl rfl <| g_u (zi rfl rfl rfl) <| zH <| zA <| yD rfl <| zF <| zC <| g_u (zE rfl rfl) <| zH <| zA <| zd <| zh <| yT <| zh <| zh <| yT <| yT <| zh <| zh <| yT <| zh ?_
                exact ⟨⟨(rfl : toAV (Al.look _ _) = some _).trans (congrArg some (by (exact congrArg iv (by first | (rw [h4, hfin]; done) | (rw [h4, y6 hi (by omega), g4, xx hk (by omega) (.inl hA), xW _ (by decide)]; done) | (rw [h4, y6 hi (by omega), g4, xx hk (by omega) (.inr hB), xW _ (by decide)]; done))))), rfl⟩, trivial⟩
              · rw [hb5]
                have hA : ¬ (((nthC (nthR b i).scopes k).name.size : Int) > m1) := of_decide_eq_false hb5
                refine zN rfl rfl (zI rfl rfl fa71_1 rfl) <| zN rfl rfl (zG rfl rfl rfl tA69 tS69 rfl rfl) <| zN rfl rfl (zB rfl rfl) ?_
                refine zN rfl rfl (zK rfl rfl rfl Try.underlying69 tS75 (by omega) (ixC hk)) ?_
                refine zN rfl rfl (zJ rfl rfl fa75_1 rfl rfl) <| zN rfl rfl (zO rfl rfl tA9 tS9 rfl rfl) <| zN rfl rfl (xP rfl rfl Try.underlying9) <| zN rfl rfl (zB rfl rfl) <| zN rfl rfl (s_gtI rfl rfl rfl) <| g_u (z0 rfl rfl rfl) <| zH <| zA ?_
                refine zf rfl (fun hb6 => ?_) (fun hb6 => ?_)
                · have hB : (((nthC (nthR b i).scopes k).version.size : Int) > m1) := of_decide_eq_true hb6
                  refine zF <| zC <| g_u (zE rfl rfl) <| zH <| zA <| zd <| zh <| yT <| zh <| zh <| yT <| yT <| zh <| zh <| yT <| zh ?_
                  exact ⟨⟨(rfl : toAV (Al.look _ _) = some _).trans (congrArg some (by (exact congrArg iv (by first | (rw [h4, hfin]; done) | (rw [h4, y6 hi (by omega), g4, xx hk (by omega) (.inl hA), xW _ (by decide)]; done) | (rw [h4, y6 hi (by omega), g4, xx hk (by omega) (.inr hB), xW _ (by decide)]; done))))), rfl⟩, trivial⟩
                · have hB : ¬ (((nthC (nthR b i).scopes k).version.size : Int) > m1) := of_decide_eq_false hb6
                  refine zW <| zA <| zF <| zs yR <| g_u (zB rfl rfl) <| g_u (vF rfl rfl rfl) <| g_u (zI rfl rfl fa71_1 rfl) <| g_u (zG rfl rfl rfl tA69 tS69 rfl rfl) <| g_u (zB rfl rfl) ?_
                  refine g_u (zK rfl rfl rfl Try.underlying69 tS75 (by omega) (ixC hk)) ?_
                  refine g_u (zJ rfl rfl fa75_0 rfl rfl) <| g_u (zO rfl rfl tA9 tS9 rfl rfl) <| g_u (xP rfl rfl Try.underlying9) <| g_u (vF rfl rfl rfl) <| g_u (zI rfl rfl fa71_1 rfl) <| g_u (zG rfl rfl rfl tA69 tS69 rfl rfl) <| g_u (zB rfl rfl) ?_
                  refine g_u (zK rfl rfl rfl Try.underlying69 tS75 (by omega) (ixC hk)) ?_
                  refine g_u (zJ rfl rfl fa75_1 rfl rfl) <| g_u (zO rfl rfl tA9 tS9 rfl rfl) <| g_u (xP rfl rfl Try.underlying9) <| g_u (vF rfl rfl rfl) <| g_u (zE rfl rfl) ?_
                  refine zH ⟨by kernel_rfl, ?_⟩
                  refine zA <| zF <| zC <| g_u (zE rfl rfl) <| zH <| zA <| za ?_
                  refine yB (fun j : Nat × Int => [(2, .ptr 1002 0), (1002, .box 24 (.imm (z9 b))), (1, .imm (iv j.2)), (5, .imm (iv (i : Int))), (6, .ptr 1006 0), (1006, .box 71 (.imm (nthR b i).av)), (7, .imm (iv (k : Int))), (8, .imm (iv (j.1 : Int)))]) (fun j => j.1 ≤ (nthC (nthR b i).scopes k).spans.length ∧ (-1000000000000 ≤ j.2 ∧ j.2 ≤ 1000000000) ∧ ((j.1 : Int) ≤ (m1 - 1 - (nthC (nthR b i).scopes k).name.size - (nthC (nthR b i).scopes k).version.size) - j.2) ∧ xI (nthC (nthR b i).scopes k).spans (m1 - 1 - (nthC (nthR b i).scopes k).name.size - (nthC (nthR b i).scopes k).version.size) = xI ((nthC (nthR b i).scopes k).spans.drop j.1) j.2) (fun j => (nthC (nthR b i).scopes k).spans.length - j.1) (⟨0, (m1 - 1 - (nthC (nthR b i).scopes k).name.size - (nthC (nthR b i).scopes k).version.size)⟩) ?_ ⟨rfl, rfl, zb rfl (by (try dsimp only); rw [ze (n := m1 - 1) (by omega) (by omega), ze (n := m1 - 1 - (nthC (nthR b i).scopes k).name.size) (by omega) (by omega), ze (by omega) (by omega)]), rfl, rfl, rfl, rfl, rfl, trivial⟩ ?_
                  · exact ⟨Nat.zero_le _, ⟨by dsimp only; omega, by dsimp only; omega⟩, by simp, rfl⟩
                  · rintro ⟨q, m2⟩ ⟨f1, f2, f3, f4⟩; dsimp only at f1 f2 f3 f4
                    refine zF <| zF <| zC <| g_u (zB rfl rfl) <| g_u (zI rfl rfl fa71_1 rfl) <| g_u (zG rfl rfl rfl tA69 tS69 rfl rfl) <| g_u (zB rfl rfl) ?_
                    refine g_u (zK rfl rfl rfl Try.underlying69 tS75 (by omega) (ixC hk)) ?_
                    refine g_u (zJ rfl rfl fa75_2 rfl rfl) <| g_u (zO rfl rfl tA73 tS73 rfl rfl) <| g_u (yF rfl rfl Try.underlying73) <| g_u (y8 rfl rfl rfl) <| g_u (zB rfl rfl) <| z6 (t := 88) rfl ?_
                    rintro (hb7 | hb7)
                    · rw [hb7]
                      have hq : q < (nthC (nthR b i).scopes k).spans.length := by have := of_decide_eq_true hb7; (try simp only [List.length_map] at this); omega
                      refine zN rfl rfl (zB rfl rfl) <| zN rfl rfl (s_geI rfl rfl rfl) <| g_u (zi rfl rfl rfl) <| zH <| zA ?_
                      refine zf rfl (fun hb8 => ?_) (fun hb8 => ?_)
                      · have hs2 : m2 ≥ 0 := of_decide_eq_true hb8
                        refine zW <| zA <| zF <| za <| zC <| g_u (zI rfl rfl fa71_1 rfl) <| g_u (zG rfl rfl rfl tA69 tS69 rfl rfl) <| g_u (zB rfl rfl) ?_
                        refine g_u (zK rfl rfl rfl Try.underlying69 tS75 (by omega) (ixC hk)) ?_
                        refine g_u (zJ rfl rfl fa75_2 rfl rfl) <| g_u (zO rfl rfl tA73 tS73 rfl rfl) <| g_u (zB rfl rfl) ?_
                        refine g_u (zK rfl rfl rfl Try.underlying73 tS67 (by omega) (ixS hq)) ?_
                        refine g_u (zO rfl rfl tA67 tS67 rfl (by first | exact getS_w (GSpan.width _) rfl | rfl)) ?_
                        refine g_u (zB rfl rfl) ?_
                        refine g_u (zP (leftS_c _ _ ⟨by omega, by omega⟩) rfl rfl) ?_
                        refine g_u (zE rfl rfl) <| zH <| zT <| zA <| zC <| g_u (zB rfl rfl) <| g_u (yh rfl rfl rfl) <| g_u (zE rfl rfl) <| zH <| zA ?_
                        have bs := leftS_bd (nthS (nthC (nthR b i).scopes k).spans q) (n := m2) (by omega)
                        have ed := leftSp_drop hq (m := m2) (by omega)
                        refine ⟨⟨q + 1, wI (nthS (nthC (nthR b i).scopes k).spans q) m2⟩, ⟨hq, by dsimp only; omega, by dsimp only; omega, by dsimp only; rw [f4, ed]⟩, ⟨rfl, rfl, rfl, rfl, rfl, rfl, rfl, zb rfl (by rw [ze (by omega) (by omega)]; rfl), trivial⟩, by dsimp only; omega⟩
                      · have hs2 : ¬ m2 ≥ 0 := of_decide_eq_false hb8
                        have hfin2 : xI (nthC (nthR b i).scopes k).spans (m1 - 1 - (nthC (nthR b i).scopes k).name.size - (nthC (nthR b i).scopes k).version.size) = m2 := by rw [f4]; exact leftSp_neg _ (by omega)
                        refine yA <| zU <| zU <| zx <| zT <| zA <| zC <| g_u (zB rfl rfl) <| g_u (yh rfl rfl rfl) <| g_u (zE rfl rfl) <| zH <| zA ?_
                        have bp := leftSp_bd (nthC (nthR b i).scopes k).spans (m1 - 1 - (nthC (nthR b i).scopes k).name.size - (nthC (nthR b i).scopes k).version.size)
                        have ed := leftC_drop hk (m := m1) (by omega) hA hB
                        refine ⟨⟨k + 1, m2⟩, ⟨hk, by dsimp only; omega, by dsimp only; omega, by dsimp only; rw [g4, ed, hfin2]⟩, ⟨rfl, rfl, rfl, rfl, rfl, rfl, zb rfl (by rw [ze (by omega) (by omega)]; rfl), trivial⟩, by dsimp only; omega⟩
                    · rw [hb7]
                      have hqn : q = (nthC (nthR b i).scopes k).spans.length := by have := of_decide_eq_false hb7; (try simp only [List.length_map] at this); omega
                      have hfin2 : xI (nthC (nthR b i).scopes k).spans (m1 - 1 - (nthC (nthR b i).scopes k).name.size - (nthC (nthR b i).scopes k).version.size) = m2 := by rw [f4, hqn, List.drop_length]; rfl
                      refine zQ rfl rfl rfl <| zQ rfl rfl rfl <| g_u (z0 rfl rfl rfl) <| zH <| zA <| zc rfl <| yA <| zU <| zU <| zx <| zT <| zA <| zC <| g_u (zB rfl rfl) <| g_u (yh rfl rfl rfl) <| g_u (zE rfl rfl) <| zH <| zA ?_
                      have bp := leftSp_bd (nthC (nthR b i).scopes k).spans (m1 - 1 - (nthC (nthR b i).scopes k).name.size - (nthC (nthR b i).scopes k).version.size)
                      have ed := leftC_drop hk (m := m1) (by omega) hA hB
                      refine ⟨⟨k + 1, m2⟩, ⟨hk, by dsimp only; omega, by dsimp only; omega, by dsimp only; rw [g4, ed, hfin2]⟩, ⟨rfl, rfl, rfl, rfl, rfl, rfl, zb rfl (by rw [ze (by omega) (by omega)]; rfl), trivial⟩, by dsimp only; omega⟩
            · have hs1 : ¬ m1 ≥ 0 := of_decide_eq_false hb4
              have hfin1 : wT (nthR b i).scopes (zp (nthR b i).attrs (m - 1)) = m1 := by rw [g4]; exact leftC_neg _ (by omega)
              refine yA <| zU <| zU <| zx <| zT <| zA <| zC <| g_u (zB rfl rfl) <| g_u (yh rfl rfl rfl) <| g_u (zE rfl rfl) <| zH <| zA ?_
              have bc := leftC_bd (nthR b i).scopes (zp (nthR b i).attrs (m - 1))
              have ed := y6 hi (m := m) (by omega)
              refine ⟨⟨i + 1, m1⟩, ⟨hi, by dsimp only; omega, by dsimp only; omega, by dsimp only; rw [h4, ed, hfin1]⟩, ⟨rfl, rfl, rfl, zb rfl (by rw [ze (by omega) (by omega)]; rfl), trivial⟩, by dsimp only; omega⟩
          · rw [hb3]
            have hkn : k = (nthR b i).scopes.length := by have := of_decide_eq_false hb3; (try simp only [List.length_map] at this); omega
            have hfin1 : wT (nthR b i).scopes (zp (nthR b i).attrs (m - 1)) = m1 := by rw [g4, hkn, List.drop_length]; rfl
            refine zQ rfl rfl rfl <| zQ rfl rfl rfl <| g_u (z0 rfl rfl rfl) <| zH <| zA <| zc rfl <| yA <| zU <| zU <| zx <| zT <| zA <| zC <| g_u (zB rfl rfl) <| g_u (yh rfl rfl rfl) <| g_u (zE rfl rfl) <| zH <| zA ?_
            have bc := leftC_bd (nthR b i).scopes (zp (nthR b i).attrs (m - 1))
            have ed := y6 hi (m := m) (by omega)
            refine ⟨⟨i + 1, m1⟩, ⟨hi, by dsimp only; omega, by dsimp only; omega, by dsimp only; rw [h4, ed, hfin1]⟩, ⟨rfl, rfl, rfl, zb rfl (by rw [ze (by omega) (by omega)]; rfl), trivial⟩, by dsimp only; omega⟩
      · have hs : ¬ m ≥ 0 := of_decide_eq_false hb2
        have hfin : wJ (b.drop i) m = m := xW _ (by omega)
        refine yA <| zU <| zU <| zx <| zA <| zF <| zC <| g_u (zB rfl rfl) <| g_u (zE rfl rfl) <| zH <| zA <| zd ?_
        exact ⟨⟨(rfl : toAV (Al.look _ _) = some _).trans (congrArg some (by (exact congrArg iv (by first | (rw [h4, hfin]; done) | (rw [h4, y6 hi (by omega), g4, xx hk (by omega) (.inl hA), xW _ (by decide)]; done) | (rw [h4, y6 hi (by omega), g4, xx hk (by omega) (.inr hB), xW _ (by decide)]; done))))), rfl⟩, trivial⟩
    · rw [hb1]
      have hin : i = b.length := by have := of_decide_eq_false hb1; (try simp only [List.length_map] at this); omega
      have hfin : wJ (b.drop i) m = m := by rw [hin, List.drop_length]; rfl
      refine zQ rfl rfl rfl <| zQ rfl rfl rfl <| g_u (z0 rfl rfl rfl) <| zH <| zA <| zc rfl <| yA <| zU <| zU <| zx <| zA <| zF <| zC <| g_u (zB rfl rfl) <| g_u (zE rfl rfl) <| zH <| zA <| zd ?_
      exact ⟨⟨(rfl : toAV (Al.look _ _) = some _).trans (congrArg some (by (exact congrArg iv (by first | (rw [h4, hfin]; done) | (rw [h4, y6 hi (by omega), g4, xx hk (by omega) (.inl hA), xW _ (by decide)]; done) | (rw [h4, y6 hi (by omega), g4, xx hk (by omega) (.inr hB), xW _ (by decide)]; done))))), rfl⟩, trivial⟩
end Go.Proofs
namespace Go.Proofs
open Go Go.Al
set_option maxRecDepth 10000
attribute [local irreducible] runeM rRuneM
attribute [local irreducible] checkM countM cutM rCheckM rCountM rCutM
attribute [local irreducible] bytesM bytesP
end Go.Proofs
namespace Go.Proofs
open Go Go.Al
end Go.Proofs
namespace Go.Al
open Go.RowKit
theorem aw_cut' {C : Cx} {x y : Code} {st : St} {Q : Exit → St → Prop} {ι : Type} (Inv : ι → St) (ok : ι → Prop)
    (h1 : AW C x st (thn (fun st' => ∃ j, ok j ∧ sub st' (Inv j)) Q)) (h2 : ∀ j, ok j → AW C y (Inv j) Q) : AW C x st (thn (fun st' => AW C y st' Q) Q) := by
  refine h1.mono ?_
  intro e st' q
  cases e <;> simp only [thn] at q ⊢ <;> first | exact q | (obtain ⟨j, a, b⟩ := q; exact aw_weak _ b (h2 j a))
end Go.Al
namespace Go.Proofs
open Go Go.Al
set_option maxRecDepth 10000
end Go.Proofs
namespace Go.Al
open Go.RowKit
section
variable {C : Cx} {A : Nat → SV} {d : Nat} {ty : TypeId} {pos : String} {af : Array Edge} {gd : Option (Nat × Bool)} {x y : Operand} {T T' : TypeId}
end
end Go.Al
namespace Go.Proofs
open Go Go.Al
theorem GA.ext' {a b : GA} (h1 : a.key = b.key) (h2 : a.val = b.val) : a = b := by cases a; cases b; simp only [GA.key_mk, GA.val_mk] at h1 h2; rw [h1, h2]
theorem GV.ext' {a b : GV} (h1 : a.kind = b.kind) (h2 : a.text = b.text) (h3 : a.num = b.num) (h4 : a.bits = b.bits) (h5 : a.list = b.list) (h6 : a.map = b.map) : a = b := by
  cases a; cases b
  simp only [GV.kind_mk, GV.text_mk, GV.num_mk, GV.bits_mk, GV.list_mk, GV.map_mk] at h1 h2 h3 h4 h5 h6
  rw [h1, h2, h3, h4, h5, h6]
end Go.Proofs
namespace Go.Al
open Go.RowKit
section
variable {C : Cx} {A : Nat → SV} {d : Nat} {ty : TypeId} {pos : String} {af : Array Edge} {gd : Option (Nat × Bool)} {x y : Operand} {T T' : TypeId}
end
end Go.Al
namespace Go.Proofs
open Go Go.Al
set_option maxRecDepth 10000
end Go.Proofs
namespace Go.Proofs
open Go Go.Al
set_option maxRecDepth 10000
end Go.Proofs
namespace Go.Proofs
open Go Go.Al
set_option maxRecDepth 10000
end Go.Proofs
namespace Go.Proofs
open Go Go.Al
structure Rg where
  lo : Int
  hi : Int
def Rg.av (r : Rg) : AV := .agg [.v (.int .u64 r.lo), .v (.int .u64 r.hi)]
def xp (r : Rg) : Int := if r.hi > 9223372036854775807 ∨ r.lo > r.hi then 11 else 0
def begunM (r : Rg) : Int := IntKind.u64.wrap (r.lo.tdiv 1000)
def lastsM (r : Rg) : Int := IntKind.u64.wrap ((IntKind.u64.wrap (r.hi - r.lo)).tdiv 1000)
def microsM (m : Int) (r : Rg) : Int := if xp r = 0 then IntKind.i64.wrap m else 0
def nanoV (us : Int) : Int := if us < 0 ∨ us > 9223372036854775 then 0 else IntKind.u64.wrap (IntKind.u64.wrap us * 1000)
def nanoC (us : Int) : Int := if us < 0 ∨ us > 9223372036854775 then 11 else 0
def microM (ns : Int) : Int := IntKind.i64.wrap (IntKind.u64.wrap (ns.tdiv 1000))
def ofBad (b l : Int) : Prop := nanoC b ≠ 0 ∨ nanoC l ≠ 0 ∨ nanoV l > IntKind.u64.wrap (9223372036854775807 - nanoV b)
instance (b l : Int) : Decidable (ofBad b l) := by unfold ofBad; infer_instance
def ofR (b l : Int) : Rg := if ofBad b l then ⟨0, 0⟩ else ⟨nanoV b, IntKind.u64.wrap (nanoV b + nanoV l)⟩
def BegunM (r : Rg) : Int := microsM (begunM r) r
def LastsM (r : Rg) : Int := microsM (lastsM r) r
def wholeM (r : Rg) : Rg := ofR (BegunM r) (LastsM r)
-- the reference
def rNanoV (us : Int) : Int := if us < 0 ∨ us > 9223372036854775 then 0 else IntKind.u64.wrap (1000 * IntKind.u64.wrap us)
def rFine (s e : Int) : Bool := decide (s ≤ e) && decide (e ≤ 9223372036854775807)
def rLasts (s e : Int) : Int := if rFine s e then microM (IntKind.u64.wrap (e - s)) else 0
def rBegun (s e : Int) : Int := if rFine s e then microM s else 0
def rBad (b l : Int) : Prop := nanoC b ≠ 0 ∨ nanoC l ≠ 0 ∨ rNanoV b > IntKind.u64.wrap (9223372036854775807 - rNanoV l)
instance (b l : Int) : Decidable (rBad b l) := by unfold rBad; infer_instance
end Go.Proofs
namespace Go.Proofs
open Go Go.Al
theorem fine_iff (s e : Int) : rFine s e = true ↔ (s ≤ e ∧ e ≤ 9223372036854775807) := by simp [rFine]
theorem tells1 (s e : Int) : (xp ⟨s, e⟩ == 0) = rFine s e := by
  rw [Bool.eq_iff_iff, fine_iff]
  unfold xp
  by_cases h : e > 9223372036854775807 ∨ s > e
  · rw [if_pos h]; simp; omega
  · rw [if_neg h]; simp; omega
theorem rgCheck_fine {s e : Int} (h : rFine s e = true) : xp ⟨s, e⟩ = 0 := by have := tells1 s e; rw [h] at this; simpa using this
theorem rgCheck_bad {s e : Int} (h : rFine s e = false) : xp ⟨s, e⟩ = 11 := by
  have := tells1 s e; rw [h] at this
  unfold xp at this ⊢
  split
  · rfl
  · rename_i h'; rw [if_neg h'] at this; simp at this
theorem tells3 (s e : Int) : BegunM ⟨s, e⟩ = rBegun s e := by
  unfold BegunM microsM rBegun microM begunM
  cases h : rFine s e
  · rw [rgCheck_bad h]; simp
  · rw [rgCheck_fine h]; simp
theorem tells4 (s e : Int) : LastsM ⟨s, e⟩ = rLasts s e := by
  unfold LastsM microsM rLasts microM lastsM
  cases h : rFine s e
  · rw [rgCheck_bad h]; simp
  · rw [rgCheck_fine h]; simp
end Go.Proofs
namespace Go.Proofs
open Go Go.Al
instance : DecidableEq GV := fun a b => decidable_of_iff (sameV a b = true) (sameV_iff a b)
instance : DecidableEq GA := fun a b => decidable_of_iff (sameA a b = true) (sameA_iff a b)
theorem GE.ext' {a b : GE} (h1 : a.time = b.time) (h2 : a.name = b.name) (h3 : a.attrs = b.attrs) : a = b := by cases a; cases b; simp_all
theorem GL.ext' {a b : GL} (h1 : a.trace = b.trace) (h2 : a.span = b.span) (h3 : a.state = b.state) (h4 : a.attrs = b.attrs) : a = b := by cases a; cases b; simp_all
theorem GSpan.ext' {a b : GSpan} (h1 : a.trace = b.trace) (h2 : a.id = b.id) (h3 : a.parent = b.parent) (h4 : a.state = b.state) (h5 : a.name = b.name) (h6 : a.kind = b.kind) (h7 : a.start = b.start) (h8 : a.fin = b.fin) (h9 : a.attrs = b.attrs) (h10 : a.events = b.events) (h11 : a.links = b.links) (h12 : a.code = b.code) (h13 : a.note = b.note) : a = b := by
  cases a; cases b; simp_all
theorem GScope.ext' {a b : GScope} (h1 : a.name = b.name) (h2 : a.version = b.version) (h3 : a.spans = b.spans) : a = b := by cases a; cases b; simp_all
theorem GRes.ext' {a b : GRes} (h1 : a.attrs = b.attrs) (h2 : a.scopes = b.scopes) : a = b := by cases a; cases b; simp_all
instance : DecidableEq GE := fun a b => decidable_of_iff (a.time = b.time ∧ a.name = b.name ∧ a.attrs = b.attrs) ⟨fun h => GE.ext' h.1 h.2.1 h.2.2, fun h => by rw [h]; exact ⟨rfl, rfl, rfl⟩⟩
instance : DecidableEq GL := fun a b => decidable_of_iff (a.trace = b.trace ∧ a.span = b.span ∧ a.state = b.state ∧ a.attrs = b.attrs) ⟨fun h => GL.ext' h.1 h.2.1 h.2.2.1 h.2.2.2, fun h => by rw [h]; exact ⟨rfl, rfl, rfl, rfl⟩⟩
instance : DecidableEq GSpan := fun a b => decidable_of_iff ((a.trace = b.trace ∧ a.id = b.id ∧ a.parent = b.parent ∧ a.state = b.state) ∧ (a.name = b.name ∧ a.kind = b.kind ∧ a.start = b.start ∧ a.fin = b.fin) ∧ (a.attrs = b.attrs ∧ a.events = b.events ∧ a.links = b.links) ∧ a.code = b.code ∧ a.note = b.note)
  ⟨fun h => GSpan.ext' h.1.1 h.1.2.1 h.1.2.2.1 h.1.2.2.2 h.2.1.1 h.2.1.2.1 h.2.1.2.2.1 h.2.1.2.2.2 h.2.2.1.1 h.2.2.1.2.1 h.2.2.1.2.2 h.2.2.2.1 h.2.2.2.2, fun h => by rw [h]; exact ⟨⟨rfl, rfl, rfl, rfl⟩, ⟨rfl, rfl, rfl, rfl⟩, ⟨rfl, rfl, rfl⟩, rfl, rfl⟩⟩
instance : DecidableEq GScope := fun a b => decidable_of_iff (a.name = b.name ∧ a.version = b.version ∧ a.spans = b.spans) ⟨fun h => GScope.ext' h.1 h.2.1 h.2.2, fun h => by rw [h]; exact ⟨rfl, rfl, rfl⟩⟩
instance : DecidableEq GRes := fun a b => decidable_of_iff (a.attrs = b.attrs ∧ a.scopes = b.scopes) ⟨fun h => GRes.ext' h.1 h.2, fun h => by rw [h]; exact ⟨rfl, rfl⟩⟩
def k_kind : ByteArray := ⟨#[115, 112, 97, 110, 46, 107, 105, 110, 100]⟩
def k_error : ByteArray := ⟨#[101, 114, 114, 111, 114]⟩
def k_code : ByteArray := ⟨#[111, 116, 101, 108, 46, 115, 116, 97, 116, 117, 115, 95, 99, 111, 100, 101]⟩
def k_note : ByteArray := ⟨#[111, 116, 101, 108, 46, 115, 116, 97, 116, 117, 115, 95, 100, 101, 115, 99, 114, 105, 112, 116, 105, 111, 110]⟩
def k4 : List ByteArray := [k_kind, k_error, k_code, k_note]
def wl : List GScope → List GSpan
  | [] => []
  | c :: cs => c.spans ++ wl cs
theorem spansOf_mem : ∀ {l : List GScope} {s : GSpan}, s ∈ wl l → ∃ c ∈ l, s ∈ c.spans
  | x :: l, s, h => by
    rw [wl] at h
    rcases List.mem_append.1 h with h | h
    · exact ⟨x, List.mem_cons_self, h⟩
    · obtain ⟨c, h1, h2⟩ := spansOf_mem h; exact ⟨c, List.mem_cons_of_mem _ h1, h2⟩
theorem spansOf_len : ∀ l : List GScope, (wl l).length ≤ ya GScope.wt l
  | [] => Nat.zero_le _
  | c :: l => by
    rw [wl, List.length_append, ya]
    have h1 := spansOf_len l
    have h2 := wB GSpan.wt (fun e => by unfold GSpan.wt; omega) c.spans
    have h3 : c.wt = 1 + c.name.size + c.version.size + ya GSpan.wt c.spans := rfl
    omega
def plC (i : Nat) : Nat → List GScope → List (Nat × Nat × Nat)
  | _, [] => []
  | k, c :: cs => ((List.range c.spans.length).map fun m => (i, k, m)) ++ plC i (k + 1) cs
def plR : Nat → List GRes → List (Nat × Nat × Nat)
  | _, [] => []
  | i, r :: rs => plC i 0 r.scopes ++ plR (i + 1) rs
def plav (p : Nat × Nat × Nat) : AV := .agg [iv (p.1 : Int), iv (p.2.1 : Int), iv (p.2.2 : Int)]
theorem plC_snoc (i : Nat) (c : GScope) : ∀ (k : Nat) (l : List GScope), plC i k (l ++ [c]) = plC i k l ++ (List.range c.spans.length).map fun m => (i, k + l.length, m)
  | k, [] => by simp [plC]
  | k, x :: l => by
    simp only [List.cons_append, plC, plC_snoc i c (k + 1) l, List.append_assoc, List.length_cons]
    rw [show k + 1 + l.length = k + (l.length + 1) by omega]
theorem plR_snoc (r : GRes) : ∀ (i : Nat) (l : List GRes), plR i (l ++ [r]) = plR i l ++ plC (i + l.length) 0 r.scopes
  | i, [] => by simp [plR]
  | i, x :: l => by
    simp only [List.cons_append, plR, plR_snoc r (i + 1) l, List.append_assoc, List.length_cons]
    rw [show i + 1 + l.length = i + (l.length + 1) by omega]
theorem plC_take {i : Nat} {l : List GScope} {k : Nat} (h : k < l.length) : plC i 0 (l.take (k + 1)) = plC i 0 (l.take k) ++ (List.range (nthC l k).spans.length).map fun m => (i, k, m) := by
  rw [wC (yP (d := gc0) h), plC_snoc, List.length_take, Nat.min_eq_left (by omega), Nat.zero_add]; rfl
theorem plR_take {l : List GRes} {i : Nat} (h : i < l.length) : plR 0 (l.take (i + 1)) = plR 0 (l.take i) ++ plC i 0 (nthR l i).scopes := by
  rw [wC (yP (d := gr0) h), plR_snoc, List.length_take, Nat.min_eq_left (by omega), Nat.zero_add]; rfl
theorem range_snoc (f : Nat → Nat × Nat × Nat) (m : Nat) : (List.range (m + 1)).map f = (List.range m).map f ++ [f m] := by rw [List.range_succ, List.map_append]; rfl
theorem plC_len (i : Nat) : ∀ (k : Nat) (l : List GScope), (plC i k l).length = (wl l).length
  | _, [] => rfl
  | k, c :: l => by rw [plC, wl, List.length_append, List.length_append, plC_len i (k + 1) l]; simp
theorem plC_spans (i : Nat) : ∀ (l m : List GScope), (plC i m.length l).map (fun p => nthS (nthC (m ++ l) p.2.1).spans p.2.2) = wl l
  | [], m => rfl
  | c :: l, m => by
    rw [plC, List.map_append, wl]
    congr 1
    · rw [List.map_map]
      refine List.ext_getElem (by simp) fun j h1 h2 => ?_
      simp only [List.getElem_map, List.getElem_range, Function.comp]
      have : nthC (m ++ c :: l) m.length = c := by simp [nthC, nth]
      rw [this]
      simp only [nthS, nth]
      rw [List.getD_eq_getElem?_getD, List.getElem?_eq_getElem h2]; rfl
    · have := plC_spans i l (m ++ [c])
      simp only [List.length_append, List.length_cons, List.length_nil, List.append_assoc, List.cons_append, List.nil_append] at this
      exact this
theorem plC_mem {i : Nat} : ∀ {l m : List GScope} {p : Nat × Nat × Nat}, p ∈ plC i m.length l → p.2.1 < (m ++ l).length ∧ p.2.2 < (nthC (m ++ l) p.2.1).spans.length
  | c :: l, m, p, h => by
    rw [plC] at h
    rcases List.mem_append.1 h with h | h
    · obtain ⟨j, hj, rfl⟩ := List.mem_map.1 h
      have : nthC (m ++ c :: l) m.length = c := by simp [nthC, nth]
      exact ⟨by simp, by show j < (nthC (m ++ c :: l) m.length).spans.length; rw [this]; exact List.mem_range.1 hj⟩
    · have := plC_mem (l := l) (m := m ++ [c]) (p := p) (by simpa using h)
      simpa using this
end Go.Proofs
namespace Go.Proofs
open Go Go.Al
set_option maxRecDepth 10000
theorem rgCheck_c (r : Rg) : z8 Try.prog Γ0 46 [r.av] [iv (xp r)] := by
  refine zq Try.func46 rfl Try.ntmps46 (by kernel_rfl) rfl fun w0 I0 G0 => ?_
  refine zF <| zC <| g_uG (zV 1001 rfl rfl rfl rfl) rfl <| g_u (zE rfl rfl) <| zH <| zA <| zF <| zF <| zC <| g_u (zI rfl rfl fa105_1 rfl) <| g_u (zG rfl rfl rfl tA60 tS60 rfl rfl) <| g_u (s_gtI rfl rfl rfl) <| g_u (zB rfl rfl) <| z6 (t := 6) rfl ?_
  rintro (hb1 | hb1)
  · rw [hb1]
    refine zQ rfl rfl rfl <| zQ rfl rfl rfl <| zQ rfl rfl rfl <| zQ rfl rfl rfl <| zQ rfl rfl rfl <| g_u (zi rfl rfl rfl) <| zH <| zA <| yD rfl <| zF <| zC <| g_u (zE rfl rfl) <| zH <| zA <| zd <| zh ?_
    exact ⟨⟨(rfl : toAV (Al.look _ _) = some _).trans (congrArg some (by (simp only [qa, qb, qc, ne_eq, beq_iff_eq, qd, qe] at *; simp only [iv, xp]; first | rw [if_pos (by omega)] | rw [if_neg (by omega)]))), rfl⟩, trivial⟩
  · rw [hb1]
    refine zN rfl rfl (zI rfl rfl fa105_0 rfl) <| zN rfl rfl (zG rfl rfl rfl tA60 tS60 rfl rfl) <| zN rfl rfl (zI rfl rfl fa105_1 rfl) <| zN rfl rfl (zG rfl rfl rfl tA60 tS60 rfl rfl) <| zN rfl rfl (s_gtI rfl rfl rfl) <| g_u (z0 rfl rfl rfl) <| zH <| zA ?_
    refine zf rfl (fun hb2 => ?_) (fun hb2 => ?_)
    · refine zF ?_
      refine zC <| g_u (zE rfl rfl) <| zH <| zA <| zd <| zh ?_
      exact ⟨⟨(rfl : toAV (Al.look _ _) = some _).trans (congrArg some (by (simp only [qa, qb, qc, ne_eq, beq_iff_eq, qd, qe] at *; simp only [iv, xp]; first | rw [if_pos (by omega)] | rw [if_neg (by omega)]))), rfl⟩, trivial⟩
    · refine zW ?_
      refine zA <| zF <| zC <| g_u (zE rfl rfl) <| zH <| zA <| zd ?_
      exact ⟨⟨(rfl : toAV (Al.look _ _) = some _).trans (congrArg some (by (simp only [qa, qb, qc, ne_eq, beq_iff_eq, qd, qe] at *; simp only [iv, xp]; first | rw [if_pos (by omega)] | rw [if_neg (by omega)]))), rfl⟩, trivial⟩
theorem begun_c (r : Rg) : z8 Try.prog Γ0 42 [r.av] [uv (begunM r)] := by
  refine zq Try.func42 rfl Try.ntmps42 (by kernel_rfl) rfl fun w0 I0 G0 => ?_
  refine zF <| zC <| g_uG (zV 1001 rfl rfl rfl rfl) rfl <| g_u (zE rfl rfl) <| zH <| zA <| zF <| zC <| g_u (zI rfl rfl fa105_0 rfl) <| g_u (zG rfl rfl rfl tA60 tS60 rfl rfl) ?_
  refine g_u (s_quo rfl rfl rfl (by first | decide | omega | (((try simp only [qa, qb, qc, ne_eq, beq_iff_eq, qd, qe, Bool.not_eq_true', Bool.not_eq_false', gt_iff_lt, ge_iff_le] at *); (repeat simp (disch := omega) only [ze, xJ] at *)); omega))) ?_
  refine g_u (zE rfl rfl) <| zH <| zA <| zd ?_
  exact ⟨⟨(rfl : toAV (Al.look _ _) = some _).trans (congrArg some (by rfl)), rfl⟩, trivial⟩
theorem lasts_c (r : Rg) : z8 Try.prog Γ0 43 [r.av] [uv (lastsM r)] := by
  refine zq Try.func43 rfl Try.ntmps43 (by kernel_rfl) rfl fun w0 I0 G0 => ?_
  refine zF <| zC <| g_uG (zV 1001 rfl rfl rfl rfl) rfl <| g_u (zE rfl rfl) <| zH <| zA <| zF <| zC <| g_u (zI rfl rfl fa105_1 rfl) <| g_u (zG rfl rfl rfl tA60 tS60 rfl rfl) <| g_u (zI rfl rfl fa105_0 rfl) <| g_u (zG rfl rfl rfl tA60 tS60 rfl rfl) <| g_u (vF rfl rfl rfl) ?_
  refine g_u (s_quo rfl rfl rfl (by first | decide | omega | (((try simp only [qa, qb, qc, ne_eq, beq_iff_eq, qd, qe, Bool.not_eq_true', Bool.not_eq_false', gt_iff_lt, ge_iff_le] at *); (repeat simp (disch := omega) only [ze, xJ] at *)); omega))) ?_
  refine g_u (zE rfl rfl) <| zH <| zA <| zd ?_
  exact ⟨⟨(rfl : toAV (Al.look _ _) = some _).trans (congrArg some (by rfl)), rfl⟩, trivial⟩
theorem micros_c (r : Rg) (f : Nat) (m : Int) (hf : z8 Try.prog Γ0 f [r.av] [uv m]) : z8 Try.prog Γ0 41 [r.av, .fn (.func f) [] []] [iv (microsM m r)] := by
  refine zq Try.func41 rfl Try.ntmps41 (by kernel_rfl) rfl fun w0 I0 G0 => ?_
  refine zF <| zC <| g_uG (zV 1002 rfl rfl rfl rfl) rfl <| g_u (zE rfl rfl) <| zH <| zA <| zF <| zF <| zC <| g_u (zG rfl rfl rfl tA105 tS105 rfl rfl) <| g_u (zP (rgCheck_c ⟨_, _⟩) rfl rfl) <| g_u (s_neI rfl rfl rfl) <| zH <| zA ?_
  refine zf rfl (fun hb1 => ?_) (fun hb1 => ?_)
  · refine zF ?_
    refine zC <| g_u (zE rfl rfl) <| zH <| zA <| zd <| zh ?_
    exact ⟨⟨(rfl : toAV (Al.look _ _) = some _).trans (congrArg some (by (simp only [qa, qb, qc, ne_eq, beq_iff_eq, qd, qe] at *; simp only [iv, microsM]; first | rw [if_pos (by omega)] | rw [if_neg (by omega)]))), rfl⟩, trivial⟩
  · refine zW ?_
    refine zA <| zF <| zC <| g_u (zB rfl rfl) <| g_u (zG rfl rfl rfl tA105 tS105 rfl rfl) <| g_u (s_callv1 (hf) rfl rfl rfl) <| g_u (s_cvII rfl rfl Try.underlying60 Try.underlying3) <| g_u (zE rfl rfl) <| zH <| zA <| zd ?_
    exact ⟨⟨(rfl : toAV (Al.look _ _) = some _).trans (congrArg some (by (simp only [qa, qb, qc, ne_eq, beq_iff_eq, qd, qe] at *; simp only [iv, microsM]; first | rw [if_pos (by omega)] | rw [if_neg (by omega)]))), rfl⟩, trivial⟩
theorem Begun_c (r : Rg) : z8 Try.prog Γ0 37 [r.av] [iv (BegunM r)] := by
  refine zq Try.func37 rfl Try.ntmps37 (by kernel_rfl) rfl fun w0 I0 G0 => ?_
  refine zF <| zC <| g_uG (zV 1001 rfl rfl rfl rfl) rfl <| g_u (zE rfl rfl) <| zH <| zA <| zF <| zC <| g_u (zG rfl rfl rfl tA105 tS105 rfl rfl) <| g_u (zP (micros_c _ _ _ (begun_c _)) rfl rfl) <| g_u (zE rfl rfl) <| zH <| zA <| zd ?_
  exact ⟨⟨(rfl : toAV (Al.look _ _) = some _).trans (congrArg some (by rfl)), rfl⟩, trivial⟩
theorem Lasts_c (r : Rg) : z8 Try.prog Γ0 38 [r.av] [iv (LastsM r)] := by
  refine zq Try.func38 rfl Try.ntmps38 (by kernel_rfl) rfl fun w0 I0 G0 => ?_
  refine zF <| zC <| g_uG (zV 1001 rfl rfl rfl rfl) rfl <| g_u (zE rfl rfl) <| zH <| zA <| zF <| zC <| g_u (zG rfl rfl rfl tA105 tS105 rfl rfl) <| g_u (zP (micros_c _ _ _ (lasts_c _)) rfl rfl) <| g_u (zE rfl rfl) <| zH <| zA <| zd ?_
  exact ⟨⟨(rfl : toAV (Al.look _ _) = some _).trans (congrArg some (by rfl)), rfl⟩, trivial⟩
theorem rmicro_c (ns : Int) : z8 Try.prog Γ0 45 [uv ns] [iv (microM ns)] := by
  refine zq Try.func45 rfl Try.ntmps45 (by kernel_rfl) rfl fun w0 I0 G0 => ?_
  refine zF <| zC <| g_u (zE rfl rfl) <| zH <| zA <| zF <| zC <| g_u (zB rfl rfl) ?_
  refine g_u (s_quo rfl rfl rfl (by first | decide | omega | (((try simp only [qa, qb, qc, ne_eq, beq_iff_eq, qd, qe, Bool.not_eq_true', Bool.not_eq_false', gt_iff_lt, ge_iff_le] at *); (repeat simp (disch := omega) only [ze, xJ] at *)); omega))) ?_
  refine g_u (s_cvII rfl rfl Try.underlying60 Try.underlying3) <| g_u (zE rfl rfl) <| zH <| zA <| zd ?_
  exact ⟨⟨(rfl : toAV (Al.look _ _) = some _).trans (congrArg some (by rfl)), rfl⟩, trivial⟩
attribute [local irreducible] wholeM ofR
theorem rfine_c (s e : Int) : z8 Try.prog Γ0 44 [uv s, uv e] [bv (rFine s e)] := by
  refine zq Try.func44 rfl Try.ntmps44 (by kernel_rfl) rfl fun w0 I0 G0 => ?_
  refine zF <| zC <| g_u (zE rfl rfl) <| zH <| zA <| zF <| zC <| g_u (zB rfl rfl) <| g_u (zB rfl rfl) <| g_u (s_leI rfl rfl rfl) <| g_u (zB rfl rfl) <| z6 (t := 8) rfl ?_
  rintro (hb1 | hb1)
  · rw [hb1]
    refine zN rfl rfl (zB rfl rfl) <| zN rfl rfl (s_leI rfl rfl rfl) <| g_u (zi rfl rfl rfl) <| g_u (zE rfl rfl) <| zH <| zA <| zd ?_
    exact ⟨⟨(rfl : toAV (Al.look _ _) = some _).trans (congrArg some (by (simp only [bv, rFine, *]; rfl))), rfl⟩, trivial⟩
  · rw [hb1]
    refine zQ rfl rfl rfl <| zQ rfl rfl rfl <| g_u (z0 rfl rfl rfl) <| g_u (zE rfl rfl) <| zH <| zA <| zd ?_
    exact ⟨⟨(rfl : toAV (Al.look _ _) = some _).trans (congrArg some (by (simp only [bv, rFine, *]; rfl))), rfl⟩, trivial⟩
theorem rbegun_c (s e : Int) : z8 Try.prog Γ0 39 [uv s, uv e] [iv (rBegun s e)] := by
  refine zq Try.func39 rfl Try.ntmps39 (by kernel_rfl) rfl fun w0 I0 G0 => ?_
  refine zF <| zC <| g_u (zE rfl rfl) <| zH <| zA <| zF <| zF <| zC <| g_u (zB rfl rfl) <| g_u (zB rfl rfl) <| g_u (zP (rfine_c _ _) rfl rfl) <| g_u (s_not rfl rfl) <| zH <| zA ?_
  refine zf rfl (fun hb1 => ?_) (fun hb1 => ?_)
  · refine zF ?_
    refine zC <| g_u (zE rfl rfl) <| zH <| zA <| zd <| zh ?_
    exact ⟨⟨(rfl : toAV (Al.look _ _) = some _).trans (congrArg some (by (simp only [iv, rBegun, rLasts]; simp only [Bool.not_eq_true', Bool.not_eq_false'] at *; simp only [*]; rfl))), rfl⟩, trivial⟩
  · refine zW ?_
    refine zA <| zF <| zC <| g_u (zB rfl rfl) <| g_u (zP (rmicro_c _) rfl rfl) <| g_u (zE rfl rfl) <| zH <| zA <| zd ?_
    exact ⟨⟨(rfl : toAV (Al.look _ _) = some _).trans (congrArg some (by (simp only [iv, rBegun, rLasts]; simp only [Bool.not_eq_true', Bool.not_eq_false'] at *; simp only [*]; rfl))), rfl⟩, trivial⟩
theorem rlasts_c (s e : Int) : z8 Try.prog Γ0 40 [uv s, uv e] [iv (rLasts s e)] := by
  refine zq Try.func40 rfl Try.ntmps40 (by kernel_rfl) rfl fun w0 I0 G0 => ?_
  refine zF <| zC <| g_u (zE rfl rfl) <| zH <| zA <| zF <| zF <| zC <| g_u (zB rfl rfl) <| g_u (zB rfl rfl) <| g_u (zP (rfine_c _ _) rfl rfl) <| g_u (s_not rfl rfl) <| zH <| zA ?_
  refine zf rfl (fun hb1 => ?_) (fun hb1 => ?_)
  · refine zF ?_
    refine zC <| g_u (zE rfl rfl) <| zH <| zA <| zd <| zh ?_
    exact ⟨⟨(rfl : toAV (Al.look _ _) = some _).trans (congrArg some (by (simp only [iv, rBegun, rLasts]; simp only [Bool.not_eq_true', Bool.not_eq_false'] at *; simp only [*]; rfl))), rfl⟩, trivial⟩
  · refine zW ?_
    refine zA <| zF <| zC <| g_u (zB rfl rfl) <| g_u (zB rfl rfl) <| g_u (vF rfl rfl rfl) <| g_u (zP (rmicro_c _) rfl rfl) <| g_u (zE rfl rfl) <| zH <| zA <| zd ?_
    exact ⟨⟨(rfl : toAV (Al.look _ _) = some _).trans (congrArg some (by (simp only [iv, rBegun, rLasts]; simp only [Bool.not_eq_true', Bool.not_eq_false'] at *; simp only [*]; rfl))), rfl⟩, trivial⟩
end Go.Proofs
namespace Go.Proofs
open Go Go.Al
set_option maxRecDepth 10000
end Go.Proofs
namespace Go.Proofs
open Go Go.Al
end Go.Proofs
namespace Go.Proofs
open Go Go.Al
set_option maxRecDepth 10000
theorem plR_len : ∀ (i : Nat) (l : List GRes), (plR i l).length ≤ ya GRes.wt l
  | _, [] => Nat.le_refl _
  | i, r :: l => by
    rw [plR, List.length_append, plC_len, ya]
    have h1 := plR_len (i + 1) l
    have h2 := spansOf_len r.scopes
    have h3 : r.wt = 1 + wtAs r.attrs + ya GScope.wt r.scopes := rfl
    omega
def p00 : Nat × Nat × Nat := (0, 0, 0)
def nthP (l : List (Nat × Nat × Nat)) (i : Nat) : Nat × Nat × Nat := nth l i p00
theorem ixP {l : List (Nat × Nat × Nat)} {i : Nat} (h : i < l.length) : (l.map plav)[((i : Nat) : Int).toNat]? = some (plav (nthP l i)) := xX (d := p00) h
theorem nthP_mem {l : List (Nat × Nat × Nat)} {i : Nat} (h : i < l.length) : nthP l i ∈ l := wG h
set_option maxHeartbeats 2000000 in
theorem places_c (b : List GRes) (hw : wtB b ≤ 9000000) : z8 Try.prog Γ0 10 [z9 b] [.sl 3 ((plR 0 b).map plav)] := by
  have ql := wB GRes.wt (fun e => by unfold GRes.wt; omega) b
  have qw : wtB b = ya GRes.wt b := rfl
  refine zq Try.func10 rfl Try.ntmps10 (by kernel_rfl) rfl fun w0 I0 G0 => ?_
  refine zF <| zC <| g_uG (zV 1001 rfl rfl rfl rfl) rfl <| g_u (zE rfl rfl) <| zH <| zA <| zF <| zC <| g_u (zE rfl rfl) <| zH <| zA <| zF <| zF <| aw_newtok 3003 3 3 rfl rfl rfl rfl <| zC <| g_u (zE rfl rfl) <| zH <| zA <| za ?_
  refine yB (fun i : Nat => [(1, .ptr 1001 0), (1001, .box 24 (.imm (z9 b))), (3, .slg 3003 3 (((plR 0 (b.take i))).map plav)), (3003, .tok 3 (((plR 0 (b.take i))).map plav)), (4, .imm (iv (i : Int)))]) (fun i => i ≤ b.length) (fun i => b.length - i) (0) ?_ ⟨rfl, rfl, rfl, rfl, rfl, trivial⟩ ?_
  · exact Nat.zero_le _
  · rintro i h1; have h1 : i ≤ b.length := h1
    refine zF <| zF <| zC <| g_u (zB rfl rfl) <| g_u (zI rfl rfl fa24_0 rfl) <| g_u (zG rfl rfl rfl tA22 tS22 rfl rfl) <| g_u (yF rfl rfl Try.underlying22) <| g_u (y8 rfl rfl rfl) <| zH <| zA ?_
    refine zf rfl (fun hb1 => ?_) (fun hb1 => ?_)
    · have hi : i < b.length := by have := of_decide_eq_true hb1; (try simp only [List.length_map] at this); omega
      have hrx := sumBy_mem GRes.wt (nthR_mem hi)
      have hrq : (nthR b i).wt = 1 + wtAs (nthR b i).attrs + ya GScope.wt (nthR b i).scopes := rfl
      have hcl := wB GScope.wt (fun e => by unfold GScope.wt; omega) (nthR b i).scopes
      have hl1 : (plR 0 (b.take i)).length ≤ 9000000 := by have h1 := plR_len 0 (b.take i); have h2 := sumBy_take GRes.wt b i; omega
      refine zW <| zA <| zF <| za <| zF <| zC <| g_u (zE rfl rfl) <| zH <| zA <| za ?_
      refine yB (fun k : Nat => [(1, .ptr 1001 0), (1001, .box 24 (.imm (z9 b))), (3, .slg 3003 3 (((plR 0 (b.take i)) ++ (plC i 0 ((nthR b i).scopes.take k))).map plav)), (3003, .tok 3 (((plR 0 (b.take i)) ++ (plC i 0 ((nthR b i).scopes.take k))).map plav)), (4, .imm (iv (i : Int))), (5, .imm (iv (k : Int)))]) (fun k => k ≤ (nthR b i).scopes.length) (fun k => (nthR b i).scopes.length - k) (0) ?_ ⟨rfl, rfl, yr rfl (by simp [plC]), yt rfl (by simp [plC]), rfl, rfl, trivial⟩ ?_
      · exact Nat.zero_le _
      · rintro k g1; have g1 : k ≤ (nthR b i).scopes.length := g1
        refine zF <| zF <| zC <| g_u (zB rfl rfl) <| g_u (zI rfl rfl fa24_0 rfl) <| g_u (zG rfl rfl rfl tA22 tS22 rfl rfl) <| g_u (zB rfl rfl) ?_
        refine g_u (zK rfl rfl rfl Try.underlying22 tS71 (by omega) (ixR hi)) ?_
        refine g_u (zJ rfl rfl fa71_1 rfl rfl) <| g_u (zO rfl rfl tA69 tS69 rfl rfl) <| g_u (yF rfl rfl Try.underlying69) <| g_u (y8 rfl rfl rfl) <| zH <| zA ?_
        refine zf rfl (fun hb2 => ?_) (fun hb2 => ?_)
        · have hk : k < (nthR b i).scopes.length := by have := of_decide_eq_true hb2; (try simp only [List.length_map] at this); omega
          have hcx := sumBy_mem GScope.wt (nthC_mem hk)
          have hcq : (nthC (nthR b i).scopes k).wt = 1 + (nthC (nthR b i).scopes k).name.size + (nthC (nthR b i).scopes k).version.size + ya GSpan.wt (nthC (nthR b i).scopes k).spans := rfl
          have hsl := wB GSpan.wt (fun e => by unfold GSpan.wt; omega) (nthC (nthR b i).scopes k).spans
          have hl2 : (plC i 0 ((nthR b i).scopes.take k)).length ≤ 9000000 := by have h1 := plC_len i 0 ((nthR b i).scopes.take k); have h2 := spansOf_len ((nthR b i).scopes.take k); have h3 := sumBy_take GScope.wt (nthR b i).scopes k; omega
          refine zW <| zA <| zF <| za <| zF <| zC <| g_u (zE rfl rfl) <| zH <| zA <| za ?_
          refine yB (fun m : Nat => [(1, .ptr 1001 0), (1001, .box 24 (.imm (z9 b))), (3, .slg 3003 3 (((plR 0 (b.take i)) ++ (plC i 0 ((nthR b i).scopes.take k)) ++ ((List.range m).map fun m => (i, k, m))).map plav)), (3003, .tok 3 (((plR 0 (b.take i)) ++ (plC i 0 ((nthR b i).scopes.take k)) ++ ((List.range m).map fun m => (i, k, m))).map plav)), (4, .imm (iv (i : Int))), (5, .imm (iv (k : Int))), (6, .imm (iv (m : Int)))]) (fun m => m ≤ (nthC (nthR b i).scopes k).spans.length) (fun m => (nthC (nthR b i).scopes k).spans.length - m) (0) ?_ ⟨rfl, rfl, yr rfl (by simp), yt rfl (by simp), rfl, rfl, rfl, trivial⟩ ?_
          · exact Nat.zero_le _
          · rintro m f1; have f1 : m ≤ (nthC (nthR b i).scopes k).spans.length := f1
            refine zF <| zF <| zC <| g_u (zB rfl rfl) <| g_u (zI rfl rfl fa24_0 rfl) <| g_u (zG rfl rfl rfl tA22 tS22 rfl rfl) <| g_u (zB rfl rfl) ?_
            refine g_u (zK rfl rfl rfl Try.underlying22 tS71 (by omega) (ixR hi)) ?_
            refine g_u (zJ rfl rfl fa71_1 rfl rfl) <| g_u (zO rfl rfl tA69 tS69 rfl rfl) <| g_u (zB rfl rfl) ?_
            refine g_u (zK rfl rfl rfl Try.underlying69 tS75 (by omega) (ixC hk)) ?_
            refine g_u (zJ rfl rfl fa75_2 rfl rfl) <| g_u (zO rfl rfl tA73 tS73 rfl rfl) <| g_u (yF rfl rfl Try.underlying73) <| g_u (y8 rfl rfl rfl) <| zH <| zA ?_
            refine zf rfl (fun hb3 => ?_) (fun hb3 => ?_)
            · have hm : m < (nthC (nthR b i).scopes k).spans.length := by have := of_decide_eq_true hb3; (try simp only [List.length_map] at this); omega
              refine zW <| zA <| zF <| za <| zC <| g_u (xZ rfl rfl) <| g_u (zB rfl rfl) <| g_u (zB rfl rfl) <| g_u (zB rfl rfl) <| g_u (yc rfl tU42 us42 pl42 rfl rfl rfl rfl) <| g_u (z7 (X0 := z42) rfl Try.underlying35 tS42 tZ42 rfl rfl rfl rfl rfl rfl rfl rfl) ?_
              refine g_u (yi rfl rfl rfl rfl rfl Try.underlying35 Try.underlying35 tS42 zv42 rfl (by decide) by42 (by (try dsimp only); simp only [List.length_append, List.length_cons, List.length_nil, List.length_map, List.length_range]; omega) (by (try dsimp only); simp only [List.length_append, List.length_cons, List.length_nil, List.length_map, List.length_range]; omega)) ?_
              refine g_u (yp rfl rfl) <| zH <| zT <| zA <| zC <| g_u (zB rfl rfl) <| g_u (yh rfl rfl rfl) <| g_u (zE rfl rfl) <| zH <| zA ?_
              have et : (((plR 0 (b.take i)) ++ (plC i 0 ((nthR b i).scopes.take k)) ++ ((List.range (m + 1)).map fun m => (i, k, m))).map plav) = (((plR 0 (b.take i)) ++ (plC i 0 ((nthR b i).scopes.take k)) ++ ((List.range m).map fun m => (i, k, m))).map plav) ++ [plav (i, k, m)] := by rw [range_snoc, ← List.append_assoc, List.map_append]; rfl
              refine ⟨m + 1, hm, ⟨rfl, rfl, yr rfl et.symm, yt rfl et.symm, rfl, rfl, zb rfl (by rw [ze (by omega) (by omega)]; rfl), trivial⟩, by (try dsimp only); omega⟩
            · have hmn : m = (nthC (nthR b i).scopes k).spans.length := by have := of_decide_eq_false hb3; (try simp only [List.length_map] at this); omega
              refine yA <| zU <| zU <| zx <| zT <| zA <| zC <| g_u (zB rfl rfl) <| g_u (yh rfl rfl rfl) <| g_u (zE rfl rfl) <| zH <| zA ?_
              have et : (((plR 0 (b.take i)) ++ (plC i 0 ((nthR b i).scopes.take (k + 1)))).map plav) = (((plR 0 (b.take i)) ++ (plC i 0 ((nthR b i).scopes.take k)) ++ ((List.range m).map fun m => (i, k, m))).map plav) := by rw [plC_take hk, hmn, List.append_assoc]
              refine ⟨k + 1, hk, ⟨rfl, rfl, yr rfl et.symm, yt rfl et.symm, rfl, zb rfl (by rw [ze (by omega) (by omega)]; rfl), trivial⟩, by (try dsimp only); omega⟩
        · have hkn : k = (nthR b i).scopes.length := by have := of_decide_eq_false hb2; (try simp only [List.length_map] at this); omega
          refine yA <| zU <| zU <| zx <| zT <| zA <| zC <| g_u (zB rfl rfl) <| g_u (yh rfl rfl rfl) <| g_u (zE rfl rfl) <| zH <| zA ?_
          have et : ((plR 0 (b.take (i + 1))).map plav) = (((plR 0 (b.take i)) ++ (plC i 0 ((nthR b i).scopes.take k))).map plav) := by rw [plR_take hi, hkn, List.take_length]
          refine ⟨i + 1, hi, ⟨rfl, rfl, yr rfl et.symm, yt rfl et.symm, zb rfl (by rw [ze (by omega) (by omega)]; rfl), trivial⟩, by (try dsimp only); omega⟩
    · have hin : i = b.length := by have := of_decide_eq_false hb1; (try simp only [List.length_map] at this); omega
      refine yA <| zU <| zU <| zx <| zA <| zF <| zC <| g_u (xZ rfl rfl) <| g_u (yp rfl rfl) <| zH <| zA <| zd ?_
      exact ⟨⟨(rfl : toAV (Al.look _ _) = some _).trans (congrArg some (by (rw [hin, List.take_length]))), rfl⟩, trivial⟩
end Go.Proofs
namespace Go.Proofs
open Go Go.Al
set_option maxRecDepth 10000
theorem eq26 (a b : List UInt8) : eqV Try.prog 100 26 (.arr 16 a) (.arr 16 b) = some (a == b) := by kernel_rfl
theorem eq28 (a b : List UInt8) : eqV Try.prog 100 28 (.arr 8 a) (.arr 8 b) = some (a == b) := by kernel_rfl
end Go.Proofs
namespace Go.Al
open Go.RowKit
theorem wL {l : List UInt8} {n : Nat} (h : l.length = n) : Up (.agg (xV l)) (.arr n l) := by
  have hw : ∀ x ∈ xV l, x.width = 1 := W1.bytes l
  refine ⟨rfl, ?_, fun w I c r => ?_⟩
  · have key : ∀ l : List UInt8, AV.widths (xV l) = l.length := by
      intro l
      induction l with
      | nil => rfl
      | cons b l ih => simp only [xV, List.map_cons, AV.widths, List.length_cons] at ih ⊢; rw [ih]; simp only [AV.width, byteV, Value.cells]; show 1 + _ = _; omega
    show n = AV.widths (xV l)
    rw [key, h]
  · simp only [RepC] at r ⊢
    exact ⟨repE_bytes_inv l c ((repCs_E (n := 1) hw).1 r), h⟩
end Go.Al
namespace Go.Proofs
open Go Go.Al
set_option maxRecDepth 10000
theorem tV26 : yK Try.prog 26 (.agg (List.replicate 16 (.v (.int .u8 0)))) := ⟨.agg #[.int .u8 0, .int .u8 0, .int .u8 0, .int .u8 0, .int .u8 0, .int .u8 0, .int .u8 0, .int .u8 0, .int .u8 0, .int .u8 0, .int .u8 0, .int .u8 0, .int .u8 0, .int .u8 0, .int .u8 0, .int .u8 0], by kernel_rfl, by kernel_rfl⟩
theorem tV28 : yK Try.prog 28 (.agg (List.replicate 8 (.v (.int .u8 0)))) := ⟨.agg #[.int .u8 0, .int .u8 0, .int .u8 0, .int .u8 0, .int .u8 0, .int .u8 0, .int .u8 0, .int .u8 0], by kernel_rfl, by kernel_rfl⟩
end Go.Proofs
namespace Go.Al
open Go.RowKit
theorem SimG.turnOG {C : Cx} {A : Nat → SV} {G : Gh} {a : Act} {w : World} (S : SimG C A G a w) {g : Nat} {X' : SV} {o' : Obj}
    (how : Owned C.w0 C.E w (G.blk g)) (hni : ∀ o, ¬ G.I (G.blk g) o) (hown : zR G g (G.blk g) (A g)) (hown' : ∀ b, zR G g b X' → G.blk g = b)
    (hnew : Le w G.I (zn w (G.blk g) o') G.I → Holds C.w0 C.E G a (zn w (G.blk g) o') g X') :
    SimG C (upd A [(g, X')]) G a (zn w (G.blk g) o') := by
  have hlt : G.blk g < w.heap.size := how.2
  have hle : Le w G.I (zn w (G.blk g) o') G.I := fun b o h => ⟨h, by
    have : b ≠ G.blk g := by rintro rfl; exact hni o h
    exact zy (yH this)⟩
  have hu : ∀ k, upd A [(g, X')] k = if k = g then X' else A k := xB A g X'
  have conv : ∀ k b, zR G k b (upd A [(g, X')] k) → zR G k b (A k) := by
    intro k b h
    rw [hu] at h
    split at h
    · rename_i hk; subst hk; have := hown' b h; rw [← this]; exact hown
    · exact h
  refine ⟨S.os, S.tape, S.output, by rw [z_]; exact S.size, fun k h1 h2 => ?_, S.sub.trans hle, S.rel, S.glob.mono hle, S.new, fun b o h => by rw [z_]; exact S.val b o h, S.nts, S.dfs, fun k => ?_, fun k j b hkj h1 h2 => S.apart k j b hkj (conv k b h1) (conv j b h2)⟩
  · have : k ≠ G.blk g := by
      rintro rfl
      rcases how.1 with h | h
      · omega
      · exact h2 h
    rw [yH this]; exact S.block k h1 h2
  · rw [hu]
    split
    · rename_i hk; subst hk; exact hnew hle
    · rename_i hk
      refine (S.holds k).keep hle (GRel.refl G) (yu.1 _) (by rw [z_]; exact Nat.le_refl _) (fun h => ⟨h, rfl⟩) (fun _ => ⟨rfl, rfl, rfl⟩) (fun b hb => ⟨?_, fun _ h => h⟩)
      have : b ≠ G.blk g := by
        rintro rfl
        exact S.apart k g (G.blk g) hk hb hown
      exact yH this
theorem SimG.turnO {C : Cx} {A : Nat → SV} {G : Gh} {a : Act} {w : World} (S : SimG C A G a w) {g : Nat} {X' : SV} {o' : Obj}
    (how : Owned C.w0 C.E w (G.blk g)) (hni : ∀ o, ¬ G.I (G.blk g) o) (hown : zR G g (G.blk g) (A g)) (hown' : ∀ b, zR G g b X' → G.blk g = b)
    (hnew : Le w G.I (zn w (G.blk g) o') G.I → Holds C.w0 C.E G a (zn w (G.blk g) o') g X') :
    Sim C (upd A [(g, X')]) a (zn w (G.blk g) o') := ⟨G, S.turnOG how hni hown hown' hnew⟩
theorem ba_beq (a b : ByteArray) : (a == b) = decide (a = b) := by
  rcases a with ⟨a⟩; rcases b with ⟨b⟩
  show (a == b) = _
  rw [Bool.eq_iff_iff]; simp
theorem xH {P : Program} {w : World} {r : Nat} {es : Array MapEntry} {ck : Nat} (h : w.heap[r]? = some (.map es ck)) : (getObj r).run P w = .ok (.map es ck) w := by simp [getObj, Sem.run, h]
theorem xR {P : Program} {w : World} {r : Nat} {es : Array MapEntry} {ck : Nat} {o' : Obj} (h : w.heap[r]? = some (.map es ck)) : (setObj r o').run P w = .ok () (zn w r o') := by simp [setObj, Sem.run, h, zn]
section
variable {C : Cx} {A : Nat → SV} {d : Nat} {ty : TypeId} {pos : String} {af : Array Edge} {gd : Option (Nat × Bool)} {x y z : Operand} {T T' : TypeId}
theorem s_makeMap (g : Nat) (hgN : Nat.ble C.N g = true) (hgK : Nat.blt g C.K = true) (hN : Nat.blt d C.N = true) :
    zZ C ⟨some d, .makeMap T none, ty, pos, af, gd⟩ [] [g] A [(g, .mpr [] []), (d, .mref g)] := by
  intro A' a w hR hF ⟨G, S⟩
  have hN' : d < C.N := by simpa [Nat.blt_eq] using hN
  have hgd : g ≠ d := by have := Nat.le_of_ble_eq_true hgN; omega
  unfold Oper.wp
  have hrun : (execOp a.eval ⟨some d, .makeMap T none, ty, pos, af, gd⟩).run C.P w = .ok (.value (.map (some w.heap.size))) (w.alloc (.map #[] 0)) := by
    simp only [execOp, Option.map_none, Instr.makeMap, Sem.run_bind, Sem.run_pure, Result.andThen_ok, run_newObj]
    rfl
  rw [hrun, Oper.upon_value]
  refine S.allocO hgd (by simpa [Nat.blt_eq] using hgK) hN' (fun _ _ h => by simpa only [zR] using h) (fun G' e _ hg hle hni => ?_) (fun G' e => ?_) (fun k hk => hF k hk)
  · simp only [Holds]
    refine ⟨⟨.inl (by rw [e]; exact S.size), by rw [e]; simp⟩, ⟨#[], by rw [e]; exact alloc_new, fun i h => by simp at h, by simp [zg], by simp [zg]⟩, fun o => ?_⟩
    rw [e]; exact hni o
  · exact ⟨[.map (some w.heap.size)], by simp [RepS, e], by simp [mkS, SV.isAgg]⟩
theorem repVs_set {w : World} {I : Nat → Nat → Prop} : ∀ {xs : List AV} {vs : List Value} {i : Nat} {y : AV} {v : Value}, zg w I xs vs → Rep w I y v → zg w I (xs.set i y) (vs.set i v)
  | [], vs, i, y, v, h, _ => by
    simp only [zg] at h; subst h; simp [zg]
  | x :: xs, vs, 0, y, v, h, k => by
    simp only [zg] at h
    obtain ⟨c, r, rfl, h1, h2⟩ := h
    obtain ⟨c', k1, k2⟩ := k
    simp only [List.set_cons_zero, zg]
    exact ⟨c', r, by rw [k2], k1, h2⟩
  | x :: xs, vs, i + 1, y, v, h, k => by
    simp only [zg] at h
    obtain ⟨c, r, rfl, h1, h2⟩ := h
    simp only [List.set_cons_succ, zg]
    exact ⟨c, _, rfl, h1, repVs_set h2 k⟩
theorem s_range {gm : Nat} (g : Nat) {kt vt : TypeId} {ks vs : List AV} (hgN : Nat.ble C.N g = true) (hgK : Nat.blt g C.K = true) (hN : Nat.blt d C.N = true) (hgm : Nat.beq g gm = false) (hx : opS A x = .mref gm) (hg : A gm = .mpr ks vs) (hT : C.P.underlying T = some (.map kt vt)) :
    zZ C ⟨some d, .range T x, ty, pos, af, gd⟩ (gm :: opR x) [g] A [(g, .itr gm ks.length []), (d, .ptr g 0)] := by
  intro A' a w hR hF ⟨G, S⟩
  have hN' : d < C.N := by simpa [Nat.blt_eq] using hN
  have hgd : g ≠ d := by have := Nat.le_of_ble_eq_true hgN; omega
  have hgne : gm ≠ g := by rintro rfl; rw [Nat.beq_refl] at hgm; cases hgm
  have hgA : A' gm = .mpr ks vs := (hR gm List.mem_cons_self).trans hg
  obtain ⟨c, hc1, hc2⟩ := S.opS ((zt (fun k hk => hR k (List.mem_cons_of_mem _ hk))).trans hx) rfl
  simp only [RepS] at hc1
  have hev : a.eval x = .map (some (G.blk gm)) := by rw [hc2, hc1]; rfl
  have hb := S.holds gm
  rw [hgA] at hb
  simp only [Holds] at hb
  obtain ⟨how, ⟨es, h1, h2, h3, h4⟩, hni⟩ := hb
  have hlen : es.size = ks.length := by have := yy h3; simpa using this
  unfold Oper.wp
  have hrun : (execOp a.eval ⟨some d, .range T x, ty, pos, af, gd⟩).run C.P w = .ok (.value (.pointer (some ⟨w.heap.size, 0, none⟩))) (w.alloc (.mapIter (some (G.blk gm)) es.size #[] es.size)) := by
    simp only [execOp, Instr.range, Sem.run_bind, zM hT, Result.andThen_ok, hev, xH h1, Sem.run_pure, run_newObj]
    rfl
  rw [hrun, Oper.upon_value]
  refine S.allocO hgd (by simpa [Nat.blt_eq] using hgK) hN' (fun _ _ h => by simpa only [zR] using h) (fun G' e hother hg hle hni => ?_) (fun G' e => ?_) (fun k hk => hF k hk)
  · simp only [Holds]
    refine ⟨⟨.inl (by rw [e]; exact S.size), by rw [e]; simp⟩, ?_, fun o => ?_⟩
    · rw [e, hother gm hgne, ← hlen]; exact alloc_new
    · rw [e]; exact hni o
  · exact ⟨[.pointer (some ⟨w.heap.size, 0, none⟩)], by simp [RepS, e], by simp [mkS, SV.isAgg]⟩
end
end Go.Al
namespace Go.Al
open Go.RowKit
def units (n : Nat) : List AV := List.replicate n (.agg [])
@[simp] theorem units_length (n : Nat) : (units n).length = n := List.length_replicate
section
variable {C : Cx} {A : Nat → SV} {d : Nat} {ty : TypeId} {pos : String} {af : Array Edge} {gd : Option (Nat × Bool)} {x y z : Operand} {T T' : TypeId}
end
end Go.Al
namespace Go.Al
open Go.RowKit
structure SortC (P : Program) (Γ : List (Nat × AV)) (f : FuncId) : Prop where
  call : xY P f = true
  sorts : ∀ (blk cap : Nat) (ss : List (List UInt8)) (w : World), Sort.Holds Proofs.encStr w blk 0 ss.toArray → blk < w.heap.size → ss.length < 4611686018427387904 →
    Calls P f #[.slice (some ⟨blk, 0, none⟩) ss.length cap] w fun e w' =>
      e = .returned (.tuple #[]) ∧ ∃ n os, w' = Sort.grow (Sort.putRow Proofs.encStr (Sort.ahead w n) blk 0 (ss.mergeSort fun x y => decide (x ≤ y)).toArray) os
  empty : z8 P Γ f [.v (.slice none 0 0)] []
section
variable {C : Cx} {A : Nat → SV} {d : Nat} {ty : TypeId} {pos : String} {af : Array Edge} {gd : Option (Nat × Bool)} {x y z : Operand} {T T' : TypeId}
end
end Go.Al
namespace Go.Proofs
open Go Go.Al
end Go.Proofs
namespace Go.Al
open Go.RowKit
theorem aw_first {C : Cx} {id : Nat} {o : Oper} {os : List Oper} {ops : Array Oper} {st : St} {Q : Exit → St → Prop} (hl : ops.toList = o :: os) (hg : o.guard = none)
    (h : ∀ a w, Sim C (look st) a w → ∃ p : St, o.wp C.P a w (fun a' w' => Sim C (look (p ++ st)) a' w') (fun _ _ _ => False) ∧ Go1 C ops os (p ++ st) [] (fun st' _ => Q .normal st')) (hnd : noDef ops.toList = true := by rfl) : AW C (.region id ops false) st Q := by
  intro a w S n
  obtain ⟨p, h1, h2⟩ := h a w S
  obtain ⟨tr, st', r, f, k, _⟩ := Go1.sound _ _ _ _ h2
  refine wpIn_region ?_
  have h0 : ops[0]? = some o := by rw [← Array.getElem?_toList, hl]; rfl
  have hsz : ops.size = os.length + 1 := by rw [← Array.length_toList, hl]; rfl
  rw [List.range_eq_range', hsz, List.range'_succ]
  simp only [wpOpsIn, h0]
  have hw : Region.wanted o (yielded ops a.tmps) = true := by simp [Region.wanted, hg]
  simp only [hw, if_true]
  refine Oper.wpIn_of_wp (noDef_get hnd h0) (xz.Oper.wp_mono' (fun a' w' S' => ?_) (fun _ _ _ h => h.elim) h1)
  exact xz hnd os 1 _ tr a' w' (fun j => by rw [← Array.getElem?_toList, hl, Nat.add_comm, List.getElem?_cons_succ]) r S' (fun a' w' S' => ⟨st', k, f ▸ S'⟩)
theorem leftOf_mem {es : Array MapEntry} {seen : Array Nat} {e : MapEntry} (h : e ∈ (leftOf es seen).toList) : e ∈ es.toList ∧ e.born ∉ seen := by
  unfold leftOf at h
  simp at h
  simpa using h
theorem leftOf_none {es : Array MapEntry} {seen : Array Nat} (h : (leftOf es seen).size = 0) : ∀ e ∈ es.toList, e.born ∈ seen := by
  intro e he
  have h0 : leftOf es seen = #[] := Array.eq_empty_of_size_eq_zero h
  unfold leftOf at h0
  rw [Array.filter_eq_empty_iff] at h0
  have := h0 e (by simpa using he)
  simpa using this
section
variable {C : Cx} {d : Nat} {ty : TypeId} {pos : String} {af : Array Edge} {x : Operand}
theorem SimG.draws {A : Nat → SV} {G : Gh} {a : Act} {w w1 : World} (S : SimG C A G a w) (h : w1 = w ∨ w1 = w.drew) : SimG C A G a w1 := by
  rcases h with rfl | rfl
  · exact S
  · exact S.heap rfl rfl rfl rfl
end
end Go.Al
namespace Go.Al
section
variable {C : Cx} {A : Nat → SV} {d : Nat} {ty : TypeId} {pos : String} {af : Array Edge} {gd : Option (Nat × Bool)} {x : Operand}
end
end Go.Al
namespace Go.Proofs
open Go Go.Al
theorem nodup_lt : ∀ (n : Nat) (s : List Nat), s.Nodup → (∀ i ∈ s, i < n) → s.length ≤ n
  | 0, s, _, h => by
    cases s with
    | nil => simp
    | cons x s => exact absurd (h x (by simp)) (by omega)
  | n + 1, s, hn, h => by
    by_cases hm : n ∈ s
    · have h1 := nodup_lt n (s.erase n) (hn.erase n) (fun i hi => by
        have h2 := h i (List.mem_of_mem_erase hi)
        have h3 := ((List.Nodup.mem_erase_iff hn).1 hi).1
        omega)
      have := List.length_erase_of_mem hm
      omega
    · have := nodup_lt n s hn (fun i hi => by
        have h1 := h i hi
        have : i ≠ n := by rintro rfl; exact hm hi
        omega)
      omega
theorem nodup_snoc {s : List Nat} {q : Nat} (h : s.Nodup) (hq : q ∉ s) : (s ++ [q]).Nodup := by
  rw [List.nodup_append]
  refine ⟨h, by simp, fun a ha b hb => ?_⟩
  simp at hb; subst hb; rintro rfl; exact hq ha
end Go.Proofs
namespace Go.Proofs
open Go Go.Al
set_option maxRecDepth 10000
end Go.Proofs
namespace Go.Proofs
open Go Go.Al
set_option maxRecDepth 10000
end Go.Proofs
namespace Go.Proofs
open Go Go.Al
end Go.Proofs
namespace Go.Proofs
open Go Go.Al
set_option maxRecDepth 10000
end Go.Proofs
namespace Go.Proofs
open Go Go.Al
theorem zeros_beq : ∀ {n : Nat} {l : Bs}, l.length = n → (l == List.replicate n 0) = xh l
  | 0, [], _ => rfl
  | n + 1, x :: l, h => by
    have ih := zeros_beq (n := n) (l := l) (by simpa using h)
    rw [List.replicate_succ, List.cons_beq_cons, ih]; rfl
end Go.Proofs
namespace Go.Al
section
variable {P : Program} {b : Frame} {a : Act} {k : List Item} {cs : List Frame} {w : World}
end
end Go.Al
namespace Go.Proofs
open Go Go.Al
set_option maxRecDepth 10000
end Go.Proofs
namespace Go.Proofs
open Go Go.Al
set_option maxRecDepth 10000
end Go.Proofs
namespace Go.Proofs
open Go Go.Al
set_option maxRecDepth 10000
end Go.Proofs
namespace Go.Proofs
open Go Go.Al
set_option maxRecDepth 10000
end Go.Proofs
