/- Texts that the proofs of this claim share, part 3: the abstract logic, plain Lean on values and batches, and walks. No condition but those typed in each lemma. -/
import Derived.Test.YtiolofgnkkhjoaaDoorProg
import Derived.KernelRfl
import Derived.ReadAgain
import Derived.ChangeOld
import Derived.ChangeShapes
import Derived.SizedLaws
import Derived.LaidHandle
import Derived.Test.YtiolofgnkkhjoaaDoorQ2
set_option linter.unusedSimpArgs false
set_option linter.unusedVariables false
set_option maxHeartbeats 400000
namespace Go.Proofs
open Go Go.Al
set_option maxRecDepth 10000
theorem wn : Tryd.prog.follows .mixedOrders = true := by kernel_rfl
def Γ0 : List (Nat × AV) := [(1, .arr 8 [56, 48, 40, 32, 24, 16, 8, 0])]
def z1 : AV := .v .nilFunc
def z2 : AV := .v (.int .i64 0)
theorem tA3 : y8 Tryd.prog 3 = some false := by kernel_rfl
theorem tS3 : zq Tryd.prog 3 = some 1 := by kernel_rfl
def z3 : AV := .v (.int .i64 0)
theorem zv3 : xT Tryd.prog 3 = some (.int .i64 0) := by kernel_rfl
def z4 : AV := .v (.bool false)
theorem tA5 : y8 Tryd.prog 5 = some false := by kernel_rfl
theorem tS5 : zq Tryd.prog 5 = some 1 := by kernel_rfl
def z5 : AV := .v (.int .u8 0)
theorem zv5 : xT Tryd.prog 5 = some (.int .u8 0) := by kernel_rfl
theorem by5 : (Tryd.prog.info? 5).map (·.bytes) = some 1 := by kernel_rfl
theorem tZ5 : yU Tryd.prog 5 z5 := ⟨.int .u8 0, by kernel_rfl, by kernel_rfl⟩
theorem tA9 : y8 Tryd.prog 9 = some false := by kernel_rfl
theorem tS9 : zq Tryd.prog 9 = some 1 := by kernel_rfl
def z9 : AV := .v (.string .empty)
theorem zv9 : xT Tryd.prog 9 = some (.string .empty) := by kernel_rfl
theorem by9 : (Tryd.prog.info? 9).map (·.bytes) = some 16 := by kernel_rfl
theorem tZ9 : yU Tryd.prog 9 z9 := ⟨.string .empty, by kernel_rfl, by kernel_rfl⟩
theorem tA22 : y8 Tryd.prog 22 = some false := by kernel_rfl
theorem tS22 : zq Tryd.prog 22 = some 1 := by kernel_rfl
theorem tA24 : y8 Tryd.prog 24 = some true := by kernel_rfl
theorem tS24 : zq Tryd.prog 24 = some 1 := by kernel_rfl
def z24 : AV := .agg [.v (.slice none 0 0)]
theorem tZ24 : yU Tryd.prog 24 z24 := ⟨.agg #[.slice none 0 0], by kernel_rfl, by kernel_rfl⟩
def zs24 : AV := .agg [.sl 2 []]
theorem tU24 : yU Tryd.prog 24 zs24 := ⟨.agg #[.slice none 0 0], by kernel_rfl, by kernel_rfl⟩
theorem fa24_0 : fieldAt Tryd.prog 24 0 0 1 false := ⟨_, _, Tryd.underlying24, rfl, rfl, tS22, tA22⟩
theorem pl24 : xV Tryd.prog (Program.fieldsOf Tryd.prog 24).toList = some [(0, 1)] := by kernel_rfl
theorem us24 : Tryd.prog.underlying 24 = some (.struct (Program.fieldsOf Tryd.prog 24)) := by kernel_rfl
theorem tA26 : y8 Tryd.prog 26 = some true := by kernel_rfl
theorem tS26 : zq Tryd.prog 26 = some 16 := by kernel_rfl
theorem eg26 : Tryd.prog.eqGuardType Tryd.prog.depth 26 = false := by kernel_rfl
theorem tA28 : y8 Tryd.prog 28 = some true := by kernel_rfl
theorem tS28 : zq Tryd.prog 28 = some 8 := by kernel_rfl
theorem eg28 : Tryd.prog.eqGuardType Tryd.prog.depth 28 = false := by kernel_rfl
theorem tA29 : y8 Tryd.prog 29 = some false := by kernel_rfl
theorem tS29 : zq Tryd.prog 29 = some 1 := by kernel_rfl
theorem tA30 : y8 Tryd.prog 30 = some false := by kernel_rfl
theorem tS30 : zq Tryd.prog 30 = some 1 := by kernel_rfl
theorem tA31 : y8 Tryd.prog 31 = some false := by kernel_rfl
theorem tS31 : zq Tryd.prog 31 = some 1 := by kernel_rfl
theorem tA32 : y8 Tryd.prog 32 = some false := by kernel_rfl
theorem tS32 : zq Tryd.prog 32 = some 1 := by kernel_rfl
theorem tA34 : y8 Tryd.prog 34 = some true := by kernel_rfl
theorem tS34 : zq Tryd.prog 34 = some 2 := by kernel_rfl
def z34 : AV := .agg [.v (.int .i64 0), .v (.string .empty)]
theorem tZ34 : yU Tryd.prog 34 z34 := ⟨.agg #[.int .i64 0, .string .empty], by kernel_rfl, by kernel_rfl⟩
theorem fa34_0 : fieldAt Tryd.prog 34 0 0 1 false := ⟨_, _, Tryd.underlying34, rfl, rfl, tS3, tA3⟩
theorem fa34_1 : fieldAt Tryd.prog 34 1 1 1 false := ⟨_, _, Tryd.underlying34, rfl, rfl, tS9, tA9⟩
theorem eg34 : Tryd.prog.eqGuardType Tryd.prog.depth 34 = false := by kernel_rfl
theorem tA36 : y8 Tryd.prog 36 = some true := by kernel_rfl
theorem tS36 : zq Tryd.prog 36 = some 42 := by kernel_rfl
def z36 : AV := .agg [.arr 16 (List.replicate 16 0), .arr 8 (List.replicate 8 0), .arr 8 (List.replicate 8 0), .v (.string .empty), .v (.string .empty), .v (.int .i64 0), .v (.int .u64 0), .v (.int .u64 0), .v (.slice none 0 0), .v (.slice none 0 0), .v (.slice none 0 0), .agg [.v (.int .i64 0), .v (.string .empty)]]
theorem zv36 : xT Tryd.prog 36 = some (.agg #[.int .u8 0, .int .u8 0, .int .u8 0, .int .u8 0, .int .u8 0, .int .u8 0, .int .u8 0, .int .u8 0, .int .u8 0, .int .u8 0, .int .u8 0, .int .u8 0, .int .u8 0, .int .u8 0, .int .u8 0, .int .u8 0, .int .u8 0, .int .u8 0, .int .u8 0, .int .u8 0, .int .u8 0, .int .u8 0, .int .u8 0, .int .u8 0, .int .u8 0, .int .u8 0, .int .u8 0, .int .u8 0, .int .u8 0, .int .u8 0, .int .u8 0, .int .u8 0, .string .empty, .string .empty, .int .i64 0, .int .u64 0, .int .u64 0, .slice none 0 0, .slice none 0 0, .slice none 0 0, .int .i64 0, .string .empty]) := by kernel_rfl
theorem by36 : (Tryd.prog.info? 36).map (·.bytes) = some 184 := by kernel_rfl
theorem tZ36 : yU Tryd.prog 36 z36 := ⟨.agg #[.int .u8 0, .int .u8 0, .int .u8 0, .int .u8 0, .int .u8 0, .int .u8 0, .int .u8 0, .int .u8 0, .int .u8 0, .int .u8 0, .int .u8 0, .int .u8 0, .int .u8 0, .int .u8 0, .int .u8 0, .int .u8 0, .int .u8 0, .int .u8 0, .int .u8 0, .int .u8 0, .int .u8 0, .int .u8 0, .int .u8 0, .int .u8 0, .int .u8 0, .int .u8 0, .int .u8 0, .int .u8 0, .int .u8 0, .int .u8 0, .int .u8 0, .int .u8 0, .string .empty, .string .empty, .int .i64 0, .int .u64 0, .int .u64 0, .slice none 0 0, .slice none 0 0, .slice none 0 0, .int .i64 0, .string .empty], by kernel_rfl, by kernel_rfl⟩
def zs36 : AV := .agg [.arr 16 (List.replicate 16 0), .arr 8 (List.replicate 8 0), .arr 8 (List.replicate 8 0), .v (.string .empty), .v (.string .empty), .v (.int .i64 0), .v (.int .u64 0), .v (.int .u64 0), .sl 7 [], .sl 3 [], .sl 26 [], .agg [.v (.int .i64 0), .v (.string .empty)]]
theorem tU36 : yU Tryd.prog 36 zs36 := ⟨.agg #[.int .u8 0, .int .u8 0, .int .u8 0, .int .u8 0, .int .u8 0, .int .u8 0, .int .u8 0, .int .u8 0, .int .u8 0, .int .u8 0, .int .u8 0, .int .u8 0, .int .u8 0, .int .u8 0, .int .u8 0, .int .u8 0, .int .u8 0, .int .u8 0, .int .u8 0, .int .u8 0, .int .u8 0, .int .u8 0, .int .u8 0, .int .u8 0, .int .u8 0, .int .u8 0, .int .u8 0, .int .u8 0, .int .u8 0, .int .u8 0, .int .u8 0, .int .u8 0, .string .empty, .string .empty, .int .i64 0, .int .u64 0, .int .u64 0, .slice none 0 0, .slice none 0 0, .slice none 0 0, .int .i64 0, .string .empty], by kernel_rfl, by kernel_rfl⟩
theorem fa36_0 : fieldAt Tryd.prog 36 0 0 16 true := ⟨_, _, Tryd.underlying36, rfl, rfl, tS26, tA26⟩
theorem fa36_1 : fieldAt Tryd.prog 36 1 16 8 true := ⟨_, _, Tryd.underlying36, rfl, rfl, tS28, tA28⟩
theorem fa36_2 : fieldAt Tryd.prog 36 2 24 8 true := ⟨_, _, Tryd.underlying36, rfl, rfl, tS28, tA28⟩
theorem fa36_3 : fieldAt Tryd.prog 36 3 32 1 false := ⟨_, _, Tryd.underlying36, rfl, rfl, tS9, tA9⟩
theorem fa36_4 : fieldAt Tryd.prog 36 4 33 1 false := ⟨_, _, Tryd.underlying36, rfl, rfl, tS9, tA9⟩
theorem fa36_5 : fieldAt Tryd.prog 36 5 34 1 false := ⟨_, _, Tryd.underlying36, rfl, rfl, tS3, tA3⟩
theorem fa36_6 : fieldAt Tryd.prog 36 6 35 1 false := ⟨_, _, Tryd.underlying36, rfl, rfl, tS29, tA29⟩
theorem fa36_7 : fieldAt Tryd.prog 36 7 36 1 false := ⟨_, _, Tryd.underlying36, rfl, rfl, tS29, tA29⟩
theorem fa36_8 : fieldAt Tryd.prog 36 8 37 1 false := ⟨_, _, Tryd.underlying36, rfl, rfl, tS30, tA30⟩
theorem fa36_9 : fieldAt Tryd.prog 36 9 38 1 false := ⟨_, _, Tryd.underlying36, rfl, rfl, tS31, tA31⟩
theorem fa36_10 : fieldAt Tryd.prog 36 10 39 1 false := ⟨_, _, Tryd.underlying36, rfl, rfl, tS32, tA32⟩
theorem fa36_11 : fieldAt Tryd.prog 36 11 40 2 true := ⟨_, _, Tryd.underlying36, rfl, rfl, tS34, tA34⟩
theorem pl36 : xV Tryd.prog (Program.fieldsOf Tryd.prog 36).toList = some [(0, 16), (16, 8), (24, 8), (32, 1), (33, 1), (34, 1), (35, 1), (36, 1), (37, 1), (38, 1), (39, 1), (40, 2)] := by kernel_rfl
theorem us36 : Tryd.prog.underlying 36 = some (.struct (Program.fieldsOf Tryd.prog 36)) := by kernel_rfl
theorem tA44 : y8 Tryd.prog 44 = some false := by kernel_rfl
theorem tS44 : zq Tryd.prog 44 = some 1 := by kernel_rfl
theorem tA59 : y8 Tryd.prog 59 = some false := by kernel_rfl
theorem tS59 : zq Tryd.prog 59 = some 1 := by kernel_rfl
theorem tA61 : y8 Tryd.prog 61 = some true := by kernel_rfl
theorem tS61 : zq Tryd.prog 61 = some 2 := by kernel_rfl
def z61 : AV := .agg [.v (.slice none 0 0), .v (.slice none 0 0)]
theorem zv61 : xT Tryd.prog 61 = some (.agg #[.slice none 0 0, .slice none 0 0]) := by kernel_rfl
theorem by61 : (Tryd.prog.info? 61).map (·.bytes) = some 48 := by kernel_rfl
theorem tZ61 : yU Tryd.prog 61 z61 := ⟨.agg #[.slice none 0 0, .slice none 0 0], by kernel_rfl, by kernel_rfl⟩
def zs61 : AV := .agg [.sl 7 [], .sl 3 []]
theorem tU61 : yU Tryd.prog 61 zs61 := ⟨.agg #[.slice none 0 0, .slice none 0 0], by kernel_rfl, by kernel_rfl⟩
theorem fa61_0 : fieldAt Tryd.prog 61 0 0 1 false := ⟨_, _, Tryd.underlying61, rfl, rfl, tS30, tA30⟩
theorem fa61_1 : fieldAt Tryd.prog 61 1 1 1 false := ⟨_, _, Tryd.underlying61, rfl, rfl, tS59, tA59⟩
theorem pl61 : xV Tryd.prog (Program.fieldsOf Tryd.prog 61).toList = some [(0, 1), (1, 1)] := by kernel_rfl
theorem us61 : Tryd.prog.underlying 61 = some (.struct (Program.fieldsOf Tryd.prog 61)) := by kernel_rfl
theorem tA64 : y8 Tryd.prog 64 = some true := by kernel_rfl
theorem tS64 : zq Tryd.prog 64 = some 3 := by kernel_rfl
def z64 : AV := .agg [.v (.string .empty), .v (.string .empty), .v (.slice none 0 0)]
theorem tZ64 : yU Tryd.prog 64 z64 := ⟨.agg #[.string .empty, .string .empty, .slice none 0 0], by kernel_rfl, by kernel_rfl⟩
def zs64 : AV := .agg [.v (.string .empty), .v (.string .empty), .sl 42 []]
theorem tU64 : yU Tryd.prog 64 zs64 := ⟨.agg #[.string .empty, .string .empty, .slice none 0 0], by kernel_rfl, by kernel_rfl⟩
theorem fa64_0 : fieldAt Tryd.prog 64 0 0 1 false := ⟨_, _, Tryd.underlying64, rfl, rfl, tS9, tA9⟩
theorem fa64_1 : fieldAt Tryd.prog 64 1 1 1 false := ⟨_, _, Tryd.underlying64, rfl, rfl, tS9, tA9⟩
theorem fa64_2 : fieldAt Tryd.prog 64 2 2 1 false := ⟨_, _, Tryd.underlying64, rfl, rfl, tS44, tA44⟩
theorem pl64 : xV Tryd.prog (Program.fieldsOf Tryd.prog 64).toList = some [(0, 1), (1, 1), (2, 1)] := by kernel_rfl
theorem us64 : Tryd.prog.underlying 64 = some (.struct (Program.fieldsOf Tryd.prog 64)) := by kernel_rfl
theorem tA66 : y8 Tryd.prog 66 = some true := by kernel_rfl
theorem tS66 : zq Tryd.prog 66 = some 3 := by kernel_rfl
def z66 : AV := .agg [.v (.int .u64 0), .v (.string .empty), .v (.slice none 0 0)]
theorem zv66 : xT Tryd.prog 66 = some (.agg #[.int .u64 0, .string .empty, .slice none 0 0]) := by kernel_rfl
theorem by66 : (Tryd.prog.info? 66).map (·.bytes) = some 48 := by kernel_rfl
theorem tZ66 : yU Tryd.prog 66 z66 := ⟨.agg #[.int .u64 0, .string .empty, .slice none 0 0], by kernel_rfl, by kernel_rfl⟩
def zs66 : AV := .agg [.v (.int .u64 0), .v (.string .empty), .sl 7 []]
theorem tU66 : yU Tryd.prog 66 zs66 := ⟨.agg #[.int .u64 0, .string .empty, .slice none 0 0], by kernel_rfl, by kernel_rfl⟩
theorem fa66_0 : fieldAt Tryd.prog 66 0 0 1 false := ⟨_, _, Tryd.underlying66, rfl, rfl, tS29, tA29⟩
theorem fa66_1 : fieldAt Tryd.prog 66 1 1 1 false := ⟨_, _, Tryd.underlying66, rfl, rfl, tS9, tA9⟩
theorem fa66_2 : fieldAt Tryd.prog 66 2 2 1 false := ⟨_, _, Tryd.underlying66, rfl, rfl, tS30, tA30⟩
theorem pl66 : xV Tryd.prog (Program.fieldsOf Tryd.prog 66).toList = some [(0, 1), (1, 1), (2, 1)] := by kernel_rfl
theorem us66 : Tryd.prog.underlying 66 = some (.struct (Program.fieldsOf Tryd.prog 66)) := by kernel_rfl
theorem tA68 : y8 Tryd.prog 68 = some true := by kernel_rfl
theorem tS68 : zq Tryd.prog 68 = some 26 := by kernel_rfl
def z68 : AV := .agg [.arr 16 (List.replicate 16 0), .arr 8 (List.replicate 8 0), .v (.string .empty), .v (.slice none 0 0)]
theorem zv68 : xT Tryd.prog 68 = some (.agg #[.int .u8 0, .int .u8 0, .int .u8 0, .int .u8 0, .int .u8 0, .int .u8 0, .int .u8 0, .int .u8 0, .int .u8 0, .int .u8 0, .int .u8 0, .int .u8 0, .int .u8 0, .int .u8 0, .int .u8 0, .int .u8 0, .int .u8 0, .int .u8 0, .int .u8 0, .int .u8 0, .int .u8 0, .int .u8 0, .int .u8 0, .int .u8 0, .string .empty, .slice none 0 0]) := by kernel_rfl
theorem by68 : (Tryd.prog.info? 68).map (·.bytes) = some 64 := by kernel_rfl
theorem tZ68 : yU Tryd.prog 68 z68 := ⟨.agg #[.int .u8 0, .int .u8 0, .int .u8 0, .int .u8 0, .int .u8 0, .int .u8 0, .int .u8 0, .int .u8 0, .int .u8 0, .int .u8 0, .int .u8 0, .int .u8 0, .int .u8 0, .int .u8 0, .int .u8 0, .int .u8 0, .int .u8 0, .int .u8 0, .int .u8 0, .int .u8 0, .int .u8 0, .int .u8 0, .int .u8 0, .int .u8 0, .string .empty, .slice none 0 0], by kernel_rfl, by kernel_rfl⟩
def zs68 : AV := .agg [.arr 16 (List.replicate 16 0), .arr 8 (List.replicate 8 0), .v (.string .empty), .sl 7 []]
theorem tU68 : yU Tryd.prog 68 zs68 := ⟨.agg #[.int .u8 0, .int .u8 0, .int .u8 0, .int .u8 0, .int .u8 0, .int .u8 0, .int .u8 0, .int .u8 0, .int .u8 0, .int .u8 0, .int .u8 0, .int .u8 0, .int .u8 0, .int .u8 0, .int .u8 0, .int .u8 0, .int .u8 0, .int .u8 0, .int .u8 0, .int .u8 0, .int .u8 0, .int .u8 0, .int .u8 0, .int .u8 0, .string .empty, .slice none 0 0], by kernel_rfl, by kernel_rfl⟩
theorem fa68_0 : fieldAt Tryd.prog 68 0 0 16 true := ⟨_, _, Tryd.underlying68, rfl, rfl, tS26, tA26⟩
theorem fa68_1 : fieldAt Tryd.prog 68 1 16 8 true := ⟨_, _, Tryd.underlying68, rfl, rfl, tS28, tA28⟩
theorem fa68_2 : fieldAt Tryd.prog 68 2 24 1 false := ⟨_, _, Tryd.underlying68, rfl, rfl, tS9, tA9⟩
theorem fa68_3 : fieldAt Tryd.prog 68 3 25 1 false := ⟨_, _, Tryd.underlying68, rfl, rfl, tS30, tA30⟩
theorem pl68 : xV Tryd.prog (Program.fieldsOf Tryd.prog 68).toList = some [(0, 16), (16, 8), (24, 1), (25, 1)] := by kernel_rfl
theorem us68 : Tryd.prog.underlying 68 = some (.struct (Program.fieldsOf Tryd.prog 68)) := by kernel_rfl
theorem tA69 : y8 Tryd.prog 69 = some false := by kernel_rfl
theorem tS69 : zq Tryd.prog 69 = some 1 := by kernel_rfl
theorem tA71 : y8 Tryd.prog 71 = some true := by kernel_rfl
theorem tS71 : zq Tryd.prog 71 = some 6 := by kernel_rfl
def z71 : AV := .agg [.v (.int .u8 0), .v (.string .empty), .v (.int .i64 0), .v (.int .u64 0), .v (.slice none 0 0), .v (.slice none 0 0)]
theorem tZ71 : yU Tryd.prog 71 z71 := ⟨.agg #[.int .u8 0, .string .empty, .int .i64 0, .int .u64 0, .slice none 0 0, .slice none 0 0], by kernel_rfl, by kernel_rfl⟩
def zs71 : AV := .agg [.v (.int .u8 0), .v (.string .empty), .v (.int .i64 0), .v (.int .u64 0), .sl 6 [], .sl 7 []]
theorem tU71 : yU Tryd.prog 71 zs71 := ⟨.agg #[.int .u8 0, .string .empty, .int .i64 0, .int .u64 0, .slice none 0 0, .slice none 0 0], by kernel_rfl, by kernel_rfl⟩
theorem fa71_0 : fieldAt Tryd.prog 71 0 0 1 false := ⟨_, _, Tryd.underlying71, rfl, rfl, tS5, tA5⟩
theorem fa71_1 : fieldAt Tryd.prog 71 1 1 1 false := ⟨_, _, Tryd.underlying71, rfl, rfl, tS9, tA9⟩
theorem fa71_2 : fieldAt Tryd.prog 71 2 2 1 false := ⟨_, _, Tryd.underlying71, rfl, rfl, tS3, tA3⟩
theorem fa71_3 : fieldAt Tryd.prog 71 3 3 1 false := ⟨_, _, Tryd.underlying71, rfl, rfl, tS29, tA29⟩
theorem fa71_4 : fieldAt Tryd.prog 71 4 4 1 false := ⟨_, _, Tryd.underlying71, rfl, rfl, tS69, tA69⟩
theorem fa71_5 : fieldAt Tryd.prog 71 5 5 1 false := ⟨_, _, Tryd.underlying71, rfl, rfl, tS30, tA30⟩
theorem pl71 : xV Tryd.prog (Program.fieldsOf Tryd.prog 71).toList = some [(0, 1), (1, 1), (2, 1), (3, 1), (4, 1), (5, 1)] := by kernel_rfl
theorem us71 : Tryd.prog.underlying 71 = some (.struct (Program.fieldsOf Tryd.prog 71)) := by kernel_rfl
theorem tA73 : y8 Tryd.prog 73 = some true := by kernel_rfl
theorem tS73 : zq Tryd.prog 73 = some 7 := by kernel_rfl
def z73 : AV := .agg [.v (.string .empty), .agg [.v (.int .u8 0), .v (.string .empty), .v (.int .i64 0), .v (.int .u64 0), .v (.slice none 0 0), .v (.slice none 0 0)]]
theorem zv73 : xT Tryd.prog 73 = some (.agg #[.string .empty, .int .u8 0, .string .empty, .int .i64 0, .int .u64 0, .slice none 0 0, .slice none 0 0]) := by kernel_rfl
theorem by73 : (Tryd.prog.info? 73).map (·.bytes) = some 104 := by kernel_rfl
theorem tZ73 : yU Tryd.prog 73 z73 := ⟨.agg #[.string .empty, .int .u8 0, .string .empty, .int .i64 0, .int .u64 0, .slice none 0 0, .slice none 0 0], by kernel_rfl, by kernel_rfl⟩
def zs73 : AV := .agg [.v (.string .empty), .agg [.v (.int .u8 0), .v (.string .empty), .v (.int .i64 0), .v (.int .u64 0), .sl 6 [], .sl 7 []]]
theorem tU73 : yU Tryd.prog 73 zs73 := ⟨.agg #[.string .empty, .int .u8 0, .string .empty, .int .i64 0, .int .u64 0, .slice none 0 0, .slice none 0 0], by kernel_rfl, by kernel_rfl⟩
theorem fa73_0 : fieldAt Tryd.prog 73 0 0 1 false := ⟨_, _, Tryd.underlying73, rfl, rfl, tS9, tA9⟩
theorem fa73_1 : fieldAt Tryd.prog 73 1 1 6 true := ⟨_, _, Tryd.underlying73, rfl, rfl, tS71, tA71⟩
theorem pl73 : xV Tryd.prog (Program.fieldsOf Tryd.prog 73).toList = some [(0, 1), (1, 6)] := by kernel_rfl
theorem us73 : Tryd.prog.underlying 73 = some (.struct (Program.fieldsOf Tryd.prog 73)) := by kernel_rfl
theorem tA81 : y8 Tryd.prog 81 = some true := by kernel_rfl
theorem tS81 : zq Tryd.prog 81 = some 2 := by kernel_rfl
def z81 : AV := .agg [.v (.int .u64 0), .v (.int .u64 0)]
theorem tZ81 : yU Tryd.prog 81 z81 := ⟨.agg #[.int .u64 0, .int .u64 0], by kernel_rfl, by kernel_rfl⟩
def zs81 : AV := .agg [.v (.int .u64 0), .v (.int .u64 0)]
theorem tU81 : yU Tryd.prog 81 zs81 := ⟨.agg #[.int .u64 0, .int .u64 0], by kernel_rfl, by kernel_rfl⟩
theorem fa81_0 : fieldAt Tryd.prog 81 0 0 1 false := ⟨_, _, Tryd.underlying81, rfl, rfl, tS29, tA29⟩
theorem fa81_1 : fieldAt Tryd.prog 81 1 1 1 false := ⟨_, _, Tryd.underlying81, rfl, rfl, tS29, tA29⟩
theorem pl81 : xV Tryd.prog (Program.fieldsOf Tryd.prog 81).toList = some [(0, 1), (1, 1)] := by kernel_rfl
theorem us81 : Tryd.prog.underlying 81 = some (.struct (Program.fieldsOf Tryd.prog 81)) := by kernel_rfl
theorem tA90 : y8 Tryd.prog 90 = some false := by kernel_rfl
theorem tS90 : zq Tryd.prog 90 = some 1 := by kernel_rfl
def z90 : AV := .v (.slice none 0 0)
theorem tZ90 : yU Tryd.prog 90 z90 := ⟨.slice none 0 0, by kernel_rfl, by kernel_rfl⟩
theorem tA92 : y8 Tryd.prog 92 = some false := by kernel_rfl
theorem tS92 : zq Tryd.prog 92 = some 1 := by kernel_rfl
def z94 : AV := .agg [.v (.map none), .v (.slice none 0 0)]
theorem tZ94 : yU Tryd.prog 94 z94 := ⟨.agg #[.map none, .slice none 0 0], by kernel_rfl, by kernel_rfl⟩
theorem fa94_0 : fieldAt Tryd.prog 94 0 0 1 false := ⟨_, _, Tryd.underlying94, rfl, rfl, tS92, tA92⟩
theorem fa94_1 : fieldAt Tryd.prog 94 1 1 1 false := ⟨_, _, Tryd.underlying94, rfl, rfl, tS22, tA22⟩
theorem pl94 : xV Tryd.prog (Program.fieldsOf Tryd.prog 94).toList = some [(0, 1), (1, 1)] := by kernel_rfl
theorem us94 : Tryd.prog.underlying 94 = some (.struct (Program.fieldsOf Tryd.prog 94)) := by kernel_rfl
def z136 : AV := .v (.string .empty)
theorem zv136 : xT Tryd.prog 136 = some (.string .empty) := by kernel_rfl
theorem tZ136 : yU Tryd.prog 136 z136 := ⟨.string .empty, by kernel_rfl, by kernel_rfl⟩
theorem nI136 : wo Tryd.prog 136 := ⟨_, Tryd.underlying136, rfl⟩
def z137 : AV := .v (.string .empty)
theorem zv137 : xT Tryd.prog 137 = some (.string .empty) := by kernel_rfl
theorem tZ137 : yU Tryd.prog 137 z137 := ⟨.string .empty, by kernel_rfl, by kernel_rfl⟩
theorem nI137 : wo Tryd.prog 137 := ⟨_, Tryd.underlying137, rfl⟩
def z147 : AV := .v (.slice none 0 0)
theorem zv147 : xT Tryd.prog 147 = some (.slice none 0 0) := by kernel_rfl
theorem tZ147 : yU Tryd.prog 147 z147 := ⟨.slice none 0 0, by kernel_rfl, by kernel_rfl⟩
theorem nI147 : wo Tryd.prog 147 := ⟨_, Tryd.underlying147, rfl⟩
theorem nI148 : wo Tryd.prog 148 := ⟨_, Tryd.underlying148, rfl⟩
def z164 : AV := .arr 20 (List.replicate 20 0)
theorem tZ164 : yU Tryd.prog 164 z164 := ⟨.agg #[.int .u8 0, .int .u8 0, .int .u8 0, .int .u8 0, .int .u8 0, .int .u8 0, .int .u8 0, .int .u8 0, .int .u8 0, .int .u8 0, .int .u8 0, .int .u8 0, .int .u8 0, .int .u8 0, .int .u8 0, .int .u8 0, .int .u8 0, .int .u8 0, .int .u8 0, .int .u8 0], by kernel_rfl, by kernel_rfl⟩
end Go.Proofs
namespace Go.Al
open Go.RowKit
def AVT (P : Program) : Nat → TypeId → AV → Prop
  | 0, _, _ => False
  | f + 1, T, X =>
    match P.underlying T with
    | some .bool => ∃ b, X = .v (.bool b)
    | some (.int k) => ∃ n, X = .v (.int k n) ∧ (Lit.int k n).wf = true
    | some .string => ∃ s : ByteArray, X = .v (.string s) ∧ s.size ≤ maxLen
    | some (.slice e) => ∃ l, X = .sl (P.cellsOf e) l ∧ ∀ x ∈ l, AVT P f e x
    | some (.struct fs) => ∃ l, X = .agg l ∧ l.length = fs.toList.length ∧ ∀ (j : Nat) fl x, fs.toList[j]? = some fl → l[j]? = some x → AVT P f fl.type x
    | some (.array n e) => match P.underlying e with
      | some (.int .i64) => ∃ l : List Int, X = .agg (l.map fun x => .v (.int .i64 x)) ∧ l.length = n ∧ ∀ x ∈ l, (Lit.int .i64 x).wf = true
      | _ => ∃ l : List UInt8, X = .arr n l ∧ l.length = n
    | _ => False
def dataTys (P : Program) (S : List TypeId) : Bool := S.all fun t => decide (t < P.types.size) && match P.underlying t with
  | some .bool => true
  | some (.int _) => true
  | some .string => true
  | some (.slice e) => S.contains e && decide (0 < P.cellsOf e)
  | some (.struct fs) => fs.toList.all fun f => S.contains f.type
  | some (.array _ e) => decide (P.cellsOf e = 1) && (match P.underlying e with | some (.int .u8) => true | some (.int .i64) => true | _ => false)
  | _ => false
theorem repM_of {w : World} {I : Nat → Nat → Prop} {n : Nat} : ∀ (l : List AV) (b o : Nat), (∀ i x, l[i]? = some x → ∃ c, c.length = n ∧ RepC w I x c ∧ yf w I b (o + i * n) c) → RepM w I n l b o
  | [], _, _, _ => by simp only [RepM]
  | p :: ps, b, o, h => by
    simp only [RepM]
    refine ⟨by simpa using h 0 p rfl, repM_of ps b (o + n) fun i x hx => ?_⟩
    have := h (i + 1) x (by simpa using hx)
    rw [show o + n + i * n = o + (i + 1) * n from by rw [Nat.add_mul]; omega]
    exact this
theorem list_of {α : Type} {Q : Nat → α → Prop} : ∀ (n : Nat), (∀ i, i < n → ∃ x, Q i x) → ∃ l : List α, l.length = n ∧ ∀ i x, l[i]? = some x → Q i x
  | 0, _ => ⟨[], rfl, fun i x h => by simp at h⟩
  | n + 1, h => by
    obtain ⟨l, h1, h2⟩ := list_of n fun i hi => h i (by omega)
    obtain ⟨x, hx⟩ := h n (by omega)
    refine ⟨l ++ [x], by simp [h1], fun i y hy => ?_⟩
    rcases Nat.lt_or_ge i l.length with hi | hi
    · rw [List.getElem?_append_left hi] at hy; exact h2 i y hy
    · rw [List.getElem?_append_right hi] at hy
      have h3 : i - l.length < 1 := by have := (List.getElem?_eq_some_iff.1 hy).1; simpa using this
      have h4 : i - l.length = 0 := by omega
      rw [h4] at hy
      simp at hy
      subst hy
      have : i = n := by omega
      rw [this]; exact hx
theorem mapM_get {α β : Type} {f : α → Option β} : ∀ {l : List α} {r : List β}, l.mapM f = some r → ∀ (i : Nat) (x : α), l[i]? = some x → ∃ y, r[i]? = some y ∧ f x = some y := by
  intro l
  induction l with
  | nil => intro r _ i x h; simp at h
  | cons a az ih =>
    intro r h i x hx
    rw [List.mapM_cons] at h
    cases ha : f a with
    | none => simp [ha] at h
    | some b =>
      cases has : az.mapM f with
      | none => simp [ha, has] at h
      | some bs =>
        simp [ha, has] at h
        subst h
        cases i with
        | zero => simp at hx; subst hx; exact ⟨b, rfl, ha⟩
        | succ i => simpa using ih has i x (by simpa using hx)
section
variable {H : Type} {enc : TypeId × Value → H} {P : Program} {w : World} {S : List TypeId}
theorem cells_at {a : Addr} {n : Nat} {cs : List Value} (h : w.cells? 0 a n = some cs) (h0 : 0 < n) : a.spot = none ∧ cs.length = n ∧ a.block < w.heap.size ∧ yf w (fun b _ => b < w.heap.size) a.block a.off cs := by
  have hb := World.cells?_block h h0
  obtain ⟨_, hl, hc⟩ := World.cells?_some h
  have hsp : a.spot = none := by
    have h1 := hc 0 h0
    obtain ⟨c, hc0⟩ : ∃ c, cs[0]? = some c := by
      cases cs with
      | nil => simp at hl; omega
      | cons c _ => exact ⟨c, rfl⟩
    rw [hc0] at h1
    simp only [Addr.add, if_true] at h1
    simp only [World.cell?] at h1
    split at h1
    · cases hs : a.spot with
      | none => rfl
      | some s => simp [hs] at h1
    · cases h1
  refine ⟨hsp, hl, hb, fun j hj => ⟨?_, hb⟩⟩
  have h1 := hc j (by omega)
  have e : a.add j = ⟨a.block, a.off + j, none⟩ := by
    obtain ⟨b, o, s⟩ := a
    simp only at hsp; subst hsp
    exact yp b o j
  rw [e, List.getElem?_eq_getElem hj] at h1
  exact h1
theorem open_fields {r : TypeId → List Value → Option (DataW H × List MemPlace)} {A : TypeId → AV → Prop} {I : Nat → Nat → Prop} {cs : List Value} :
    ∀ (fs : List Field) (off : Nat) (xs : List (DataW H × List MemPlace)), (fs.mapM fun f => r f.type ((cs.drop f.offset).take (P.cellsOf f.type))) = some xs →
    (∀ f ∈ fs, ∀ c x, c.length = P.cellsOf f.type → r f.type c = some x → ∃ X, RepC w I X c ∧ A f.type X) →
    (∀ (j : Nat) f, fs[j]? = some f → f.offset = off + ((fs.take j).map fun f => P.cellsOf f.type).sum) → off + (fs.map fun f => P.cellsOf f.type).sum = cs.length →
    ∃ l, l.length = fs.length ∧ y_ w I l (cs.drop off) ∧ ∀ (j : Nat) fl x, fs[j]? = some fl → l[j]? = some x → A fl.type x
  | [], off, xs, _, _, _, hs => ⟨[], rfl, by simp at hs; simp only [y_]; exact List.drop_of_length_le (by omega), fun j fl x h => by simp at h⟩
  | f :: fs, off, xs, hm, hr, ho, hs => by
    simp only [List.map_cons, List.sum_cons] at hs
    rw [List.mapM_cons] at hm
    cases h1 : r f.type ((cs.drop f.offset).take (P.cellsOf f.type)) with
    | none => simp [h1] at hm
    | some y =>
      cases h2 : fs.mapM fun f => r f.type ((cs.drop f.offset).take (P.cellsOf f.type)) with
      | none => simp [h1, h2] at hm
      | some ys =>
        have hoff : f.offset = off := by simpa using ho 0 f rfl
        rw [hoff] at h1
        obtain ⟨X, k1, k2⟩ := hr f List.mem_cons_self _ y (by rw [List.length_take, List.length_drop]; omega) h1
        obtain ⟨l, k3, k4, k5⟩ := open_fields fs (off + P.cellsOf f.type) ys h2 (fun g hg => hr g (List.mem_cons_of_mem _ hg)) (fun j g hj => by
          have := ho (j + 1) g (by simpa using hj)
          simp only [List.take_succ_cons, List.map_cons, List.sum_cons] at this
          omega) (by omega)
        refine ⟨X :: l, by simp [k3], ?_, fun j fl x hj hx => ?_⟩
        · simp only [y_]
          refine ⟨_, _, ?_, k1, k4⟩
          rw [← List.drop_drop, List.take_append_drop]
        · cases j with
          | zero => simp at hj hx; subst hj; subst hx; exact k2
          | succ j => exact k5 j fl x (by simpa using hj) (by simpa using hx)
theorem repCs_ints {w : World} {I : Nat → Nat → Prop} : ∀ l : List Int, y_ w I (l.map fun x => .v (.int .i64 x)) (l.map fun x => Value.int .i64 x)
  | [] => by simp only [List.map_nil, y_]
  | x :: l => by
    simp only [List.map_cons, y_]
    exact ⟨[.int .i64 x], _, rfl, by simp only [RepC]; exact ⟨rfl, rfl⟩, repCs_ints l⟩
theorem open_av (K : Kids P (· < P.types.size)) (hS : dataTys P S = true) : ∀ (n : Nat) (T : TypeId) (cs : List Value) (x : DataW H × List MemPlace), T ∈ S →
    DataW.trod enc P w 0 (fun _ => true) true n T cs = some x → ∃ X, RepC w (fun b _ => b < w.heap.size) X cs ∧ AVT P n T X := by
  intro n
  induction n with
  | zero => intro T cs x _ h; simp [DataW.trod] at h
  | succ n ih =>
    intro T cs x hT h
    have hd := List.all_eq_true.1 hS T hT
    simp only [Bool.and_eq_true, decide_eq_true_eq] at hd
    obtain ⟨hlt, hd⟩ := hd
    rw [DataW.trod_step] at h
    unfold DataW.trodStep at h
    simp only [AVT]
    split at h
    case h_1 b hu =>
      rw [hu]
      exact ⟨_, by simp only [RepC]; exact ⟨rfl, rfl⟩, b, rfl⟩
    case h_2 k k' m hu =>
      rw [hu]
      split at h
      · rename_i hk
        obtain ⟨rfl, hw⟩ := hk
        exact ⟨_, by simp only [RepC]; exact ⟨rfl, rfl⟩, m, rfl, hw⟩
      · cases h
    case h_3 hu => rw [hu] at hd; cases hd
    case h_4 s hu =>
      rw [hu]
      split at h
      · rename_i hs
        exact ⟨_, by simp only [RepC]; exact ⟨rfl, rfl⟩, s, rfl, hs⟩
      · cases h
    case h_5 hu => rw [hu] at hd; cases hd
    case h_6 hu => rw [hu] at hd; cases hd
    case h_7 e hu =>
      rw [hu]
      exact ⟨.sl (P.cellsOf e) [], by simp only [RepC]; exact ⟨_, rfl, .inl ⟨none, 0, rfl, trivial, Nat.zero_le _, fun _ => rfl⟩⟩, [], rfl, fun x hx => by cases hx⟩
    case h_8 e a len cap hu =>
      rw [hu] at hd ⊢
      simp only [Bool.and_eq_true, decide_eq_true_eq] at hd
      obtain ⟨heS, hce⟩ := hd
      have heS : e ∈ S := by simpa using heS
      simp only at h
      split at h
      · rename_i hc
        obtain ⟨_, hlc, hcm⟩ := hc
        simp only [Option.map_eq_some_iff, Option.bind_eq_some_iff] at h
        obtain ⟨elems, he, rest, hrest, rfl⟩ := h
        rcases Nat.eq_zero_or_pos len with h0 | h0
        · subst h0
          exact ⟨.sl (P.cellsOf e) [], by simp only [RepC]; exact ⟨_, rfl, .inl ⟨some a, cap, rfl, trivial, hcm, fun h => by cases h⟩⟩, [], rfl, fun x hx => by cases hx⟩
        · have one : ∀ i, i < len → ∃ c y, w.cells? 0 (a.add (i * P.cellsOf e)) (P.cellsOf e) = some c ∧ DataW.trod enc P w 0 (fun _ => true) true n e c = some y := by
            intro i hi
            obtain ⟨y, _, hy⟩ := mapM_get he i i (by simp [hi])
            simp only [Option.bind_eq_some_iff] at hy
            obtain ⟨c, h1, h2⟩ := hy
            exact ⟨c, y, h1, h2⟩
          obtain ⟨c0, _, hc0, _⟩ := one 0 h0
          obtain ⟨hsp, _, _, _⟩ := cells_at (by simpa [Addr.add] using hc0) hce
          obtain ⟨b, o, s⟩ := a
          simp only at hsp
          subst hsp
          obtain ⟨l, hl1, hl2⟩ := list_of (Q := fun i X => (∃ c, c.length = P.cellsOf e ∧ RepC w (fun b _ => b < w.heap.size) X c ∧ yf w (fun b _ => b < w.heap.size) b (o + i * P.cellsOf e) c) ∧ AVT P n e X) len (by
            intro i hi
            obtain ⟨c, y, h1, h2⟩ := one i hi
            obtain ⟨X, k1, k2⟩ := ih e c y heS h2
            rw [yp] at h1
            obtain ⟨_, k3, _, k4⟩ := cells_at h1 hce
            exact ⟨X, ⟨c, k3, k1, k4⟩, k2⟩)
          refine ⟨.sl (P.cellsOf e) l, ?_, l, rfl, fun x hx => ?_⟩
          · simp only [RepC]
            refine ⟨_, rfl, .inr ⟨b, o, cap, by rw [hl1], by omega, hcm, repM_of l b o fun i x hx => (hl2 i x hx).1⟩⟩
          · obtain ⟨i, hi⟩ := List.getElem?_of_mem hx
            exact (hl2 i x hi).2
      · cases h
    case h_9 fs hu =>
      rw [hu] at hd ⊢
      split at h
      · rename_i hlen
        simp only [Option.map_eq_some_iff] at h
        obtain ⟨xs, hx, rfl⟩ := h
        obtain ⟨_, k1, k2⟩ := K.struct hlt hu
        obtain ⟨l, k3, k4, k5⟩ := open_fields (w := w) (I := fun b _ => b < w.heap.size) (A := fun t X => AVT P n t X) fs.toList 0 xs hx
          (fun f hf c x _ hr => ih f.type c x (by simpa using List.all_eq_true.1 hd f hf) hr)
          (fun j f hj => by rw [Nat.zero_add]; exact k2 j f hj) (by rw [Nat.zero_add, ← k1]; exact hlen.symm)
        exact ⟨.agg l, by simpa only [RepC, List.drop_zero] using k4, l, rfl, k3, k5⟩
      · cases h
    case h_10 cs _ _ m e hu =>
      rw [hu] at hd ⊢
      simp only [Bool.and_eq_true, decide_eq_true_eq] at hd
      obtain ⟨hce, hub⟩ := hd
      split at h
      · rename_i hlen
        simp only [Option.map_eq_some_iff] at h
        obtain ⟨xs, hx, rfl⟩ := h
        have hcl : cs.length = m := by rw [hlen, (K.array hlt hu).2, hce, Nat.mul_one]
        have hub' : P.underlying e = some (.int .u8) ∨ P.underlying e = some (.int .i64) := by
          cases he : P.underlying e with
          | none => rw [he] at hub; cases hub
          | some d =>
            rw [he] at hub
            cases d <;> first | cases hub | skip
            rename_i k
            cases k <;> first | exact .inl rfl | exact .inr rfl | cases hub
        rcases hub' with hub' | hub'
        case inr =>
          simp only [hub']
          obtain ⟨l, hl1, hl2⟩ := list_of (Q := fun i (b : Int) => cs[i]? = some (.int .i64 b) ∧ (Lit.int .i64 b).wf = true) m (by
            intro i hi
            obtain ⟨y, _, hy⟩ := mapM_get hx i i (by simp [hi])
            rw [hce, Nat.mul_one] at hy
            have e1 : (cs.drop i).take 1 = [cs[i]] := by
              rw [List.drop_eq_getElem_cons (by omega)]; rfl
            rw [e1] at hy
            cases n with
            | zero => simp [DataW.trod] at hy
            | succ n =>
              rw [DataW.trod_step] at hy
              unfold DataW.trodStep at hy
              rw [hub'] at hy
              cases hv : cs[i] with
              | int k q =>
                rw [hv] at hy
                simp only at hy
                split at hy
                · rename_i hk
                  obtain ⟨rfl, hw⟩ := hk
                  exact ⟨q, by rw [List.getElem?_eq_getElem (by omega), hv], hw⟩
                · cases hy
              | _ => rw [hv] at hy; simp at hy)
          have ecs : cs = l.map fun x => Value.int .i64 x := by
            apply List.ext_getElem?
            intro i
            rcases Nat.lt_or_ge i m with hi | hi
            · rw [(hl2 i l[i] (by rw [List.getElem?_eq_getElem])).1, List.getElem?_map, List.getElem?_eq_getElem (by omega)]
              rfl
            · rw [List.getElem?_eq_none (by omega), List.getElem?_eq_none (by simp; omega)]
          refine ⟨.agg (l.map fun x => .v (.int .i64 x)), by simp only [RepC]; rw [ecs]; exact repCs_ints l, l, rfl, hl1, fun x hx => ?_⟩
          obtain ⟨i, hi⟩ := List.getElem?_of_mem hx
          exact (hl2 i x hi).2
        simp only [hub']
        obtain ⟨l, hl1, hl2⟩ := list_of (Q := fun i (b : UInt8) => cs[i]? = some (xi b)) m (by
          intro i hi
          obtain ⟨y, _, hy⟩ := mapM_get hx i i (by simp [hi])
          rw [hce, Nat.mul_one] at hy
          have e1 : (cs.drop i).take 1 = [cs[i]] := by
            rw [List.drop_eq_getElem_cons (by omega)]; rfl
          rw [e1] at hy
          cases n with
          | zero => simp [DataW.trod] at hy
          | succ n =>
            rw [DataW.trod_step] at hy
            unfold DataW.trodStep at hy
            rw [hub'] at hy
            cases hv : cs[i] with
            | int k q =>
              rw [hv] at hy
              simp only at hy
              split at hy
              · rename_i hk
                obtain ⟨rfl, hw⟩ := hk
                refine ⟨UInt8.ofNat q.toNat, ?_⟩
                rw [List.getElem?_eq_getElem (by omega), hv]
                have : 0 ≤ q ∧ q < 256 := by
                  have e1 : IntKind.u8.min = 0 := by decide
                  have e2 : IntKind.u8.max = 255 := by decide
                  simp [Lit.wf, e1, e2] at hw; omega
                simp only [xi, Option.some.injEq, Value.int.injEq, true_and]
                simp [UInt8.toNat_ofNat']
                omega
              · cases hy
            | _ => rw [hv] at hy; simp at hy)
        refine ⟨.arr m l, ?_, l, rfl, hl1⟩
        simp only [RepC]
        refine ⟨?_, hl1⟩
        apply List.ext_getElem?
        intro i
        rcases Nat.lt_or_ge i m with hi | hi
        · rw [hl2 i l[i] (by rw [List.getElem?_eq_getElem]), List.getElem?_map, List.getElem?_eq_getElem (by omega)]
          rfl
        · rw [List.getElem?_eq_none (by omega), List.getElem?_eq_none (by simp; omega)]
      · cases h
    all_goals
      rename_i hu
      first
        | (rw [hu] at hd; cases hd)
        | cases h
        | (exfalso; simp_all)
theorem open_arg (K : Kids P (· < P.types.size)) (hS : dataTys P S = true) {r : Reach} {b0 : Nat} {T : TypeId} {v : Value} {d : DataW H} {ps : List MemPlace} (hT : T ∈ S) (hval : Value.okWide P w r b0 T v)
    (h : DataW.Trod enc P w 0 (fun _ => true) true T v d ps) : ∃ n X, Rep w (fun b _ => b < w.heap.size) X v ∧ AVT P n T X := by
  obtain ⟨n, hn⟩ := h
  obtain ⟨X, h1, h2⟩ := open_av K hS n T _ _ hT hn
  refine ⟨n, X, ⟨_, h1, ?_⟩, h2⟩
  cases n with
  | zero => exact h2.elim
  | succ n =>
    simp only [AVT] at h2
    unfold Value.okWide at hval
    split at h2 <;> (try exact h2.elim) <;> rename_i hu <;> rw [hu] at hval <;> simp only at hval
    · obtain ⟨b, rfl⟩ := h2
      unfold Cell.okWide at hval; rw [hu] at hval; unfold Cell.ok at hval; rw [hu] at hval
      cases v <;> first | rfl | exact hval.elim
    · obtain ⟨b, rfl, _⟩ := h2
      unfold Cell.okWide at hval; rw [hu] at hval; unfold Cell.ok at hval; rw [hu] at hval
      cases v <;> first | rfl | exact hval.elim
    · obtain ⟨b, rfl, _⟩ := h2
      unfold Cell.okWide at hval; rw [hu] at hval; unfold Cell.ok at hval; rw [hu] at hval
      cases v <;> first | rfl | exact hval.elim
    · obtain ⟨l, rfl, _⟩ := h2
      unfold Cell.okWide at hval; rw [hu] at hval; unfold Cell.ok at hval; rw [hu] at hval
      cases v <;> first | rfl | exact hval.elim
    · obtain ⟨l, rfl, _⟩ := h2
      obtain ⟨cs, rfl, _⟩ := hval
      simp [mkV, AV.isAgg, Value.cells]
    · split at h2
      · obtain ⟨l, rfl, _⟩ := h2
        obtain ⟨cs, rfl, _⟩ := hval
        simp [mkV, AV.isAgg, Value.cells]
      · obtain ⟨l, rfl, _⟩ := h2
        obtain ⟨cs, rfl, _⟩ := hval
        simp [mkV, AV.isAgg, Value.cells]
theorem again (K : Kids P (· < P.types.size)) (hz : ∀ t e, t < P.types.size → P.underlying t = some (.slice e) → 0 < P.cellsOf e) {w' : World} (hb : Below w.heap.size w w') :
    ∀ {ts : List TypeId} {vs : List Value} {ds : List (DataW H)} {ps : List MemPlace}, (∀ t ∈ ts, t < P.types.size) → DataW.TrodAll enc P w 0 (fun _ => true) true ts vs ds ps →
      DataW.TrodAll enc P w' 0 (fun b => decide (b < w.heap.size)) true ts vs ds ps := by
  intro ts vs ds ps hT h
  have hlt := h.lt
  have h1 := DataW.TrodAll.respare (spare' := fun b => decide (b < w.heap.size)) K hz hT h (fun p hp => by simpa using hlt p hp)
  have hsame : ∀ p ∈ ps, w.sameAt w' p := fun p hp => by
    have := hb.block p.block (hlt p hp)
    cases p with
    | cell b o => exact World.cell?_of_block (w := w) this
    | map b => exact this
  clear h hlt hT
  have key : ∀ (ts : List TypeId) (vs : List Value) (ds : List (DataW H)) (ps : List MemPlace), DataW.TrodAll enc P w 0 (fun b => decide (b < w.heap.size)) true ts vs ds ps → (∀ p ∈ ps, w.sameAt w' p) →
      DataW.TrodAll enc P w' 0 (fun b => decide (b < w.heap.size)) true ts vs ds ps := by
    intro ts
    induction ts with
    | nil => intro vs ds ps h _; cases vs <;> cases ds <;> exact h
    | cons t ts ih =>
      intro vs ds ps h hs
      cases vs with
      | nil => exact h
      | cons v vs =>
        cases ds with
        | nil => exact h
        | cons d ds =>
          obtain ⟨p, q, ⟨n, hn⟩, h2, e⟩ := h
          exact ⟨p, q, ⟨n, DataW.trod_carry n _ _ _ hn (fun x hx => hs x (by rw [e]; exact List.mem_append_left _ hx))⟩, ih _ _ _ h2 (fun x hx => hs x (by rw [e]; exact List.mem_append_right _ hx)), e⟩
  exact key _ _ _ _ h1 hsame
end
end Go.Al
namespace Go.Proofs
open Go Go.Al
mutual
inductive GV where
  | mk (kind : Int) (text : ByteArray) (num bits : Int) (list : List GV) (map : List GA)
inductive GA where
  | mk (key : ByteArray) (val : GV)
end
def GV.kind : GV → Int | .mk k _ _ _ _ _ => k
def GV.text : GV → ByteArray | .mk _ t _ _ _ _ => t
def GV.num : GV → Int | .mk _ _ n _ _ _ => n
def GV.bits : GV → Int | .mk _ _ _ b _ _ => b
def GV.list : GV → List GV | .mk _ _ _ _ l _ => l
def GV.map : GV → List GA | .mk _ _ _ _ _ m => m
def GA.key : GA → ByteArray | .mk k _ => k
def GA.val : GA → GV | .mk _ v => v
theorem GA.key_mk (k : ByteArray) (v : GV) : (GA.mk k v).key = k := rfl
theorem GA.val_mk (k : ByteArray) (v : GV) : (GA.mk k v).val = v := rfl
theorem GV.kind_mk (k : Int) (t : ByteArray) (n b : Int) (l : List GV) (m : List GA) : (GV.mk k t n b l m).kind = k := rfl
theorem GV.text_mk (k : Int) (t : ByteArray) (n b : Int) (l : List GV) (m : List GA) : (GV.mk k t n b l m).text = t := rfl
theorem GV.num_mk (k : Int) (t : ByteArray) (n b : Int) (l : List GV) (m : List GA) : (GV.mk k t n b l m).num = n := rfl
theorem GV.bits_mk (k : Int) (t : ByteArray) (n b : Int) (l : List GV) (m : List GA) : (GV.mk k t n b l m).bits = b := rfl
theorem GV.list_mk (k : Int) (t : ByteArray) (n b : Int) (l : List GV) (m : List GA) : (GV.mk k t n b l m).list = l := rfl
theorem GV.map_mk (k : Int) (t : ByteArray) (n b : Int) (l : List GV) (m : List GA) : (GV.mk k t n b l m).map = m := rfl
mutual
def avV : GV → AV
  | .mk k t n b l m => .agg [cv k, sv t, iv n, uv b, .sl 6 (avVs l), .sl 7 (avAs m)]
def avVs : List GV → List AV
  | [] => []
  | x :: xs => avV x :: avVs xs
def avA : GA → AV
  | .mk k v => .agg [sv k, avV v]
def avAs : List GA → List AV
  | [] => []
  | x :: xs => avA x :: avAs xs
end
theorem avVs_map : ∀ l : List GV, avVs l = l.map avV
  | [] => rfl
  | x :: xs => by rw [avVs, avVs_map xs]; rfl
theorem avAs_map : ∀ l : List GA, avAs l = l.map avA
  | [] => rfl
  | x :: xs => by rw [avAs, avAs_map xs]; rfl
def GV.av (g : GV) : AV := .agg [cv g.kind, sv g.text, iv g.num, uv g.bits, .sl 6 (g.list.map avV), .sl 7 (g.map.map avA)]
def GA.av (a : GA) : AV := .agg [sv a.key, a.val.av]
theorem avV_eq (g : GV) : avV g = g.av := by
  cases g with
  | mk k t n b l m => rw [avV, avVs_map, avAs_map]; rfl
theorem avA_eq (a : GA) : avA a = a.av := by
  cases a with
  | mk k v => rw [avA, avV_eq]; rfl
mutual
def GV.wt : GV → Nat
  | .mk _ t _ _ l m => 1 + t.size + wtVs l + wtAs m
def wtVs : List GV → Nat
  | [] => 0
  | x :: xs => GV.wt x + wtVs xs
def GA.wt : GA → Nat
  | .mk k v => k.size + GV.wt v
def wtAs : List GA → Nat
  | [] => 0
  | x :: xs => GA.wt x + wtAs xs
end
theorem GV.wt_eq (g : GV) : g.wt = 1 + g.text.size + wtVs g.list + wtAs g.map := by cases g; rw [GV.wt]; rfl
theorem GA.wt_eq (a : GA) : a.wt = a.key.size + a.val.wt := by cases a; rw [GA.wt]; rfl
theorem GV.wt_pos (g : GV) : 1 ≤ g.wt := by rw [g.wt_eq]; omega
theorem GA.wt_pos (a : GA) : 1 ≤ a.wt := by rw [a.wt_eq]; have := a.val.wt_pos; omega
theorem wtVs_append : ∀ l m : List GV, wtVs (l ++ m) = wtVs l + wtVs m
  | [], m => by simp [wtVs]
  | x :: xs, m => by simp only [List.cons_append, wtVs, wtVs_append xs m]; omega
theorem wtAs_append : ∀ l m : List GA, wtAs (l ++ m) = wtAs l + wtAs m
  | [], m => by simp [wtAs]
  | x :: xs, m => by simp only [List.cons_append, wtAs, wtAs_append xs m]; omega
theorem wtVs_mem : ∀ {l : List GV} {x : GV}, x ∈ l → x.wt ≤ wtVs l
  | y :: ys, x, h => by
    rw [wtVs]
    rcases List.mem_cons.1 h with rfl | h
    · omega
    · have := wtVs_mem h; omega
theorem xt : ∀ {l : List GA} {x : GA}, x ∈ l → x.wt ≤ wtAs l
  | y :: ys, x, h => by
    rw [wtAs]
    rcases List.mem_cons.1 h with rfl | h
    · omega
    · have := xt h; omega
theorem xZ : ∀ l : List GV, l.length ≤ wtVs l
  | [] => by simp [wtVs]
  | x :: xs => by rw [wtVs]; have := xZ xs; have := x.wt_pos; simp; omega
theorem yj : ∀ l : List GA, l.length ≤ wtAs l
  | [] => by simp [wtAs]
  | x :: xs => by rw [wtAs]; have := yj xs; have := x.wt_pos; simp; omega
theorem GV.ind {P : GV → Prop} (h : ∀ g : GV, (∀ y ∈ g.list, P y) → (∀ a ∈ g.map, P a.val) → P g) (g : GV) : P g := by
  have key : ∀ n, ∀ g : GV, g.wt ≤ n → P g := by
    intro n
    induction n with
    | zero => intro g hg; have := g.wt_pos; omega
    | succ n ih =>
      intro g hg
      have e := g.wt_eq
      refine h g (fun y hy => ih y ?_) (fun a ha => ih a.val ?_)
      · have := wtVs_mem hy; omega
      · have := xt ha; have := a.wt_eq; omega
  exact key g.wt g (Nat.le_refl _)
mutual
def GV.ok : GV → Prop
  | .mk k t n b l m => (0 ≤ k ∧ k < 256) ∧ t.size ≤ maxLen ∧ (-9223372036854775808 ≤ n ∧ n < 9223372036854775808) ∧ (0 ≤ b ∧ b < 18446744073709551616) ∧ okVs l ∧ okAs m
def okVs : List GV → Prop
  | [] => True
  | x :: xs => GV.ok x ∧ okVs xs
def GA.ok : GA → Prop
  | .mk k v => k.size ≤ maxLen ∧ GV.ok v
def okAs : List GA → Prop
  | [] => True
  | x :: xs => GA.ok x ∧ okAs xs
end
theorem okVs_iff : ∀ {l : List GV}, okVs l ↔ ∀ x ∈ l, x.ok
  | [] => by simp [okVs]
  | x :: xs => by rw [okVs, okVs_iff]; simp
theorem okAs_iff : ∀ {l : List GA}, okAs l ↔ ∀ x ∈ l, x.ok
  | [] => by simp [okAs]
  | x :: xs => by rw [okAs, okAs_iff]; simp
theorem GV.ok_iff (g : GV) : g.ok ↔ (0 ≤ g.kind ∧ g.kind < 256) ∧ g.text.size ≤ maxLen ∧ (-9223372036854775808 ≤ g.num ∧ g.num < 9223372036854775808) ∧ (0 ≤ g.bits ∧ g.bits < 18446744073709551616) ∧ (∀ x ∈ g.list, x.ok) ∧ ∀ x ∈ g.map, x.ok := by
  cases g with
  | mk k t n b l m => rw [GV.ok, okVs_iff, okAs_iff]; rfl
theorem GA.ok_iff (a : GA) : a.ok ↔ a.key.size ≤ maxLen ∧ a.val.ok := by cases a; rw [GA.ok]; rfl
abbrev Bs := List UInt8
def hexD (n : Nat) : UInt8 := UInt8.ofNat (if n < 10 then 48 + n else 87 + n)
def hexB : Bs → Bs
  | [] => []
  | c :: s => hexD (c.toNat / 16) :: hexD (c.toNat % 16) :: hexB s
theorem hexB_append : ∀ s t : Bs, hexB (s ++ t) = hexB s ++ hexB t
  | [], t => rfl
  | c :: s, t => by simp only [List.cons_append, hexB, hexB_append s t]
theorem yV : ∀ s : Bs, (hexB s).length = 2 * s.length
  | [] => rfl
  | c :: s => by simp only [hexB, List.length_cons, yV s]; omega
def be : Nat → Nat → Bs
  | 0, _ => []
  | n + 1, u => be n (u / 256) ++ [UInt8.ofNat (u % 256)]
theorem wa : ∀ n u, (be n u).length = n
  | 0, _ => rfl
  | n + 1, u => by simp [be, wa n]
def natF : Nat → Nat → Bs
  | 0, _ => []
  | f + 1, n => if n < 10 then [UInt8.ofNat (48 + n)] else natF f (n / 10) ++ [UInt8.ofNat (48 + n % 10)]
def natB (n : Nat) : Bs := natF 20 n
def decB (n : Int) : Bs := if n < 0 then 45 :: natB (-n).toNat else natB n.toNat
theorem natF_length : ∀ f n, (natF f n).length ≤ f
  | 0, _ => Nat.le_refl _
  | f + 1, n => by
    rw [natF]
    split
    · simp
    · have := natF_length f (n / 10); simp; omega
theorem decB_length (n : Int) : (decB n).length ≤ 21 := by
  unfold decB natB
  split
  · have := natF_length 20 (-n).toNat; simp; omega
  · have := natF_length 20 n.toNat; omega
def escB (c : UInt8) : Bs := if c = 34 ∨ c = 92 then [92, c] else if c < 32 then 92 :: 117 :: 48 :: 48 :: hexB [c] else [c]
def escs : Bs → Bs
  | [] => []
  | c :: s => escB c ++ escs s
theorem escs_append : ∀ s t : Bs, escs (s ++ t) = escs s ++ escs t
  | [], t => rfl
  | c :: s, t => by simp only [List.cons_append, escs, escs_append s t, List.append_assoc]
theorem escB_length (c : UInt8) : (escB c).length ≤ 6 := by
  unfold escB
  split
  · simp
  · split
    · simp [hexB]
    · simp
theorem escs_length : ∀ s : Bs, (escs s).length ≤ 6 * s.length
  | [] => Nat.le_refl _
  | c :: s => by simp only [escs, List.length_append, List.length_cons]; have := escB_length c; have := escs_length s; omega
def wD (s : Bs) : Bs := 34 :: (escs s ++ [34])
theorem zw (s : Bs) : (wD s).length ≤ 6 * s.length + 2 := by
  unfold wD; simp; have := escs_length s; omega
def lst (s : ByteArray) : Bs := s.data.toList
theorem yK (s : ByteArray) : (lst s).length = s.size := by simp [lst]
theorem xm (l : Bs) : lst (ye l) = l := xM l
theorem strOf_lst (s : ByteArray) : ye (lst s) = s := strOf_data s
def xc (v : GV) : Bs :=
  if v.kind = 1 then lst v.text
  else if v.kind = 2 then (if v.num = 0 then [102, 97, 108, 115, 101] else [116, 114, 117, 101])
  else if v.kind = 3 then decB v.num
  else if v.kind = 4 then 48 :: 120 :: hexB (be 8 v.bits.toNat)
  else if v.kind = 5 then hexB (lst v.text)
  else []
def comma (first : Bool) : Bs := if first then [] else [44]
mutual
def yv : GV → Bs
  | .mk k t n b l m =>
    if k = 0 then [110, 117, 108, 108]
    else if k = 1 ∨ k = 4 ∨ k = 5 then wD (xc (.mk k t n b [] []))
    else if k = 6 then 91 :: (x6 true l ++ [93])
    else if k = 7 then 123 :: (xy true m ++ [125])
    else xc (.mk k t n b [] [])
def x6 : Bool → List GV → Bs
  | _, [] => []
  | f, x :: xs => comma f ++ yv x ++ x6 false xs
def jsonA : GA → Bs
  | .mk k v => wD (lst k) ++ [58] ++ yv v
def xy : Bool → List GA → Bs
  | _, [] => []
  | f, x :: xs => comma f ++ jsonA x ++ xy false xs
end
theorem simpB_bare (g : GV) : xc (.mk g.kind g.text g.num g.bits [] []) = xc g := by cases g; rfl
theorem jsonB_eq (g : GV) : yv g = if g.kind = 0 then [110, 117, 108, 108] else if g.kind = 1 ∨ g.kind = 4 ∨ g.kind = 5 then wD (xc g)
    else if g.kind = 6 then 91 :: (x6 true g.list ++ [93]) else if g.kind = 7 then 123 :: (xy true g.map ++ [125]) else xc g := by
  rw [← simpB_bare g]
  cases g with
  | mk k t n b l m => rw [yv]; rfl
theorem jsonA_eq (a : GA) : jsonA a = wD (lst a.key) ++ [58] ++ yv a.val := by cases a; rw [jsonA]; rfl
theorem jsonVs_snoc : ∀ (l : List GV) (f : Bool) (x : GV), x6 f (l ++ [x]) = x6 f l ++ comma (f && l.isEmpty) ++ yv x
  | [], f, x => by simp [x6]
  | y :: l, f, x => by simp only [List.cons_append, x6, jsonVs_snoc l false x, List.isEmpty_cons, Bool.and_false, Bool.false_and, List.append_assoc]
theorem jsonAs_snoc : ∀ (l : List GA) (f : Bool) (x : GA), xy f (l ++ [x]) = xy f l ++ comma (f && l.isEmpty) ++ jsonA x
  | [], f, x => by simp [xy]
  | y :: l, f, x => by simp only [List.cons_append, xy, jsonAs_snoc l false x, List.isEmpty_cons, Bool.and_false, Bool.false_and, List.append_assoc]
theorem yS (v : GV) : (xc v).length ≤ 21 + 2 * v.text.size := by
  unfold xc
  have := decB_length v.num
  have := yK v.text
  repeat' split
  all_goals first | omega | (simp only [List.length_cons, List.length_nil, yV, wa, yK]; omega)
theorem comma_length (f : Bool) : (comma f).length ≤ 1 := by cases f <;> simp [comma]
theorem xP (g : GV) : (yv g).length + 5 ≤ 150 * g.wt := by
  refine GV.ind (P := fun g => (yv g).length + 5 ≤ 150 * g.wt) ?_ g
  intro g h1 h2
  have e := g.wt_eq
  have hv : ∀ (l : List GV) (f : Bool), (∀ y ∈ l, (yv y).length + 5 ≤ 150 * y.wt) → (x6 f l).length ≤ 150 * wtVs l := by
    intro l
    induction l with
    | nil => intro f _; simp [x6]
    | cons x xs ih =>
      intro f h
      simp only [x6, wtVs, List.length_append]
      have := h x List.mem_cons_self
      have := ih false (fun y hy => h y (List.mem_cons_of_mem _ hy))
      have := comma_length f
      omega
  have ha : ∀ (l : List GA) (f : Bool), (∀ y ∈ l, (yv y.val).length + 5 ≤ 150 * y.val.wt) → (xy f l).length ≤ 150 * wtAs l := by
    intro l
    induction l with
    | nil => intro f _; simp [xy]
    | cons x xs ih =>
      intro f h
      simp only [xy, wtAs, List.length_append, jsonA_eq, List.length_cons, List.length_nil]
      have := h x List.mem_cons_self
      have := ih false (fun y hy => h y (List.mem_cons_of_mem _ hy))
      have := comma_length f
      have := x.wt_eq
      have := zw (lst x.key)
      have := yK x.key
      omega
  have h3 := hv g.list true h1
  have h4 := ha g.map true h2
  have h5 := yS g
  have h6 := zw (xc g)
  rw [jsonB_eq]
  repeat' split
  all_goals first | omega | (simp only [List.length_cons, List.length_append, List.length_nil]; omega)
def textB (v : GV) : Bs := if v.kind = 6 ∨ v.kind = 7 then yv v else xc v
def wx (v : GV) : ByteArray := ye (textB v)
theorem textB_length (v : GV) : (textB v).length ≤ 150 * v.wt := by
  unfold textB
  have := xP v
  have := yS v
  have := v.wt_eq
  split <;> omega
def plainV (v : GV) : GV := .mk 1 (wx v) 0 0 [] []
end Go.Proofs
namespace Go.Proofs
open Go Go.Al
structure GE where
  time : Int
  name : ByteArray
  attrs : List GA
structure GL where
  trace : Bs
  span : Bs
  state : ByteArray
  attrs : List GA
structure GSpan where
  trace : Bs
  id : Bs
  parent : Bs
  state : ByteArray
  name : ByteArray
  kind : Int
  start : Int
  fin : Int
  attrs : List GA
  events : List GE
  links : List GL
  code : Int
  note : ByteArray
structure GScope where
  name : ByteArray
  version : ByteArray
  spans : List GSpan
structure GRes where
  attrs : List GA
  scopes : List GScope
def GE.av (e : GE) : AV := .agg [uv e.time, sv e.name, .sl 7 (e.attrs.map avA)]
def GL.av (e : GL) : AV := .agg [.arr 16 e.trace, .arr 8 e.span, sv e.state, .sl 7 (e.attrs.map avA)]
def GSpan.av (s : GSpan) : AV := .agg [.arr 16 s.trace, .arr 8 s.id, .arr 8 s.parent, sv s.state, sv s.name, iv s.kind, uv s.start, uv s.fin, .sl 7 (s.attrs.map avA), .sl 3 (s.events.map GE.av), .sl 26 (s.links.map GL.av), .agg [iv s.code, sv s.note]]
def GScope.av (s : GScope) : AV := .agg [sv s.name, sv s.version, .sl 42 (s.spans.map GSpan.av)]
def GRes.av (r : GRes) : AV := .agg [.sl 7 (r.attrs.map avA), .sl 3 (r.scopes.map GScope.av)]
def yd (b : List GRes) : AV := .agg [.sl 2 (b.map GRes.av)]
def zv {α : Type} (f : α → Nat) : List α → Nat
  | [] => 0
  | x :: xs => f x + zv f xs
theorem x7 {α : Type} (f : α → Nat) : ∀ l m : List α, zv f (l ++ m) = zv f l + zv f m
  | [], m => by simp [zv]
  | x :: xs, m => by simp only [List.cons_append, zv, x7 f xs m]; omega
theorem yE {α : Type} (f : α → Nat) : ∀ {l : List α} {x : α}, x ∈ l → f x ≤ zv f l
  | y :: ys, x, h => by
    rw [zv]
    rcases List.mem_cons.1 h with rfl | h
    · omega
    · have := yE f h; omega
theorem ya {α : Type} (f : α → Nat) (hf : ∀ x, 1 ≤ f x) : ∀ l : List α, l.length ≤ zv f l
  | [] => by simp [zv]
  | x :: xs => by rw [zv]; have := ya f hf xs; have := hf x; simp; omega
def GE.wt (e : GE) : Nat := 1 + e.name.size + wtAs e.attrs
def GL.wt (e : GL) : Nat := 1 + e.state.size + wtAs e.attrs
def GSpan.wt (s : GSpan) : Nat := 1 + s.state.size + s.name.size + s.note.size + wtAs s.attrs + zv GE.wt s.events + zv GL.wt s.links
def GScope.wt (s : GScope) : Nat := 1 + s.name.size + s.version.size + zv GSpan.wt s.spans
def GRes.wt (r : GRes) : Nat := 1 + wtAs r.attrs + zv GScope.wt r.scopes
def wtB (b : List GRes) : Nat := zv GRes.wt b
def u64 (n : Int) : Prop := 0 ≤ n ∧ n < 18446744073709551616
def i64 (n : Int) : Prop := -9223372036854775808 ≤ n ∧ n < 9223372036854775808
def GE.ok (e : GE) : Prop := u64 e.time ∧ e.name.size ≤ maxLen ∧ ∀ a ∈ e.attrs, a.ok
def GL.ok (e : GL) : Prop := e.trace.length = 16 ∧ e.span.length = 8 ∧ e.state.size ≤ maxLen ∧ ∀ a ∈ e.attrs, a.ok
def GSpan.ok (s : GSpan) : Prop := (s.trace.length = 16 ∧ s.id.length = 8 ∧ s.parent.length = 8) ∧ (s.state.size ≤ maxLen ∧ s.name.size ≤ maxLen ∧ s.note.size ≤ maxLen) ∧ (i64 s.kind ∧ u64 s.start ∧ u64 s.fin ∧ i64 s.code) ∧ (∀ a ∈ s.attrs, a.ok) ∧ (∀ e ∈ s.events, e.ok) ∧ ∀ e ∈ s.links, e.ok
def GScope.ok (s : GScope) : Prop := s.name.size ≤ maxLen ∧ s.version.size ≤ maxLen ∧ ∀ x ∈ s.spans, x.ok
def GRes.ok (r : GRes) : Prop := (∀ a ∈ r.attrs, a.ok) ∧ ∀ s ∈ r.scopes, s.ok
def okB (b : List GRes) : Prop := ∀ r ∈ b, r.ok
def ltB (a b : ByteArray) : Bool := Op.bytesLess (lst a) (lst b)
def wQ : List GA → GA → List GA
  | [], a => [a]
  | x :: xs, a => if ltB x.key a.key then x :: wQ xs a else if x.key = a.key then a :: xs else a :: x :: xs
mutual
def sameV : GV → GV → Bool
  | .mk k t n b l m, .mk k' t' n' b' l' m' => k == k' && decide (t = t') && n == n' && b == b' && sameVs l l' && wL m m'
def sameVs : List GV → List GV → Bool
  | [], [] => true
  | x :: xs, y :: ys => sameV x y && sameVs xs ys
  | _, _ => false
def sameA : GA → GA → Bool
  | .mk k v, .mk k' v' => decide (k = k') && sameV v v'
def wL : List GA → List GA → Bool
  | [], [] => true
  | x :: xs, y :: ys => sameA x y && wL xs ys
  | _, _ => false
end
mutual
theorem xh : ∀ (x y : GV), sameV x y = true ↔ x = y
  | .mk k t n b l m, .mk k' t' n' b' l' m' => by
    simp only [sameV, Bool.and_eq_true, beq_iff_eq, decide_eq_true_eq, xe l l', yN m m', GV.mk.injEq]
    constructor
    · rintro ⟨⟨⟨⟨⟨h1, h2⟩, h3⟩, h4⟩, h5⟩, h6⟩; exact ⟨h1, h2, h3, h4, h5, h6⟩
    · rintro ⟨h1, h2, h3, h4, h5, h6⟩; exact ⟨⟨⟨⟨⟨h1, h2⟩, h3⟩, h4⟩, h5⟩, h6⟩
theorem xe : ∀ (x y : List GV), sameVs x y = true ↔ x = y
  | [], [] => by simp [sameVs]
  | x :: xs, y :: ys => by simp only [sameVs, Bool.and_eq_true, xh x y, xe xs ys, List.cons.injEq]
  | [], y :: ys => by simp [sameVs]
  | x :: xs, [] => by simp [sameVs]
theorem wJ : ∀ (x y : GA), sameA x y = true ↔ x = y
  | .mk k v, .mk k' v' => by simp only [sameA, Bool.and_eq_true, decide_eq_true_eq, xh v v', GA.mk.injEq]
theorem yN : ∀ (x y : List GA), wL x y = true ↔ x = y
  | [], [] => by simp [wL]
  | x :: xs, y :: ys => by simp only [wL, Bool.and_eq_true, wJ x y, yN xs ys, List.cons.injEq]
  | [], y :: ys => by simp [wL]
  | x :: xs, [] => by simp [wL]
end
theorem sameV_refl (x : GV) : sameV x x = true := (xh x x).2 rfl
theorem sameAs_refl (x : List GA) : wL x x = true := (yN x x).2 rfl
end Go.Proofs
namespace Go.Proofs
open Go Go.Al
def w64 (n : Int) : Int := IntKind.i64.wrap n
def yz (c : Int) : Int := if c < 128 then 1 else if c < 194 then 0 else if c < 224 then 2 else if c < 240 then 3 else if c < 245 then 4 else 0
def leastM (k : Int) : Int := if k = 2 then 128 else if k = 3 then 2048 else if k = 4 then 65536 else 0
def sizeM (r : Int) : Int := if r < 128 then 1 else if r < 2048 then 2 else if r < 65536 then 3 else 4
def isM (r : Int) : Bool := decide ((r ≥ 0 ∧ r < 55296) ∨ (r ≥ 57344 ∧ r < 1114112))
def isR (r : Int) : Bool := decide (r ≥ 0 ∧ r ≤ 1114111 ∧ (r < 55296 ∨ r > 57343))
def stepM (r b : Int) : Int := xj (· ||| ·) .i32 (IntKind.i32.wrap (r * 2 ^ (min (6 : Int).toNat (IntKind.bits .i32)))) (IntKind.i32.wrap (xj (· &&& ·) .u8 b 63))
def r0M (c k : Int) : Int := xj (· &&& ·) .i32 (IntKind.i32.wrap c) ((127 : Int).fdiv (2 ^ (min k.toNat (IntKind.bits .i32))))
def badM (b : Int) : Bool := xj (· &&& ·) .u8 b 192 != 128
def wU (s : ByteArray) (p : Int) : Nat → Int → Int → Option Int
  | 0, _, r => some r
  | n + 1, i, r => if badM (bAt s (p + i)) = true then none else wU s p n (i + 1) (stepM r (bAt s (p + i)))
def runeM (s : ByteArray) (p : Int) : Int × Int :=
  if p < 0 ∨ p ≥ s.size then (0, 0) else
  if yz (bAt s p) = 0 ∨ yz (bAt s p) > s.size - p then (0, 0) else
  if yz (bAt s p) = 1 then (IntKind.i32.wrap (bAt s p), 1) else
  match wU s p (yz (bAt s p) - 1).toNat 1 (r0M (bAt s p) (yz (bAt s p))) with
  | none => (0, 0)
  | some r => if r < leastM (yz (bAt s p)) ∨ isM r = false then (0, 0) else (r, yz (bAt s p))
def goM (f : Int → Int) (n : Int) : Nat → Int → Int → Int × Int
  | 0, p, c => (p, c)
  | m + 1, p, c => if p < n then (if f p = 0 then (p, c) else goM f n m (p + f p) (c + 1)) else (p, c)
def cutG (f : Int → Int) (n lim : Int) : Nat → Int → Int
  | 0, p => p
  | m + 1, p => if p < n then (if f p = 0 ∨ p + f p > lim then p else cutG f n lim m (p + f p)) else p
def fM (s : ByteArray) (p : Int) : Int := (runeM s p).2
def endM (s : ByteArray) : Int × Int := goM (fM s) s.size (s.size + 1) 0 0
def checkM (s : ByteArray) : Int := if (endM s).1 < s.size then (endM s).1 else -1
def countM (s : ByteArray) : Int := if (endM s).1 < s.size then -1 else (endM s).2
def cutM (s : ByteArray) (n : Int) : Int := cutG (fM s) s.size n (s.size + 1) 0
def contM (n : Int) : Int := xj (· ||| ·) .u8 128 (xj (· &&& ·) .u8 (IntKind.u8.wrap n) 63)
def headM (r k : Int) : Int := xj (· ||| ·) .u8 (IntKind.u8.wrap (240 * 2 ^ (min (w64 (4 - k)).toNat (IntKind.bits .u8)))) (IntKind.u8.wrap (r.fdiv (2 ^ (min (w64 (6 * w64 (k - 1))).toNat (IntKind.bits .i32)))))
def bytesP (r : Int) : List UInt8 :=
  if sizeM r = 1 then [ofI (IntKind.u8.wrap r)] else
  if sizeM r = 2 then [ofI (headM r (sizeM r)), ofI (contM r)] else
  if sizeM r = 3 then [ofI (headM r (sizeM r)), ofI (contM (r.fdiv (2 ^ (min (6 : Int).toNat (IntKind.bits .i32))))), ofI (contM r)] else
  [ofI (headM r (sizeM r)), ofI (contM (r.fdiv (2 ^ (min (12 : Int).toNat (IntKind.bits .i32))))), ofI (contM (r.fdiv (2 ^ (min (6 : Int).toNat (IntKind.bits .i32))))), ofI (contM r)]
def putM (l : List UInt8) (r : Int) : List UInt8 := if isM r then l ++ bytesP r else l
-- the reference
def guessLoop (s : ByteArray) : Nat → Int → Int → Int
  | 0, _, n => n
  | m + 1, i, n => if i ≥ s.size then -1 else guessLoop s m (i + 1) (64 * n + bAt s i - 128)
def guessM (s : ByteArray) : Int :=
  if bAt s 0 < 128 then bAt s 0 else if bAt s 0 ≥ 240 then guessLoop s 3 1 (bAt s 0 - 240) else if bAt s 0 ≥ 224 then guessLoop s 2 1 (bAt s 0 - 224) else guessLoop s 1 1 (bAt s 0 - 192)
def topM (k n d : Int) : UInt8 := ofI (IntKind.u8.wrap (w64 (k + w64 (n.tdiv d))))
def midM (n d : Int) : UInt8 := ofI (IntKind.u8.wrap (w64 (128 + (w64 (n.tdiv d)).tmod 64)))
def lowM (n : Int) : UInt8 := ofI (IntKind.u8.wrap (w64 (128 + n.tmod 64)))
def bytesM (r : Int) : List UInt8 :=
  if w64 r < 128 then [ofI (IntKind.u8.wrap (w64 r))] else
  if w64 r < 2048 then [topM 192 (w64 r) 64, lowM (w64 r)] else
  if w64 r < 65536 then [topM 224 (w64 r) 4096, midM (w64 r) 64, lowM (w64 r)] else
  [topM 240 (w64 r) 262144, midM (w64 r) 4096, midM (w64 r) 64, lowM (w64 r)]
def rRuneM (s : ByteArray) (p : Int) : Int × Int :=
  if p < 0 ∨ p ≥ s.size then (0, 0) else
  if guessM (s.extract p.toNat s.size) < 0 ∨ guessM (s.extract p.toNat s.size) > 1114111 ∨ isR (guessM (s.extract p.toNat s.size)) = false then (0, 0) else
  if ((ye (bytesM (guessM (s.extract p.toNat s.size)))).size : Int) > s.size - p ∨ s.extract p.toNat (p + (ye (bytesM (guessM (s.extract p.toNat s.size)))).size).toNat ≠ ye (bytesM (guessM (s.extract p.toNat s.size))) then (0, 0) else
  (guessM (s.extract p.toNat s.size), (ye (bytesM (guessM (s.extract p.toNat s.size)))).size)
def rF (s : ByteArray) (p : Int) : Int := (rRuneM s p).2
def rEnd (s : ByteArray) : Int × Int := goM (rF s) s.size (s.size + 1) 0 0
def rCheckM (s : ByteArray) : Int := if (rEnd s).1 = s.size then -1 else (rEnd s).1
def rCountM (s : ByteArray) : Int := if (rEnd s).1 < s.size then -1 else (rEnd s).2
def rCutLoop (s : ByteArray) : Nat → ByteArray
  | 0 => .empty
  | k + 1 => if rCheckM (s.extract 0 (k + 1)) = -1 then s.extract 0 (k + 1) else rCutLoop s k
def rCutM (s : ByteArray) (n : Int) : ByteArray := rCutLoop s (if s.size < n then (s.size : Int) else n).toNat
end Go.Proofs
namespace Go.Proofs
open Go Go.Al
theorem lengthM_range (c : Int) : 0 ≤ yz c ∧ yz c ≤ 4 := by
  unfold yz
  (repeat' split)
  all_goals omega
end Go.Proofs
namespace Go.Proofs
open Go Go.Al
end Go.Proofs
namespace Go.Proofs
open Go Go.Al
def Dec (f : Int → Int) (n : Nat) : Prop := ∀ p : Int, 0 ≤ p → p < n → f p = 0 ∨ (1 ≤ f p ∧ p + f p ≤ n)
theorem dec_fM (s : ByteArray) : Dec (fM s) s.size := by
  intro p h0 h1
  unfold fM runeM
  have := lengthM_range (bAt s p)
  (repeat' split)
  all_goals (dsimp only; omega)
end Go.Proofs
namespace Go.Proofs
open Go Go.Al
theorem zo (l : List UInt8) : (zY l).length = l.length := by simp [zY]
end Go.Proofs
namespace Go.Proofs
open Go Go.Al
theorem bits_and8 (a b : Int) (ha : 0 ≤ a ∧ a < 256) (hb : 0 ≤ b ∧ b < 256) : xj (· &&& ·) .u8 a b = ((a.toNat &&& b.toNat : Nat) : Int) := by
  have h1 : (BitVec.ofInt 8 a).toNat = a.toNat := by rw [BitVec.toNat_ofInt]; omega
  have h2 : (BitVec.ofInt 8 b).toNat = b.toNat := by rw [BitVec.toNat_ofInt]; omega
  show IntKind.u8.wrap ((BitVec.ofInt 8 a &&& BitVec.ofInt 8 b).toNat) = _
  rw [BitVec.toNat_and, h1, h2]
  have := @Nat.and_le_left a.toNat b.toNat
  exact wrap8 (by omega) (by omega)
theorem bits_or8 (a b : Int) (ha : 0 ≤ a ∧ a < 256) (hb : 0 ≤ b ∧ b < 256) : xj (· ||| ·) .u8 a b = ((a.toNat ||| b.toNat : Nat) : Int) := by
  have h1 : (BitVec.ofInt 8 a).toNat = a.toNat := by rw [BitVec.toNat_ofInt]; omega
  have h2 : (BitVec.ofInt 8 b).toNat = b.toNat := by rw [BitVec.toNat_ofInt]; omega
  show IntKind.u8.wrap ((BitVec.ofInt 8 a ||| BitVec.ofInt 8 b).toNat) = _
  rw [BitVec.toNat_or, h1, h2]
  have : a.toNat ||| b.toNat < 2 ^ 8 := Nat.or_lt_two_pow (by omega) (by omega)
  exact wrap8 (by omega) (by omega)
theorem bits_or32 (a b : Int) (ha : 0 ≤ a ∧ a < 1073741824) (hb : 0 ≤ b ∧ b < 1073741824) : xj (· ||| ·) .i32 a b = ((a.toNat ||| b.toNat : Nat) : Int) := by
  have h1 : (BitVec.ofInt 32 a).toNat = a.toNat := by rw [BitVec.toNat_ofInt]; omega
  have h2 : (BitVec.ofInt 32 b).toNat = b.toNat := by rw [BitVec.toNat_ofInt]; omega
  show IntKind.i32.wrap ((BitVec.ofInt 32 a ||| BitVec.ofInt 32 b).toNat) = _
  rw [BitVec.toNat_or, h1, h2]
  have : a.toNat ||| b.toNat < 2 ^ 30 := Nat.or_lt_two_pow (by omega) (by omega)
  exact ym (by omega) (by omega)
theorem bits_and32 (a b : Int) (ha : 0 ≤ a ∧ a < 1073741824) (hb : 0 ≤ b ∧ b < 1073741824) : xj (· &&& ·) .i32 a b = ((a.toNat &&& b.toNat : Nat) : Int) := by
  have h1 : (BitVec.ofInt 32 a).toNat = a.toNat := by rw [BitVec.toNat_ofInt]; omega
  have h2 : (BitVec.ofInt 32 b).toNat = b.toNat := by rw [BitVec.toNat_ofInt]; omega
  show IntKind.i32.wrap ((BitVec.ofInt 32 a &&& BitVec.ofInt 32 b).toNat) = _
  rw [BitVec.toNat_and, h1, h2]
  have := @Nat.and_le_left a.toNat b.toNat
  exact ym (by omega) (by omega)
theorem nat192 : ∀ b, b < 256 → ((b &&& 192) = 128 ↔ 128 ≤ b ∧ b < 192) := by decide +kernel
theorem nat63 (b : Nat) : (b &&& 63) = b % 64 := Nat.and_two_pow_sub_one_eq_mod b 6
theorem nator64 (a b : Nat) (h : b < 64) : a * 64 ||| b = a * 64 + b := by
  have := Nat.two_pow_add_eq_or_of_lt (i := 6) h a
  rw [Nat.mul_comm a 64]; exact this.symm
def isC (b : Int) : Prop := 128 ≤ b ∧ b < 192
theorem bad_iff (b : Int) (h : 0 ≤ b ∧ b < 256) : badM b = true ↔ ¬ isC b := by
  have := nat192 b.toNat (by omega)
  unfold badM isC
  rw [bits_and8 b 192 h (by omega), bne_iff_ne, ne_eq, show (192 : Int).toNat = 192 from rfl]
  constructor
  · intro h1 h2; exact h1 (by have := this.2 (by omega); omega)
  · intro h1 h2; exact h1 (by have := this.1 (by omega); omega)
theorem step_eq (r b : Int) (hr : 0 ≤ r ∧ r < 1000000) (hb : isC b) : stepM r b = 64 * r + (b - 128) := by
  unfold isC at hb
  unfold stepM
  have e1 : IntKind.i32.wrap (r * 2 ^ (min (6 : Int).toNat (IntKind.bits .i32))) = r * 64 := ym (n := r * 64) (by omega) (by omega)
  have e2 : xj (· &&& ·) .u8 b 63 = b - 128 := by
    rw [bits_and8 b 63 (by omega) (by omega), show (63 : Int).toNat = 63 from rfl, nat63]; omega
  rw [e1, e2, ym (by omega) (by omega), bits_or32 _ _ (by omega) (by omega)]
  have : (r * 64).toNat = r.toNat * 64 := by omega
  rw [this, nator64 _ _ (by omega)]
  omega
theorem r0_2 (c : Int) (h : 192 ≤ c ∧ c < 224) : r0M c 2 = c - 192 := by
  unfold r0M
  rw [ym (by omega) (by omega)]
  have e : ((127 : Int).fdiv (2 ^ (min (2 : Int).toNat (IntKind.bits .i32)))) = 31 := by decide
  rw [e, bits_and32 _ _ (by omega) (by omega), show (31 : Int).toNat = 31 from rfl, Nat.and_two_pow_sub_one_eq_mod c.toNat 5]
  omega
theorem r0_3 (c : Int) (h : 224 ≤ c ∧ c < 240) : r0M c 3 = c - 224 := by
  unfold r0M
  rw [ym (by omega) (by omega)]
  have e : ((127 : Int).fdiv (2 ^ (min (3 : Int).toNat (IntKind.bits .i32)))) = 15 := by decide
  rw [e, bits_and32 _ _ (by omega) (by omega), show (15 : Int).toNat = 15 from rfl, Nat.and_two_pow_sub_one_eq_mod c.toNat 4]
  omega
theorem r0_4 (c : Int) (h : 240 ≤ c ∧ c < 248) : r0M c 4 = c - 240 := by
  unfold r0M
  rw [ym (by omega) (by omega)]
  have e : ((127 : Int).fdiv (2 ^ (min (4 : Int).toNat (IntKind.bits .i32)))) = 7 := by decide
  rw [e, bits_and32 _ _ (by omega) (by omega), show (7 : Int).toNat = 7 from rfl, Nat.and_two_pow_sub_one_eq_mod c.toNat 3]
  omega
end Go.Proofs
namespace Go.Proofs
open Go Go.Al
instance (b : Int) : Decidable (isC b) := by unfold isC; infer_instance
def r3 (b0 b1 b2 : Int) : Int := 64 * (64 * (b0 - 224) + (b1 - 128)) + (b2 - 128)
def r4 (b0 b1 b2 b3 : Int) : Int := 64 * (64 * (64 * (b0 - 240) + (b1 - 128)) + (b2 - 128)) + (b3 - 128)
def ok2 (n b0 b1 : Int) : Prop := 194 ≤ b0 ∧ b0 < 224 ∧ 2 ≤ n ∧ isC b1
def ok3 (n b0 b1 b2 : Int) : Prop := 224 ≤ b0 ∧ b0 < 240 ∧ 3 ≤ n ∧ isC b1 ∧ isC b2 ∧ 2048 ≤ r3 b0 b1 b2 ∧ (r3 b0 b1 b2 < 55296 ∨ 57344 ≤ r3 b0 b1 b2)
def ok4 (n b0 b1 b2 b3 : Int) : Prop := 240 ≤ b0 ∧ b0 < 245 ∧ 4 ≤ n ∧ isC b1 ∧ isC b2 ∧ isC b3 ∧ 65536 ≤ r4 b0 b1 b2 b3 ∧ r4 b0 b1 b2 b3 < 1114112
instance (n b0 b1 : Int) : Decidable (ok2 n b0 b1) := by unfold ok2; infer_instance
instance (n b0 b1 b2 : Int) : Decidable (ok3 n b0 b1 b2) := by unfold ok3; infer_instance
instance (n b0 b1 b2 b3 : Int) : Decidable (ok4 n b0 b1 b2 b3) := by unfold ok4; infer_instance
def D4 (n b0 b1 b2 b3 : Int) : Int × Int :=
  if n < 1 then (0, 0) else if b0 < 128 then (b0, 1) else
  if ok2 n b0 b1 then (64 * (b0 - 192) + (b1 - 128), 2) else
  if ok3 n b0 b1 b2 then (r3 b0 b1 b2, 3) else
  if ok4 n b0 b1 b2 b3 then (r4 b0 b1 b2 b3, 4) else (0, 0)
def DS (s : ByteArray) (p : Int) : Int × Int := D4 (s.size - p) (bAt s p) (bAt s (p + 1)) (bAt s (p + 2)) (bAt s (p + 3))
theorem isM_iff (r : Int) : isM r = true ↔ (0 ≤ r ∧ r < 55296) ∨ (57344 ≤ r ∧ r < 1114112) := by simp [isM]
theorem isM_false {r : Int} (h : ¬ ((0 ≤ r ∧ r < 55296) ∨ (57344 ≤ r ∧ r < 1114112))) : isM r = false := by
  cases k : isM r
  · rfl
  · exact absurd ((isM_iff r).1 k) h
theorem len0 {c : Int} (h : 128 ≤ c ∧ c < 194 ∨ 245 ≤ c) : yz c = 0 := by unfold yz; (repeat' split) <;> omega
theorem len1 {c : Int} (h : c < 128) : yz c = 1 := by unfold yz; (repeat' split) <;> omega
theorem len2 {c : Int} (h : 194 ≤ c ∧ c < 224) : yz c = 2 := by unfold yz; (repeat' split) <;> omega
theorem len3 {c : Int} (h : 224 ≤ c ∧ c < 240) : yz c = 3 := by unfold yz; (repeat' split) <;> omega
theorem len4 {c : Int} (h : 240 ≤ c ∧ c < 245) : yz c = 4 := by unfold yz; (repeat' split) <;> omega
theorem loop1 (s : ByteArray) (p r : Int) (h : 0 ≤ r ∧ r < 1000000) (i : Int) (n : Nat) : wU s p (n + 1) i r = if isC (bAt s (p + i)) then wU s p n (i + 1) (64 * r + (bAt s (p + i) - 128)) else none := by
  have hb := bAt_lt s (p + i)
  have h1 := bad_iff _ hb
  rw [wU]
  by_cases hc : isC (bAt s (p + i))
  · rw [if_neg (by rw [h1]; exact fun h => h hc), if_pos hc, step_eq r _ h hc]
  · rw [if_pos (h1.2 hc), if_neg hc]
theorem rune_neg (s : ByteArray) (p : Int) (h : p < 0 ∨ s.size ≤ p) : runeM s p = (0, 0) := by unfold runeM; rw [if_pos (by omega)]
theorem not_ok2 {n b0 b1 : Int} (h : ¬ (194 ≤ b0 ∧ b0 < 224 ∧ 2 ≤ n)) : ¬ ok2 n b0 b1 := fun ⟨a, b, c, _⟩ => h ⟨a, b, c⟩
theorem not_ok3 {n b0 b1 b2 : Int} (h : ¬ (224 ≤ b0 ∧ b0 < 240 ∧ 3 ≤ n)) : ¬ ok3 n b0 b1 b2 := fun ⟨a, b, c, _⟩ => h ⟨a, b, c⟩
theorem wq {n b0 b1 b2 b3 : Int} (h : ¬ (240 ≤ b0 ∧ b0 < 245 ∧ 4 ≤ n)) : ¬ ok4 n b0 b1 b2 b3 := fun ⟨a, b, c, _⟩ => h ⟨a, b, c⟩
theorem rune_D (s : ByteArray) (p : Int) (hp : 0 ≤ p) : runeM s p = DS s p := by
  unfold DS
  generalize hn : (s.size : Int) - p = n
  by_cases h1 : n < 1
  · rw [rune_neg s p (by omega)]; unfold D4; rw [if_pos h1]
  have hb := bAt_lt s p
  unfold runeM
  rw [if_neg (by omega), hn]
  unfold D4
  rw [if_neg h1]
  generalize hb0 : bAt s p = b0 at hb ⊢
  by_cases a1 : b0 < 128
  · rw [len1 a1, if_neg (by omega), if_pos rfl, if_pos a1, ym (by omega) (by omega)]
  rw [if_neg a1]
  by_cases a2 : b0 < 194
  · rw [len0 (by omega), if_pos (.inl rfl), if_neg (not_ok2 (by omega)), if_neg (not_ok3 (by omega)), if_neg (wq (by omega))]
  by_cases a3 : b0 < 224
  · rw [len2 (by omega)]
    by_cases c : n < 2
    · rw [if_pos (by omega), if_neg (not_ok2 (by omega)), if_neg (not_ok3 (by omega)), if_neg (wq (by omega))]
    rw [if_neg (by omega), if_neg (by decide), r0_2 _ (by omega), show ((2 : Int) - 1).toNat = 0 + 1 from rfl, loop1 _ _ _ (by omega)]
    by_cases c1 : isC (bAt s (p + 1))
    · have c1' := c1; unfold isC at c1'
      rw [if_pos c1]
      simp only [wU]
      rw [if_neg, if_pos ⟨by omega, by omega, by omega, c1⟩]
      have e1 : leastM 2 = 128 := rfl
      rw [e1]
      rintro (h | h)
      · omega
      · have := (isM_iff (64 * (b0 - 192) + (bAt s (p + 1) - 128))).2 (by omega); rw [this] at h; cases h
    · rw [if_neg c1, if_neg (fun h => c1 h.2.2.2), if_neg (not_ok3 (by omega)), if_neg (wq (by omega))]
  by_cases a4 : b0 < 240
  · rw [len3 (by omega), if_neg (not_ok2 (by omega))]
    by_cases c : n < 3
    · rw [if_pos (by omega), if_neg (not_ok3 (by omega)), if_neg (wq (by omega))]
    rw [if_neg (by omega), if_neg (by decide), r0_3 _ (by omega), show ((3 : Int) - 1).toNat = 0 + 1 + 1 from rfl, loop1 _ _ _ (by omega)]
    by_cases c1 : isC (bAt s (p + 1))
    · have c1' := c1; unfold isC at c1'
      rw [if_pos c1, loop1 _ _ _ (by omega), show p + (1 + 1) = p + 2 by omega]
      by_cases c2 : isC (bAt s (p + 2))
      · have c2' := c2; unfold isC at c2'
        rw [if_pos c2]
        simp only [wU]
        rw [show 64 * (64 * (b0 - 224) + (bAt s (p + 1) - 128)) + (bAt s (p + 2) - 128) = r3 b0 (bAt s (p + 1)) (bAt s (p + 2)) from rfl]
        have hr : r3 b0 (bAt s (p + 1)) (bAt s (p + 2)) = 64 * (64 * (b0 - 224) + (bAt s (p + 1) - 128)) + (bAt s (p + 2) - 128) := rfl
        have hm := isM_iff (r3 b0 (bAt s (p + 1)) (bAt s (p + 2)))
        have e1 : leastM 3 = 2048 := rfl
        rw [e1, if_neg (wq (by omega))]
        by_cases d : 2048 ≤ r3 b0 (bAt s (p + 1)) (bAt s (p + 2)) ∧ (r3 b0 (bAt s (p + 1)) (bAt s (p + 2)) < 55296 ∨ 57344 ≤ r3 b0 (bAt s (p + 1)) (bAt s (p + 2)))
        · rw [if_neg, if_pos (show ok3 _ _ _ _ from ⟨by omega, by omega, by omega, c1, c2, d⟩)]
          rintro (h | h)
          · omega
          · rw [hm.2 (by omega)] at h; cases h
        · rw [if_pos, if_neg (fun h => d h.2.2.2.2.2)]
          by_cases e : r3 b0 (bAt s (p + 1)) (bAt s (p + 2)) < 2048
          · exact .inl e
          · exact .inr (isM_false (by omega))
      · rw [if_neg c2, if_neg (fun h => c2 h.2.2.2.2.1), if_neg (wq (by omega))]
    · rw [if_neg c1, if_neg (fun h => c1 h.2.2.2.1), if_neg (wq (by omega))]
  rw [if_neg (not_ok2 (by omega)), if_neg (not_ok3 (by omega))]
  by_cases a5 : b0 < 245
  · rw [len4 (by omega)]
    by_cases c : n < 4
    · rw [if_pos (by omega), if_neg (wq (by omega))]
    rw [if_neg (by omega), if_neg (by decide), r0_4 _ (by omega), show ((4 : Int) - 1).toNat = 0 + 1 + 1 + 1 from rfl, loop1 _ _ _ (by omega)]
    by_cases c1 : isC (bAt s (p + 1))
    · have c1' := c1; unfold isC at c1'
      rw [if_pos c1, loop1 _ _ _ (by omega), show p + (1 + 1) = p + 2 by omega]
      by_cases c2 : isC (bAt s (p + 2))
      · have c2' := c2; unfold isC at c2'
        rw [if_pos c2, loop1 _ _ _ (by omega), show p + (1 + 1 + 1) = p + 3 by omega]
        by_cases c3 : isC (bAt s (p + 3))
        · have c3' := c3; unfold isC at c3'
          rw [if_pos c3]
          simp only [wU]
          rw [show 64 * (64 * (64 * (b0 - 240) + (bAt s (p + 1) - 128)) + (bAt s (p + 2) - 128)) + (bAt s (p + 3) - 128) = r4 b0 (bAt s (p + 1)) (bAt s (p + 2)) (bAt s (p + 3)) from rfl]
          have hr : r4 b0 (bAt s (p + 1)) (bAt s (p + 2)) (bAt s (p + 3)) = 64 * (64 * (64 * (b0 - 240) + (bAt s (p + 1) - 128)) + (bAt s (p + 2) - 128)) + (bAt s (p + 3) - 128) := rfl
          have hm := isM_iff (r4 b0 (bAt s (p + 1)) (bAt s (p + 2)) (bAt s (p + 3)))
          have e1 : leastM 4 = 65536 := rfl
          rw [e1]
          by_cases d : 65536 ≤ r4 b0 (bAt s (p + 1)) (bAt s (p + 2)) (bAt s (p + 3)) ∧ r4 b0 (bAt s (p + 1)) (bAt s (p + 2)) (bAt s (p + 3)) < 1114112
          · rw [if_neg, if_pos (show ok4 _ _ _ _ _ from ⟨by omega, by omega, by omega, c1, c2, c3, d⟩)]
            rintro (h | h)
            · omega
            · rw [hm.2 (by omega)] at h; cases h
          · rw [if_pos, if_neg (fun h => d h.2.2.2.2.2.2)]
            by_cases e : r4 b0 (bAt s (p + 1)) (bAt s (p + 2)) (bAt s (p + 3)) < 65536
            · exact .inl e
            · exact .inr (isM_false (by omega))
        · rw [if_neg c3, if_neg (fun h => c3 h.2.2.2.2.2.1)]
      · rw [if_neg c2, if_neg (fun h => c2 h.2.2.2.2.1)]
    · rw [if_neg c1, if_neg (fun h => c1 h.2.2.2.1)]
  · rw [len0 (by omega), if_pos (.inl rfl), if_neg (wq (by omega))]
end Go.Proofs
namespace Go.Proofs
open Go Go.Al
def valid (r : Int) : Prop := (0 ≤ r ∧ r < 55296) ∨ (57344 ≤ r ∧ r < 1114112)
def pb (n : Int) : List Int :=
  if n < 128 then [n] else
  if n < 2048 then [192 + n / 64, 128 + n % 64] else
  if n < 65536 then [224 + n / 4096, 128 + n / 64 % 64, 128 + n % 64] else
  [240 + n / 262144, 128 + n / 4096 % 64, 128 + n / 64 % 64, 128 + n % 64]
def Mat (s : ByteArray) : Int → List Int → Prop
  | _, [] => True
  | p, x :: xs => bAt s p = x ∧ Mat s (p + 1) xs
theorem enc_D4 {s : ByteArray} {p g : Int} (hv : valid g) (hm : Mat s p (pb g)) (hl : ((pb g).length : Int) ≤ s.size - p) : DS s p = (g, ((pb g).length : Int)) := by
  unfold valid at hv
  unfold pb at hm hl ⊢
  unfold DS D4
  by_cases a1 : g < 128
  · rw [if_pos a1] at *
    simp only [Mat, and_true] at hm
    simp only [List.length_cons, List.length_nil] at *
    rw [if_neg (by omega), if_pos (by omega), hm]; rfl
  rw [if_neg a1] at *
  by_cases a2 : g < 2048
  · rw [if_pos a2] at *
    simp only [Mat, and_true] at hm
    simp only [List.length_cons, List.length_nil] at *
    obtain ⟨m1, m2⟩ := hm
    rw [if_neg (by omega), if_neg (by omega), if_pos]
    · rw [m1, m2]; congr 1; omega
    · exact ⟨by omega, by omega, by omega, by unfold isC; omega⟩
  rw [if_neg a2] at *
  by_cases a3 : g < 65536
  · rw [if_pos a3] at *
    simp only [Mat, and_true] at hm
    simp only [List.length_cons, List.length_nil, show p + 1 + 1 = p + 2 by omega] at *
    obtain ⟨m1, m2, m3⟩ := hm
    have e : r3 (bAt s p) (bAt s (p + 1)) (bAt s (p + 2)) = g := by unfold r3; rw [m1, m2, m3]; omega
    rw [if_neg (by omega), if_neg (by omega), if_neg (not_ok2 (by omega)), if_pos]
    · rw [e]; rfl
    · exact ⟨by omega, by omega, by omega, by unfold isC; omega, by unfold isC; omega, by omega, by omega⟩
  rw [if_neg a3] at *
  simp only [Mat, and_true] at hm
  simp only [List.length_cons, List.length_nil, show p + 1 + 1 = p + 2 by omega, show p + 2 + 1 = p + 3 by omega] at *
  obtain ⟨m1, m2, m3, m4⟩ := hm
  have e : r4 (bAt s p) (bAt s (p + 1)) (bAt s (p + 2)) (bAt s (p + 3)) = g := by unfold r4; rw [m1, m2, m3, m4]; omega
  rw [if_neg (by omega), if_neg (by omega), if_neg (not_ok2 (by omega)), if_neg (not_ok3 (by omega)), if_pos]
  · rw [e]; rfl
  · exact ⟨by omega, by omega, by omega, by unfold isC; omega, by unfold isC; omega, by unfold isC; omega, by omega, by omega⟩
end Go.Proofs
namespace Go.Proofs
open Go Go.Al
theorem wrap8_id {n : Int} (h : 0 ≤ n ∧ n < 256) : IntKind.u8.wrap n = n := wrap8 h.1 h.2
theorem bytesM_pb {r : Int} (h : 0 ≤ r ∧ r < 1114112) : bytesM r = (pb r).map ofI := by
  have hw : w64 r = r := zj (by omega) (by omega)
  have q1 : ∀ d : Int, 0 < d → r.tdiv d = r / d := fun d _ => Int.tdiv_eq_ediv_of_nonneg h.1
  have m1 : ∀ x : Int, 0 ≤ x → x.tmod 64 = x % 64 := fun x hx => Int.tmod_eq_emod_of_nonneg hx
  have top : ∀ (k d : Int), 0 < d → 0 ≤ k → k + r / d < 256 → topM k r d = ofI (k + r / d) := by
    intro k d hd hk hlt
    have hq : 0 ≤ r / d := Int.ediv_nonneg h.1 (by omega)
    unfold topM w64
    rw [q1 d hd, zj (n := r / d) (by omega) (by omega), zj (by omega) (by omega), wrap8_id (by omega)]
  have mid : ∀ d : Int, 0 < d → midM r d = ofI (128 + r / d % 64) := by
    intro d hd
    have hq : 0 ≤ r / d := Int.ediv_nonneg h.1 (by omega)
    have hle : r / d ≤ r := Int.ediv_le_self _ h.1
    unfold midM w64
    rw [q1 d hd, zj (n := r / d) (by omega) (by omega), m1 _ hq, zj (by omega) (by omega), wrap8_id (by omega)]
  have low : lowM r = ofI (128 + r % 64) := by
    unfold lowM w64
    rw [m1 _ h.1, zj (by omega) (by omega), wrap8_id (by omega)]
  unfold bytesM pb
  rw [hw]
  by_cases a1 : r < 128
  · rw [if_pos a1, if_pos a1, wrap8_id (by omega)]; rfl
  rw [if_neg a1, if_neg a1]
  by_cases a2 : r < 2048
  · rw [if_pos a2, if_pos a2, top 192 64 (by omega) (by omega) (by omega), low]; rfl
  rw [if_neg a2, if_neg a2]
  by_cases a3 : r < 65536
  · rw [if_pos a3, if_pos a3, top 224 4096 (by omega) (by omega) (by omega), low, mid 64 (by omega)]; rfl
  rw [if_neg a3, if_neg a3, top 240 262144 (by omega) (by omega) (by omega), low, mid 64 (by omega), mid 4096 (by omega)]; rfl
theorem pb_range {r : Int} (h : 0 ≤ r ∧ r < 1114112) : ∀ x ∈ pb r, 0 ≤ x ∧ x < 256 := by
  intro x hx
  unfold pb at hx
  (repeat' split at hx) <;> simp only [List.mem_cons, List.not_mem_nil, or_false] at hx <;> omega
theorem drop_bAt (s : ByteArray) (p : Int) (h0 : 0 ≤ p) (h1 : p < s.size) : s.data.toList.drop p.toNat = s.data.toList.getD p.toNat 0 :: s.data.toList.drop (p + 1).toNat := by
  have hl : p.toNat < s.data.toList.length := by
    have : s.data.toList.length = s.size := by simp
    omega
  rw [List.drop_eq_getElem_cons hl, show (p + 1).toNat = p.toNat + 1 by omega, List.getD_eq_getElem?_getD, List.getElem?_eq_getElem hl, Option.getD_some]
theorem mat_iff (s : ByteArray) : ∀ (l : List Int) (p : Int), 0 ≤ p → p + l.length ≤ s.size → (∀ x ∈ l, 0 ≤ x ∧ x < 256) →
    ((s.data.toList.drop p.toNat).take l.length = l.map ofI ↔ Mat s p l)
  | [], p, _, _, _ => by simp [Mat]
  | x :: l, p, h0, h1, hr => by
    simp only [List.length_cons] at h1
    have ih := mat_iff s l (p + 1) (by omega) (by omega) (fun y hy => hr y (List.mem_cons_of_mem _ hy))
    rw [drop_bAt s p h0 (by omega), List.length_cons, List.take_succ_cons, List.map_cons, List.cons.injEq, ih]
    simp only [Mat]
    have hx := hr x List.mem_cons_self
    refine and_congr_left fun _ => ?_
    unfold bAt
    constructor
    · intro e; rw [e]; exact ofI_toNat hx
    · intro e; unfold ofI; rw [← e, Int.toNat_natCast, UInt8.ofNat_toNat]
theorem strOf_map (l : List Int) : (ye (l.map ofI)).size = l.length := by rw [yJ, List.length_map]
end Go.Proofs
namespace Go.Proofs
open Go Go.Al
theorem f_out (s : ByteArray) (p : Int) (h : p < 0 ∨ s.size ≤ p) : fM s p = 0 := by unfold fM; rw [rune_neg s p h]
theorem f_pos (s : ByteArray) (p : Int) (h : fM s p ≠ 0) : 0 ≤ p ∧ p < s.size ∧ 1 ≤ fM s p ∧ p + fM s p ≤ s.size := by
  by_cases hp : p < 0 ∨ s.size ≤ p
  · exact absurd (f_out s p hp) h
  · have := dec_fM s p (by omega) (by omega)
    omega
inductive Path (f : Int → Int) : Int → Int → Int → Prop
  | refl (p : Int) : Path f p p 0
  | step {p q c : Int} (h : f p ≠ 0) (k : Path f (p + f p) q c) : Path f p q (c + 1)
theorem Path.trans {f : Int → Int} {p q r c d : Int} (h : Path f p q c) (k : Path f q r d) : Path f p r (c + d) := by
  induction h with
  | refl => rw [Int.zero_add]; exact k
  | @step p q c h _ ih => have := Path.step h (ih k); rw [show c + 1 + d = c + d + 1 by omega]; exact this
theorem Path.first {f : Int → Int} {p q c : Int} (h : Path f p q c) (hn : p ≠ q) : f p ≠ 0 ∧ ∃ d, Path f (p + f p) q d := by
  cases h with
  | refl => exact absurd rfl hn
  | step h k => exact ⟨h, _, k⟩
theorem path_le {s : ByteArray} {p q c : Int} (h : Path (fM s) p q c) : p ≤ q ∧ 0 ≤ c := by
  induction h with
  | refl => exact ⟨Int.le_refl _, Int.le_refl _⟩
  | step h _ ih => have := f_pos s _ h; omega
theorem Path.comp {s : ByteArray} {p q r c d : Int} (h : Path (fM s) p q c) (k : Path (fM s) p r d) (hle : q ≤ r) : ∃ e, Path (fM s) q r e := by
  induction h generalizing d with
  | refl p => exact ⟨d, k⟩
  | step h k' ih =>
    cases k with
    | refl => have := f_pos s _ h; have := path_le k'; omega
    | step _ k => exact ih k hle
end Go.Proofs
namespace Go.Proofs
open Go Go.Al
theorem xl (s t : ByteArray) : (s ++ t).size = s.size + t.size := ByteArray.size_append
theorem app_list (s t : ByteArray) : (s ++ t).data.toList = s.data.toList ++ t.data.toList := ByteArray.toList_data_append
theorem len_list (s : ByteArray) : s.data.toList.length = s.size := by simp
theorem nator (i a b : Nat) (h : b < 2 ^ i) : 2 ^ i * a ||| b = 2 ^ i * a + b := (Nat.two_pow_add_eq_or_of_lt h a).symm
theorem contM_eq (n : Int) (h : 0 ≤ n) : contM n = 128 + n % 64 := by
  unfold contM
  have hw : IntKind.u8.wrap n = n % 256 := by
    simp only [IntKind.wrap, IntKind.bits, IntKind.signed, Bool.false_and, Bool.false_eq_true, if_false]; rfl
  have e2 : xj (· &&& ·) .u8 (IntKind.u8.wrap n) 63 = n % 64 := by
    rw [hw, bits_and8 _ 63 (by omega) (by omega), show (63 : Int).toNat = 63 from rfl, nat63]; omega
  rw [e2, bits_or8 _ _ (by omega) (by omega), show (128 : Int).toNat = 2 ^ 6 * 2 from rfl, nator 6 2 _ (by omega)]
  omega
theorem fdiv_pos (a b : Int) (h : 0 < b) : a.fdiv b = a / b := Int.fdiv_eq_ediv_of_nonneg a (by omega)
theorem sz1 {r : Int} (h : r < 128) : sizeM r = 1 := by unfold sizeM; rw [if_pos h]
theorem sz2 {r : Int} (h : 128 ≤ r ∧ r < 2048) : sizeM r = 2 := by unfold sizeM; rw [if_neg (by omega), if_pos (by omega)]
theorem sz3 {r : Int} (h : 2048 ≤ r ∧ r < 65536) : sizeM r = 3 := by unfold sizeM; rw [if_neg (by omega), if_neg (by omega), if_pos (by omega)]
theorem sz4 {r : Int} (h : 65536 ≤ r) : sizeM r = 4 := by unfold sizeM; rw [if_neg (by omega), if_neg (by omega), if_neg (by omega)]
theorem head_eq (r k top : Int) (d : Nat) (m i : Nat) (h : 0 ≤ r) (h1 : IntKind.u8.wrap (240 * 2 ^ (min (w64 (4 - k)).toNat (IntKind.bits .u8))) = top) (h2 : min (w64 (6 * w64 (k - 1))).toNat (IntKind.bits .i32) = d) (ht : top = ((2 ^ i * m : Nat) : Int)) (hlt : r / 2 ^ d < 2 ^ i) (hi : 2 ^ i ≤ 64) (hm : 2 ^ i * m < 192 + 64) :
    headM r k = top + r / 2 ^ d := by
  unfold headM
  have hp : (0 : Int) < 2 ^ d := by have := Nat.two_pow_pos d; exact_mod_cast this
  have hq : 0 ≤ r / 2 ^ d := Int.ediv_nonneg h (by omega)
  have hc : ((2 : Int) ^ i) = ((2 ^ i : Nat) : Int) := by simp
  rw [hc] at hlt
  rw [h1, h2, fdiv_pos _ _ hp, wrap8_id (by omega), bits_or8 _ _ (by omega) (by omega), ht, Int.toNat_natCast, nator i m _ (by omega)]
  omega
theorem bytesP_pb {r : Int} (hv : valid r) : bytesP r = (pb r).map ofI := by
  unfold valid at hv
  unfold bytesP pb
  have c := contM_eq r (by omega)
  have c6 : contM (r.fdiv (2 ^ (min (6 : Int).toNat (IntKind.bits .i32)))) = 128 + r / 64 % 64 := by
    rw [show ((2 : Int) ^ (min (6 : Int).toNat (IntKind.bits .i32))) = 64 from rfl, fdiv_pos _ _ (by omega), contM_eq _ (by omega)]
  have c12 : contM (r.fdiv (2 ^ (min (12 : Int).toNat (IntKind.bits .i32)))) = 128 + r / 4096 % 64 := by
    rw [show ((2 : Int) ^ (min (12 : Int).toNat (IntKind.bits .i32))) = 4096 from rfl, fdiv_pos _ _ (by omega), contM_eq _ (by omega)]
  by_cases a1 : r < 128
  · rw [sz1 a1, if_pos rfl, if_pos a1, wrap8_id (by omega)]; rfl
  rw [if_neg a1]
  by_cases a2 : r < 2048
  · rw [sz2 (by omega), if_neg (by decide), if_pos rfl, if_pos a2, c, head_eq r 2 192 6 3 6 (by omega) (by decide) (by decide) (by decide) (by omega) (by decide) (by decide)]; rfl
  rw [if_neg a2]
  by_cases a3 : r < 65536
  · rw [sz3 (by omega), if_neg (by decide), if_neg (by decide), if_pos rfl, if_pos a3, c, c6, head_eq r 3 224 12 7 5 (by omega) (by decide) (by decide) (by decide) (by omega) (by decide) (by decide)]; rfl
  rw [if_neg a3, sz4 (by omega), if_neg (by decide), if_neg (by decide), if_neg (by decide), c, c6, c12, head_eq r 4 240 18 15 4 (by omega) (by decide) (by decide) (by decide) (by omega) (by decide) (by decide)]; rfl
theorem mat_app (s : ByteArray) : ∀ (l : List Int) (p : Int) (t u : ByteArray), s = t ++ ye (l.map ofI) ++ u → p = t.size → (∀ x ∈ l, 0 ≤ x ∧ x < 256) → Mat s p l := by
  intro l p t u hs hp hr
  have hz : s.size = t.size + l.length + u.size := by rw [hs, xl, xl, strOf_map]
  refine (mat_iff s l p (by omega) (by omega) hr).1 ?_
  rw [hs, app_list, app_list, xM, hp, Int.toNat_natCast, List.append_assoc, List.drop_append, List.drop_eq_nil_of_le (by rw [len_list]; omega), len_list]
  simp
theorem back (p : ByteArray) (r : Int) (u : ByteArray) (hv : isM r = true) :
    ye (putM p.data.toList r) = p ++ ye (bytesM r) ∧ runeM (ye (putM p.data.toList r) ++ u) p.size = (r, ((ye (putM p.data.toList r)).size : Int) - p.size) := by
  have hv' := (isM_iff r).1 hv
  have h1 : ye (putM p.data.toList r) = p ++ ye (bytesM r) := by
    refine str_ext ?_
    rw [xM, app_list, xM]
    unfold putM
    rw [if_pos hv, bytesP_pb hv', bytesM_pb (by omega)]
  refine ⟨h1, ?_⟩
  rw [h1, rune_D _ _ (by omega), bytesM_pb (by omega)]
  have hz : ((p ++ ye ((pb r).map ofI)).size : Int) - p.size = (pb r).length := by rw [xl, strOf_map]; omega
  rw [hz]
  refine enc_D4 hv' (mat_app _ (pb r) _ p u rfl rfl (pb_range (by omega))) ?_
  rw [xl, xl, strOf_map]; omega
end Go.Proofs
namespace Go.Proofs
open Go Go.Al
def getA : List GA → ByteArray → Option GV
  | [], _ => none
  | x :: xs, k => if x.key = k then some x.val else getA xs k
def xE (keys : List ByteArray) : List GA → List GA
  | [] => []
  | x :: xs => if keys.any (fun k => decide (k = x.key)) then xE keys xs else x :: xE keys xs
def yo (kinds : List Int) (a : GA) : GA := if kinds.any (fun k => k == a.val.kind) then .mk a.key (plainV a.val) else a
def zeroV : GV := .mk 0 ⟨#[]⟩ 0 0 [] []
def textA (l : List GA) (k : ByteArray) : ByteArray := wx ((getA l k).getD zeroV)
def risA (prev : Option ByteArray) : List GA → Prop
  | [] => True
  | x :: xs => (match prev with | some p => ltB p x.key = true | none => True) ∧ risA (some x.key) xs
def skey : ByteArray := ⟨#[115, 101, 114, 118, 105, 99, 101, 46, 110, 97, 109, 101]⟩
def yO (r : GRes) : ByteArray := textA r.attrs skey
end Go.Proofs
namespace Go.Proofs
open Go Go.Al
theorem bl_irrefl : ∀ a : Bs, Op.bytesLess a a = false
  | [] => rfl
  | x :: a => by
    simp only [Op.bytesLess, bl_irrefl a, Bool.and_false, Bool.or_false]
    simp
theorem bl_trans : ∀ a b c : Bs, Op.bytesLess a b = true → Op.bytesLess b c = true → Op.bytesLess a c = true
  | _, [], _, h, _ => by simp [Op.bytesLess] at h
  | _, _ :: _, [], _, h => by simp [Op.bytesLess] at h
  | [], _ :: _, _ :: _, _, _ => by simp [Op.bytesLess]
  | x :: a, y :: b, z :: c, h, k => by
    simp only [Op.bytesLess, Bool.or_eq_true, Bool.and_eq_true, decide_eq_true_eq, beq_iff_eq] at h k ⊢
    rcases h with h | ⟨rfl, h⟩ <;> rcases k with k | ⟨rfl, k⟩
    · left; exact UInt8.lt_trans h k
    · left; exact h
    · left; exact k
    · right; exact ⟨rfl, bl_trans a b c h k⟩
theorem bl_tri : ∀ a b : Bs, Op.bytesLess a b = false → Op.bytesLess b a = false → a = b
  | [], [], _, _ => rfl
  | [], _ :: _, h, _ => by simp [Op.bytesLess] at h
  | _ :: _, [], _, h => by simp [Op.bytesLess] at h
  | x :: a, y :: b, h, k => by
    simp only [Op.bytesLess, Bool.or_eq_false_iff, qb, Bool.and_eq_false_imp, beq_iff_eq] at h k
    have : x = y := by
      have h1 := h.1; have k1 := k.1
      simp only [UInt8.lt_iff_toNat_lt] at h1 k1
      exact UInt8.toNat_inj.1 (by omega)
    subst this
    rw [bl_tri a b (h.2 rfl) (k.2 rfl)]
theorem ltB_irrefl (a : ByteArray) : ltB a a = false := bl_irrefl _
theorem ltB_trans {a b c : ByteArray} (h : ltB a b = true) (k : ltB b c = true) : ltB a c = true := bl_trans _ _ _ h k
theorem ltB_tri {a b : ByteArray} (h : ltB a b = false) (k : ltB b a = false) : a = b := str_ext (bl_tri _ _ h k)
theorem ltB_asymm {a b : ByteArray} (h : ltB a b = true) : ltB b a = false := by
  cases hb : ltB b a
  · rfl
  · have := ltB_trans h hb; rw [ltB_irrefl] at this; cases this
theorem risA_mem : ∀ {l : List GA} {p : ByteArray}, risA (some p) l → ∀ x ∈ l, ltB p x.key = true
  | y :: l, p, h, x, hx => by
    rcases List.mem_cons.1 hx with rfl | hx
    · exact h.1
    · exact ltB_trans h.1 (risA_mem h.2 x hx)
theorem risA_none {l : List GA} {p : Option ByteArray} (h : risA p l) : risA none l := by
  cases l with
  | nil => trivial
  | cons x l => exact ⟨trivial, h.2⟩
theorem mem_intoA : ∀ {l : List GA} {a x : GA}, x ∈ wQ l a → x = a ∨ x ∈ l
  | [], a, x, h => by simp [wQ] at h; exact .inl h
  | y :: l, a, x, h => by
    rw [wQ] at h
    split at h
    · rcases List.mem_cons.1 h with rfl | h
      · exact .inr List.mem_cons_self
      · rcases mem_intoA h with h | h
        · exact .inl h
        · exact .inr (List.mem_cons_of_mem _ h)
    · split at h
      · rcases List.mem_cons.1 h with rfl | h
        · exact .inl rfl
        · exact .inr (List.mem_cons_of_mem _ h)
      · rcases List.mem_cons.1 h with rfl | h
        · exact .inl rfl
        · exact .inr h
theorem wt_intoA : ∀ (l : List GA) (a : GA), wtAs (wQ l a) ≤ wtAs l + a.wt
  | [], a => by simp [wQ, wtAs]
  | y :: l, a => by
    rw [wQ]
    have := wt_intoA l a
    split
    · simp only [wtAs]; omega
    · split <;> simp only [wtAs] <;> omega
theorem ris_intoA : ∀ (l : List GA) (a : GA) (p : Option ByteArray), risA p l → (match p with | some p => ltB p a.key = true | none => True) → risA p (wQ l a)
  | [], a, p, _, h => ⟨h, trivial⟩
  | y :: l, a, p, hr, h => by
    rw [wQ]
    split
    · rename_i hl
      exact ⟨hr.1, ris_intoA l a (some y.key) hr.2 hl⟩
    · rename_i hl
      split
      · rename_i he
        exact ⟨h, he ▸ hr.2⟩
      · rename_i he
        refine ⟨h, ?_, hr.2⟩
        cases hb : ltB a.key y.key
        · exact absurd (ltB_tri (by simpa using hl) hb) he
        · exact hb
end Go.Proofs
namespace Go.Proofs
open Go Go.Al
def digs : ByteArray := ⟨#[48, 49, 50, 51, 52, 53, 54, 55, 56, 57, 97, 98, 99, 100, 101, 102]⟩
theorem hexD_bAt (n : Int) (h : 0 ≤ n ∧ n < 16) : bAt digs n = (hexD n.toNat).toNat := by
  have key : ∀ k : Fin 16, bAt digs ((k.val : Nat) : Int) = (hexD k.val).toNat := by decide
  have := key ⟨n.toNat, by omega⟩
  simp only at this
  rw [show ((n.toNat : Nat) : Int) = n by omega] at this
  exact this
theorem and15 (n : Int) (h : 0 ≤ n ∧ n < 256) : xj (· &&& ·) .u8 n 15 = n % 16 := by
  have key : ∀ k : Fin 256, xj (· &&& ·) .u8 ((k.val : Nat) : Int) 15 = ((k.val : Nat) : Int) % 16 := by decide +kernel
  have := key ⟨n.toNat, by omega⟩
  simp only at this
  rw [show ((n.toNat : Nat) : Int) = n by omega] at this
  exact this
theorem shr4 (n : Int) (h : 0 ≤ n ∧ n < 256) : n.fdiv (2 ^ (min (4 : Int).toNat IntKind.u8.bits)) = n / 16 := by
  have : min (4 : Int).toNat IntKind.u8.bits = 4 := by decide
  rw [this, Int.fdiv_eq_ediv_of_nonneg _ (by decide)]
  rfl
theorem bAt_nat (s : ByteArray) (i : Nat) (h : i < s.size) : ∃ c : UInt8, (lst s)[i]? = some c ∧ bAt s (i : Int) = c.toNat := by
  have hl : i < (lst s).length := by rw [yK]; exact h
  refine ⟨(lst s)[i], List.getElem?_eq_getElem hl, ?_⟩
  unfold bAt
  show (((lst s).getD (Int.toNat (i : Int)) 0).toNat : Int) = _
  rw [Int.toNat_natCast, List.getD_eq_getElem?_getD, List.getElem?_eq_getElem hl]
  rfl
theorem yG {α : Type} {l : List α} {i : Nat} {c : α} (h : l[i]? = some c) : l.take (i + 1) = l.take i ++ [c] := by
  rw [List.take_add_one, h]; rfl
theorem lst_ext1 (s : ByteArray) (i : Nat) (c : UInt8) (h : (lst s)[i]? = some c) : lst (s.extract i (i + 1)) = [c] := by
  have hl : i < (lst s).length := (List.getElem?_eq_some_iff.1 h).1
  have hs : i < s.size := by rw [← yK]; exact hl
  unfold lst at h ⊢
  rw [ByteArray.data_extract, Array.toList_extract, List.extract_eq_take_drop]
  rw [show i + 1 - i = 1 from by omega, List.drop_eq_getElem_cons (by simpa using hs)]
  rw [List.getElem?_eq_getElem (by simpa using hs)] at h
  cases h
  rfl
theorem lst_app (s t : ByteArray) : lst (s ++ t) = lst s ++ lst t := app_list s t
theorem tdiv_pos (n : Int) (k : Int) (h : 0 ≤ n) (hk : 0 < k) : n.tdiv k = n / k := Int.tdiv_eq_ediv_of_nonneg h
theorem tmod_pos (n : Int) (k : Int) (h : 0 ≤ n) : n.tmod k = n % k := Int.tmod_eq_emod_of_nonneg h
theorem natF_stop {i : Nat} {u : Int} (h0 : 0 ≤ u) (h : u < 10) : natF (i + 1) u.toNat = [UInt8.ofNat (48 + (u % 10).toNat)] := by
  rw [natF, if_pos (by omega)]
  rw [show u.toNat = (u % 10).toNat by omega]
theorem natF_step {i : Nat} {u : Int} (h0 : 0 ≤ u) (h : 10 ≤ u) : natF (i + 1) u.toNat = natF i (u / 10).toNat ++ [UInt8.ofNat (48 + (u % 10).toNat)] := by
  rw [natF, if_neg (by omega)]
  rw [show u.toNat / 10 = (u / 10).toNat by omega, show u.toNat % 10 = (u % 10).toNat by omega]
theorem dig_av {u : Int} (h0 : 0 ≤ u) : ofI (IntKind.u8.wrap (48 + IntKind.u8.wrap (u % 10))) = UInt8.ofNat (48 + (u % 10).toNat) := by
  rw [wrap8 (n := u % 10) (by omega) (by omega), wrap8 (by omega) (by omega)]
  unfold ofI
  congr 1
  omega
theorem set_drop {l : Bs} {i : Nat} {c : UInt8} (h : i < l.length) : (l.set i c).drop i = c :: l.drop (i + 1) := by
  rw [List.drop_eq_getElem_cons (by simpa using h), List.getElem_set_self, List.drop_set_of_lt (by omega)]
def beI (u : Nat) (i : Nat) : UInt8 := UInt8.ofNat (u / 2 ^ (56 - 8 * i) % 256)
theorem be8 (u : Nat) : be 8 u = (List.range 8).map (beI u) := by
  simp only [be, List.range, List.range.loop, List.map_cons, List.map_nil, beI, List.nil_append, List.cons_append, Nat.div_div_eq_div_mul]
  simp
theorem be8_take (u i : Nat) (h : i < 8) : (be 8 u).take (i + 1) = (be 8 u).take i ++ [beI u i] := by
  refine yG ?_
  rw [be8, List.getElem?_map, List.getElem?_range h]; rfl
def highs : Bs := [56, 48, 40, 32, 24, 16, 8, 0]
theorem highs_at (i : Nat) (h : i < 8) : bA highs (i : Int) = 56 - 8 * (i : Int) := by
  have key : ∀ k : Fin 8, bA highs ((k.val : Nat) : Int) = 56 - 8 * ((k.val : Nat) : Int) := by decide
  exact key ⟨i, h⟩
theorem high_av (u : Int) (i : Nat) (h0 : 0 ≤ u) (h : i < 8) : AV.v (.int .u8 (IntKind.u8.wrap (u.fdiv (2 ^ (min (bA highs (i : Int)).toNat IntKind.u64.bits))))) = .v (xi (beI u.toNat i)) := by
  rw [highs_at i h]
  have e : min (56 - 8 * (i : Int)).toNat IntKind.u64.bits = 56 - 8 * i := by
    have : IntKind.u64.bits = 64 := by decide
    omega
  rw [e, Int.fdiv_eq_ediv_of_nonneg _ (Int.pow_nonneg (by decide))]
  have e2 : IntKind.u8.wrap (u / 2 ^ (56 - 8 * i)) = ((u.toNat / 2 ^ (56 - 8 * i) % 256 : Nat) : Int) := by
    have h1 : u / 2 ^ (56 - 8 * i) = ((u.toNat / 2 ^ (56 - 8 * i) : Nat) : Int) := by
      rw [Int.natCast_ediv, Int.natCast_pow, Int.toNat_of_nonneg h0]; rfl
    rw [h1]
    generalize u.toNat / 2 ^ (56 - 8 * i) = q
    simp [IntKind.wrap, IntKind.bits, IntKind.signed]
  rw [e2]
  refine byte_av ?_
  unfold beI
  rw [UInt8.toNat_ofNat']
  omega
theorem escs_snoc (s : Bs) (c : UInt8) : escs (s ++ [c]) = escs s ++ escB c := by rw [escs_append]; simp [escs]
theorem esc_quote {c : UInt8} (h : (c.toNat : Int) = 34 ∨ (c.toNat : Int) = 92) : escB c = [92, c] := by
  unfold escB
  rw [if_pos]
  rcases h with h | h
  · left; exact UInt8.toNat_inj.1 (by simpa using (by omega : c.toNat = 34))
  · right; exact UInt8.toNat_inj.1 (by simpa using (by omega : c.toNat = 92))
theorem esc_low {c : UInt8} (h1 : (c.toNat : Int) ≠ 34) (h2 : (c.toNat : Int) ≠ 92) (h : (c.toNat : Int) < 32) : escB c = 92 :: 117 :: 48 :: 48 :: hexB [c] := by
  unfold escB
  rw [if_neg, if_pos]
  · exact UInt8.lt_iff_toNat_lt.2 (by simpa using (by omega : c.toNat < 32))
  · rintro (rfl | rfl) <;> simp at h1 h2
theorem esc_plain {c : UInt8} (h1 : (c.toNat : Int) ≠ 34) (h2 : (c.toNat : Int) ≠ 92) (h : ¬ (c.toNat : Int) < 32) : escB c = [c] := by
  unfold escB
  rw [if_neg, if_neg]
  · intro h3; have := UInt8.lt_iff_toNat_lt.1 h3; simp at this; omega
  · rintro (rfl | rfl) <;> simp at h1 h2
theorem ex1_size {s : ByteArray} {i : Nat} (h : i < s.size) : (s.extract i (i + 1)).size = 1 := by
  obtain ⟨c, h1, _⟩ := bAt_nat s i h
  have := lst_ext1 s i c h1
  rw [← yK, this]; rfl
theorem esc1 {ys : List AV} {s : ByteArray} {i : Nat} {c : UInt8} (h : (lst s)[i]? = some c) (hq : (c.toNat : Int) = 34 ∨ (c.toNat : Int) = 92) : ys ++ zY (ByteArray.append ⟨#[92]⟩ (s.extract i (i + 1))).data.toList = ys ++ zY (escB c) := by
  have e : (ByteArray.append ⟨#[92]⟩ (s.extract i (i + 1))).data.toList = escB c := by
    have := lst_app ⟨#[92]⟩ (s.extract i (i + 1))
    rw [lst_ext1 s i c h] at this
    rw [esc_quote hq]; exact this
  rw [e]
theorem esc2 {ys : List AV} {s : ByteArray} {i : Nat} {c : UInt8} (h : (lst s)[i]? = some c) (h1 : (c.toNat : Int) ≠ 34) (h2 : (c.toNat : Int) ≠ 92) (h3 : (c.toNat : Int) < 32) : ys ++ zY (ByteArray.append ⟨#[92, 117, 48, 48]⟩ (ye (hexB (lst (s.extract i (i + 1)))))).data.toList = ys ++ zY (escB c) := by
  have e : (ByteArray.append ⟨#[92, 117, 48, 48]⟩ (ye (hexB (lst (s.extract i (i + 1)))))).data.toList = escB c := by
    have := lst_app ⟨#[92, 117, 48, 48]⟩ (ye (hexB (lst (s.extract i (i + 1)))))
    rw [lst_ext1 s i c h, xm] at this
    rw [esc_low h1 h2 h3, lst_ext1 s i c h]; exact this
  rw [e]
theorem esc3 {ys : List AV} {s : ByteArray} {i : Nat} {c : UInt8} (h : (lst s)[i]? = some c) (h1 : (c.toNat : Int) ≠ 34) (h2 : (c.toNat : Int) ≠ 92) (h3 : ¬ (c.toNat : Int) < 32) : ys ++ zY (s.extract i (i + 1)).data.toList = ys ++ zY (escB c) := by
  have e : (s.extract i (i + 1)).data.toList = escB c := by rw [esc_plain h1 h2 h3]; exact lst_ext1 s i c h
  rw [e]
theorem simp1 {v : GV} (h : v.kind = 1) : ye (xc v) = v.text := by unfold xc; rw [if_pos h, strOf_lst]
theorem simp2 {v : GV} (h : v.kind = 2) (hn : v.num = 0) : xc v = [102, 97, 108, 115, 101] := by unfold xc; rw [if_neg (by omega), if_pos h, if_pos hn]
theorem simp2' {v : GV} (h : v.kind = 2) (hn : v.num ≠ 0) : xc v = [116, 114, 117, 101] := by unfold xc; rw [if_neg (by omega), if_pos h, if_neg hn]
theorem simp3 {v : GV} (h : v.kind = 3) : xc v = decB v.num := by unfold xc; rw [if_neg (by omega), if_neg (by omega), if_pos h]
theorem simp4 {v : GV} (h : v.kind = 4) : xc v = 48 :: 120 :: hexB (be 8 v.bits.toNat) := by unfold xc; rw [if_neg (by omega), if_neg (by omega), if_neg (by omega), if_pos h]
theorem simp5 {v : GV} (h : v.kind = 5) : xc v = hexB (lst v.text) := by unfold xc; rw [if_neg (by omega), if_neg (by omega), if_neg (by omega), if_neg (by omega), if_pos h]
theorem simp6 {v : GV} (h : v.kind ≠ 1 ∧ v.kind ≠ 2 ∧ v.kind ≠ 3 ∧ v.kind ≠ 4 ∧ v.kind ≠ 5) : xc v = [] := by unfold xc; rw [if_neg (by omega), if_neg (by omega), if_neg (by omega), if_neg (by omega), if_neg (by omega)]
theorem json0 {v : GV} (h : v.kind = 0) : yv v = [110, 117, 108, 108] := by rw [jsonB_eq, if_pos h]
theorem jsonS {v : GV} (h : v.kind = 1 ∨ v.kind = 4 ∨ v.kind = 5) : yv v = wD (xc v) := by rw [jsonB_eq, if_neg (by omega), if_pos h]
theorem json6 {v : GV} (h : v.kind = 6) : yv v = 91 :: (x6 true v.list ++ [93]) := by rw [jsonB_eq, if_neg (by omega), if_neg (by omega), if_pos h]
theorem json7 {v : GV} (h : v.kind = 7) : yv v = 123 :: (xy true v.map ++ [125]) := by rw [jsonB_eq, if_neg (by omega), if_neg (by omega), if_neg (by omega), if_pos h]
theorem jsonE {v : GV} (h : v.kind ≠ 0 ∧ ¬ (v.kind = 1 ∨ v.kind = 4 ∨ v.kind = 5) ∧ v.kind ≠ 6 ∧ v.kind ≠ 7) : yv v = xc v := by rw [jsonB_eq, if_neg h.1, if_neg h.2.1, if_neg h.2.2.1, if_neg h.2.2.2]
theorem text6 {v : GV} (h : v.kind = 6 ∨ v.kind = 7) : wx v = ye (yv v) := by unfold wx textB; rw [if_pos h]
theorem textE {v : GV} (h : ¬ (v.kind = 6 ∨ v.kind = 7)) : wx v = ye (xc v) := by unfold wx textB; rw [if_neg h]
def nth {α : Type} (l : List α) (i : Nat) (d : α) : α := l.getD i d
theorem yr {α : Type} {l : List α} {i : Nat} {d : α} (h : i < l.length) : l[i]? = some (nth l i d) := by
  unfold nth
  rw [List.getD_eq_getElem?_getD, List.getElem?_eq_getElem h]; rfl
theorem nth_mem {α : Type} {l : List α} {i : Nat} {d : α} (h : i < l.length) : nth l i d ∈ l := List.mem_of_getElem? (yr h)
theorem wY {α β : Type} {l : List α} {i : Nat} {d : α} {f : α → β} (h : i < l.length) : (l.map f)[((i : Nat) : Int).toNat]? = some (f (nth l i d)) := by
  rw [Int.toNat_natCast, List.getElem?_map, yr h]; rfl
def v0 : GV := .mk 0 ⟨#[]⟩ 0 0 [] []
def a0 : GA := .mk ⟨#[]⟩ v0
def nthV (l : List GV) (i : Nat) : GV := nth l i v0
def nthA (l : List GA) (i : Nat) : GA := nth l i a0
theorem ixV {l : List GV} {i : Nat} (h : i < l.length) : (l.map avV)[((i : Nat) : Int).toNat]? = some (nthV l i).av := by rw [wY (d := v0) h, avV_eq]; rfl
theorem ixA {l : List GA} {i : Nat} (h : i < l.length) : (l.map avA)[((i : Nat) : Int).toNat]? = some (nthA l i).av := by rw [wY (d := a0) h, avA_eq]; rfl
theorem nthV_mem {l : List GV} {i : Nat} (h : i < l.length) : nthV l i ∈ l := nth_mem h
theorem nthA_mem {l : List GA} {i : Nat} (h : i < l.length) : nthA l i ∈ l := nth_mem h
theorem jsonVs_take {l : List GV} {i : Nat} (h : i < l.length) : x6 true (l.take (i + 1)) = x6 true (l.take i) ++ comma (i == 0) ++ yv (nthV l i) := by
  rw [yG (yr (d := v0) h), jsonVs_snoc]
  congr 3
  cases i with
  | zero => rfl
  | succ i => cases l with
    | nil => simp at h
    | cons x xs => simp
theorem jsonAs_take {l : List GA} {i : Nat} (h : i < l.length) : xy true (l.take (i + 1)) = xy true (l.take i) ++ comma (i == 0) ++ jsonA (nthA l i) := by
  rw [yG (yr (d := a0) h), jsonAs_snoc]
  congr 3
  cases i with
  | zero => rfl
  | succ i => cases l with
    | nil => simp at h
    | cons x xs => simp
theorem jsonVs_len : ∀ (l : List GV) (f : Bool), (x6 f l).length ≤ 150 * wtVs l
  | [], f => by simp [x6]
  | x :: xs, f => by
    simp only [x6, wtVs, List.length_append]
    have := xP x; have := jsonVs_len xs false; have := comma_length f; omega
theorem jsonA_len (a : GA) : (jsonA a).length + 1 ≤ 150 * a.wt := by
  have := xP a.val; have := a.wt_eq; have := zw (lst a.key); have := yK a.key
  rw [jsonA_eq]; simp only [List.length_append, List.length_cons, List.length_nil]; omega
theorem jsonAs_len : ∀ (l : List GA) (f : Bool), (xy f l).length ≤ 150 * wtAs l
  | [], f => by simp [xy]
  | x :: xs, f => by
    simp only [xy, wtAs, List.length_append]
    have := jsonA_len x; have := jsonAs_len xs false; have := comma_length f; omega
theorem wtVs_take (l : List GV) (i : Nat) : wtVs (l.take i) ≤ wtVs l := by
  have := wtVs_append (l.take i) (l.drop i); rw [List.take_append_drop] at this; omega
theorem wtAs_take (l : List GA) (i : Nat) : wtAs (l.take i) ≤ wtAs l := by
  have := wtAs_append (l.take i) (l.drop i); rw [List.take_append_drop] at this; omega
theorem wtVs_nth {l : List GV} {i : Nat} (h : i < l.length) : wtVs (l.take i) + (nthV l i).wt ≤ wtVs l := by
  have := wtVs_take l (i + 1); rw [yG (yr (d := v0) h), wtVs_append] at this; simp only [wtVs, Nat.add_zero] at this; exact this
theorem y5 {l : List GA} {i : Nat} (h : i < l.length) : wtAs (l.take i) + (nthA l i).wt ≤ wtAs l := by
  have := wtAs_take l (i + 1); rw [yG (yr (d := a0) h), wtAs_append] at this; simp only [wtAs, Nat.add_zero] at this; exact this
end Go.Proofs
namespace Go.Proofs
open Go Go.Al
end Go.Proofs
namespace Go.Proofs
open Go Go.Al
def ge0 : GE := ⟨0, ⟨#[]⟩, []⟩
def gl0 : GL := ⟨[], [], ⟨#[]⟩, []⟩
def gs0 : GSpan := ⟨[], [], [], ⟨#[]⟩, ⟨#[]⟩, 0, 0, 0, [], [], [], 0, ⟨#[]⟩⟩
def gc0 : GScope := ⟨⟨#[]⟩, ⟨#[]⟩, []⟩
def gr0 : GRes := ⟨[], []⟩
def nthE (l : List GE) (i : Nat) : GE := nth l i ge0
def nthL (l : List GL) (i : Nat) : GL := nth l i gl0
def nthS (l : List GSpan) (i : Nat) : GSpan := nth l i gs0
def nthC (l : List GScope) (i : Nat) : GScope := nth l i gc0
def nthR (l : List GRes) (i : Nat) : GRes := nth l i gr0
theorem ixE {l : List GE} {i : Nat} (h : i < l.length) : (l.map GE.av)[((i : Nat) : Int).toNat]? = some (nthE l i).av := wY h
theorem ixL {l : List GL} {i : Nat} (h : i < l.length) : (l.map GL.av)[((i : Nat) : Int).toNat]? = some (nthL l i).av := wY h
theorem ixS {l : List GSpan} {i : Nat} (h : i < l.length) : (l.map GSpan.av)[((i : Nat) : Int).toNat]? = some (nthS l i).av := wY h
theorem ixC {l : List GScope} {i : Nat} (h : i < l.length) : (l.map GScope.av)[((i : Nat) : Int).toNat]? = some (nthC l i).av := wY h
theorem ixR {l : List GRes} {i : Nat} (h : i < l.length) : (l.map GRes.av)[((i : Nat) : Int).toNat]? = some (nthR l i).av := wY h
theorem nthE_mem {l : List GE} {i : Nat} (h : i < l.length) : nthE l i ∈ l := nth_mem h
theorem nthL_mem {l : List GL} {i : Nat} (h : i < l.length) : nthL l i ∈ l := nth_mem h
theorem nthS_mem {l : List GSpan} {i : Nat} (h : i < l.length) : nthS l i ∈ l := nth_mem h
theorem nthC_mem {l : List GScope} {i : Nat} (h : i < l.length) : nthC l i ∈ l := nth_mem h
theorem wu {l : List GRes} {i : Nat} (h : i < l.length) : nthR l i ∈ l := nth_mem h
theorem getA_mem : ∀ {l : List GA} {k : ByteArray} {v : GV}, getA l k = some v → ∃ a ∈ l, a.val = v ∧ a.key = k
  | x :: xs, k, v, h => by
    rw [getA] at h
    split at h
    · rename_i hk; cases h; exact ⟨x, List.mem_cons_self, rfl, hk⟩
    · obtain ⟨a, h1, h2⟩ := getA_mem h; exact ⟨a, List.mem_cons_of_mem _ h1, h2⟩
theorem textA_le (l : List GA) (k : ByteArray) : (textA l k).size ≤ 150 * wtAs l := by
  unfold textA
  cases h : getA l k with
  | none => exact Nat.zero_le _
  | some v =>
    obtain ⟨a, h1, rfl, _⟩ := getA_mem h
    have := xt h1
    have := a.wt_eq
    have : (wx a.val).size ≤ 150 * a.val.wt := by rw [wx, yJ]; exact textB_length _
    simp only [Option.getD_some]; omega
theorem textM_le (v : GV) : (wx v).size ≤ 150 * v.wt := by rw [wx, yJ]; exact textB_length _
theorem serviceM_le (r : GRes) : (yO r).size ≤ 150 * r.wt := by
  have := textA_le r.attrs skey
  unfold yO GRes.wt; omega
theorem xn {X : AV} {n : Nat} (h : X.width = n) (ha : (SV.imm X).isAgg = true) : getS 8 (.imm X) 0 n true = some (.imm X) := by
  unfold getS
  exact if_pos ⟨rfl, by rw [SV.width]; exact h, ha⟩
theorem wl {X Y : AV} (h : X.width = Y.width) (ha : (SV.imm X).isAgg = (SV.imm Y).isAgg) : setS 8 (.imm X) 0 (.imm Y) = some (.imm Y) := by
  unfold setS
  exact if_pos ⟨rfl, by rw [SV.width, SV.width]; exact h, ha⟩
theorem beqW {a b : Nat} (h : a = b) : Nat.beq a b = true := by subst h; exact Nat.beq_refl a
theorem GSpan.width (s : GSpan) : s.av.width = 42 := by
  simp only [GSpan.av, AV.width, AV.widths, sv, iv, uv]; rfl
theorem GL.width (s : GL) : s.av.width = 26 := by
  simp only [GL.av, AV.width, AV.widths, sv, iv, uv]; rfl
end Go.Proofs
namespace Go.Al
open Go.RowKit
section
variable {P : Program}
def AVTs (P : Program) (n : Nat) : List TypeId → List AV → Prop
  | [], [] => True
  | t :: ts, x :: xs => AVT P n t x ∧ AVTs P n ts xs
  | _, _ => False
theorem avts_of {n : Nat} : ∀ {tys : List TypeId} {l : List AV}, l.length = tys.length → (∀ (j : Nat) t x, tys[j]? = some t → l[j]? = some x → AVT P n t x) → AVTs P n tys l
  | [], [], _, _ => trivial
  | [], _ :: _, h, _ => by simp at h
  | _ :: _, [], h, _ => by simp at h
  | t :: ts, x :: xs, h, k => ⟨k 0 t x rfl rfl, avts_of (by simpa using h) fun j t' x' h1 h2 => k (j + 1) t' x' (by simpa using h1) (by simpa using h2)⟩
theorem AVT.struct {n : Nat} {T : TypeId} {X : AV} {fs : Array Field} {tys : List TypeId} (h : AVT P n T X) (hu : P.underlying T = some (.struct fs)) (ht : fs.toList.map (·.type) = tys) : ∃ m l, n = m + 1 ∧ X = .agg l ∧ AVTs P m tys l := by
  cases n with
  | zero => exact h.elim
  | succ n =>
    simp only [AVT, hu] at h
    obtain ⟨l, h1, h2, h3⟩ := h
    refine ⟨n, l, rfl, h1, avts_of (by rw [h2, ← ht]; simp) fun j t x hj hx => ?_⟩
    rw [← ht, List.getElem?_map] at hj
    cases hf : fs.toList[j]? with
    | none => rw [hf] at hj; cases hj
    | some fl => rw [hf] at hj; cases hj; exact h3 j fl x hf hx
theorem AVT.sl {n w : Nat} {T e : TypeId} {X : AV} (h : AVT P n T X) (hu : P.underlying T = some (.slice e)) (hw : P.cellsOf e = w) : ∃ m l, n = m + 1 ∧ X = .sl w l ∧ ∀ x ∈ l, AVT P m e x := by
  cases n with
  | zero => exact h.elim
  | succ n =>
    simp only [AVT, hu] at h
    obtain ⟨l, h1, h2⟩ := h
    exact ⟨n, l, rfl, by rw [← hw]; exact h1, h2⟩
theorem AVT.int {n : Nat} {T : TypeId} {X : AV} {k : IntKind} (h : AVT P n T X) (hu : P.underlying T = some (.int k)) : ∃ i, X = .v (.int k i) ∧ (Lit.int k i).wf = true := by
  cases n with
  | zero => exact h.elim
  | succ n => simp only [AVT, hu] at h; exact h
theorem AVT.str {n : Nat} {T : TypeId} {X : AV} (h : AVT P n T X) (hu : P.underlying T = some .string) : ∃ s : ByteArray, X = .v (.string s) ∧ s.size ≤ maxLen := by
  cases n with
  | zero => exact h.elim
  | succ n => simp only [AVT, hu] at h; exact h
theorem AVT.bool {n : Nat} {T : TypeId} {X : AV} (h : AVT P n T X) (hu : P.underlying T = some .bool) : ∃ b, X = .v (.bool b) := by
  cases n with
  | zero => exact h.elim
  | succ n => simp only [AVT, hu] at h; exact h
theorem AVT.arr {n m : Nat} {T e : TypeId} {X : AV} (h : AVT P n T X) (hu : P.underlying T = some (.array m e)) (he : P.underlying e = some (.int .u8)) : ∃ l : List UInt8, X = .arr m l ∧ l.length = m := by
  cases n with
  | zero => exact h.elim
  | succ n => simp only [AVT, hu, he] at h; exact h
theorem glob_bytes {w : World} {g : Nat} {l : List UInt8} (h : ∀ i, i < l.length → w.cell? ⟨g, i, none⟩ = some (xi (l.getD i 0))) (h0 : 0 < l.length) :
    Glob [(g, .arr l.length l)] w (fun b _ => b < w.heap.size) := by
  intro p hp
  cases List.mem_singleton.1 hp
  refine ⟨l.map xi, by simp only [RepC]; exact ⟨trivial, trivial⟩, fun j hj => ?_⟩
  simp only [List.length_map] at hj
  have hc := h j hj
  refine ⟨?_, ?_⟩
  · rw [Nat.zero_add, hc]
    simp [List.getD, hj]
  · show g < w.heap.size
    have : w.heap.size ≤ g → False := by
      intro hle
      simp only [World.cell?] at hc
      rw [Array.getElem?_eq_none hle] at hc
      cases hc
    exact Nat.lt_of_not_le this
end
end Go.Al
namespace Go.Al
open Go.RowKit
end Go.Al
namespace Go.Proofs
open Go Go.Al
set_option maxRecDepth 10000
def dtys : List TypeId := [3, 4, 5, 9, 22, 24, 26, 28, 29, 30, 31, 32, 34, 36, 37, 44, 47, 59, 61, 64, 66, 68, 69, 71, 73, 90, 105]
theorem dtys_ok : dataTys Tryd.prog dtys = true := by kernel_rfl
theorem kids : Kids Tryd.prog (· < Tryd.prog.types.size) := kids_rows (by kernel_rfl) (by kernel_rfl)
theorem full : ∀ t e, t < Tryd.prog.types.size → Tryd.prog.underlying t = some (.slice e) → 0 < Tryd.prog.cellsOf e := slices_full_of _ (by kernel_rfl)
end Go.Proofs
namespace Go.Proofs
open Go Go.Al
theorem cmp_bl : ∀ a b : Bs, (Lib.compareBytes a b < 0 ↔ Op.bytesLess a b = true) ∧ (Lib.compareBytes a b = 0 ↔ a = b)
  | [], [] => by simp [Lib.compareBytes, Op.bytesLess]
  | [], _ :: _ => by simp [Lib.compareBytes, Op.bytesLess]
  | _ :: _, [] => by simp [Lib.compareBytes, Op.bytesLess]
  | x :: a, y :: b => by
    have ih := cmp_bl a b
    simp only [Lib.compareBytes, Op.bytesLess]
    by_cases h : x < y
    · have : ¬ x = y := by rintro rfl; exact absurd h (UInt8.lt_irrefl _)
      simp [h, this]
    · by_cases h2 : y < x
      · have : ¬ x = y := by rintro rfl; exact absurd h2 (UInt8.lt_irrefl _)
        simp [h, h2, this]
      · have : x = y := UInt8.le_antisymm (UInt8.not_lt.1 h2) (UInt8.not_lt.1 h)
        subst this
        simp [h, ih.1, ih.2]
def cmpK (s t : ByteArray) : Int := Lib.compareBytes s.data.toList t.data.toList
theorem cmpK_lt (s t : ByteArray) : cmpK s t < 0 ↔ ltB s t = true := (cmp_bl _ _).1
theorem cmpK_eq (s t : ByteArray) : cmpK s t = 0 ↔ s = t := (cmp_bl _ _).2.trans ⟨str_ext, fun h => by rw [h]⟩
def posA : List GA → ByteArray → Nat
  | [], _ => 0
  | x :: xs, k => if ltB x.key k then posA xs k + 1 else 0
theorem posA_le : ∀ (l : List GA) (k : ByteArray), posA l k ≤ l.length
  | [], _ => Nat.le_refl _
  | x :: xs, k => by rw [posA]; split; (have := posA_le xs k; simp; omega); simp
theorem posA_spec : ∀ (l : List GA) (k : ByteArray) (lo : Nat), lo ≤ l.length → (∀ i, i < lo → ltB (nthA l i).key k = true) → (∀ i, lo ≤ i → i < l.length → ltB (nthA l i).key k = false) → lo = posA l k
  | [], k, lo, h1, _, _ => by simpa [posA] using h1
  | x :: xs, k, 0, h1, h2, h3 => by
    have := h3 0 (Nat.le_refl _) (by simp)
    rw [posA, if_neg (by simpa [nthA, nth] using this)]
  | x :: xs, k, lo + 1, h1, h2, h3 => by
    have h4 := h2 0 (by omega)
    rw [posA, if_pos (by simpa [nthA, nth] using h4)]
    rw [posA_spec xs k lo (by simpa using h1) (fun i hi => by have := h2 (i + 1) (by omega); simpa [nthA, nth] using this) (fun i hi hl => by have := h3 (i + 1) (by omega) (by simp; omega); simpa [nthA, nth] using this)]
theorem ris_nth : ∀ {l : List GA} {p : Option ByteArray}, risA p l → ∀ {i j : Nat}, i < j → j < l.length → ltB (nthA l i).key (nthA l j).key = true
  | x :: xs, p, h, 0, j + 1, _, hj => by
    have := risA_mem h.2 (nthA xs j) (nthA_mem (by simpa using hj))
    simpa [nthA, nth] using this
  | x :: xs, p, h, i + 1, j + 1, hij, hj => by
    have := ris_nth h.2 (i := i) (j := j) (by omega) (by simpa using hj)
    simpa [nthA, nth] using this
theorem ris_left {l : List GA} (h : risA none l) {k : ByteArray} {m i : Nat} (hm : m < l.length) (hk : ltB (nthA l m).key k = true) (hi : i ≤ m) : ltB (nthA l i).key k = true := by
  rcases Nat.lt_or_ge i m with h1 | h1
  · exact ltB_trans (ris_nth h h1 hm) hk
  · rw [show i = m by omega]; exact hk
theorem ris_right {l : List GA} (h : risA none l) {k : ByteArray} {m i : Nat} (hk : ltB (nthA l m).key k = false) (hi : m ≤ i) (hl : i < l.length) : ltB (nthA l i).key k = false := by
  rcases Nat.lt_or_ge m i with h1 | h1
  · cases hq : ltB (nthA l i).key k with
    | false => rfl
    | true => rw [ltB_trans (ris_nth h h1 hl) hq] at hk; cases hk
  · rw [show i = m by omega]; exact hk
def hasA (l : List GA) (k : ByteArray) : Bool := decide (posA l k < l.length) && decide ((nthA l (posA l k)).key = k)
theorem getA_pos : ∀ {l : List GA} {p : Option ByteArray} (h : risA p l) (k : ByteArray), getA l k = if hasA l k then some (nthA l (posA l k)).val else none
  | [], _, _, k => by simp [getA, hasA, posA]
  | x :: xs, p, h, k => by
    rw [getA, hasA, posA]
    by_cases hx : ltB x.key k = true
    · have hne : ¬ x.key = k := by intro e; rw [e, ltB_irrefl] at hx; cases hx
      rw [if_neg hne, getA_pos h.2 k, hasA]
      simp only [hx, if_true]
      simp [nthA, nth]
    · simp only [hx]
      by_cases he : x.key = k
      · simp [he, nthA, nth]
      · have hno : getA xs k = none := by
          cases hg : getA xs k with
          | none => rfl
          | some v =>
            obtain ⟨a, ha, _, hk⟩ := getA_mem hg
            have := risA_mem h.2 a ha
            rw [hk] at this
            exact absurd this hx
        simp [he, hno, nthA, nth]
theorem intoA_pos : ∀ (l : List GA) (a : GA), wQ l a = l.take (posA l a.key) ++ [a] ++ (if hasA l a.key then l.drop (posA l a.key + 1) else l.drop (posA l a.key))
  | [], a => by simp [wQ, posA, hasA]
  | x :: xs, a => by
    rw [wQ, hasA, posA]
    by_cases hx : ltB x.key a.key = true
    · rw [if_pos hx, intoA_pos xs a, hasA]
      simp only [hx, if_true]
      simp [nthA, nth]
    · rw [if_neg hx]
      simp only [hx]
      by_cases he : x.key = a.key
      · simp [he, nthA, nth]
      · simp [he, nthA, nth]
end Go.Proofs
namespace Go.Proofs
open Go Go.Al
theorem drop_nth {α : Type} {l : List α} {i : Nat} {d : α} (h : i < l.length) : l.drop i = nth l i d :: l.drop (i + 1) := by
  rw [List.drop_eq_getElem_cons h]
  congr 1
  unfold nth
  rw [List.getD_eq_getElem?_getD, List.getElem?_eq_getElem h]; rfl
end Go.Proofs
namespace Go.Proofs
open Go Go.Al
set_option maxRecDepth 10000
theorem dgrown_c (xs : List AV) (hw : W1 xs) (hl : xs.length ≤ 1000000000000) : wV Tryd.prog Γ0 120 [.imm (.sl 1 xs)] [] (.slg 3009 1 xs) [(3009, .tok 1 xs)] := by
  refine x_ (rs := [.slg 3009 1 xs]) Tryd.func120 rfl Tryd.ntmps120 (by kernel_rfl) rfl rfl rfl rfl rfl fun w0 I0 G0 E => ?_
  refine zD <| zB <| g_u (zE rfl rfl) <| zG <| zA <| zD <| zB <| g_u (zC rfl rfl) <| g_u (yB rfl rfl Tryd.underlying90) <| g_u (zC rfl rfl) <| g_u (yB rfl rfl Tryd.underlying90) <| g_u (yZ rfl rfl rfl) ?_
  refine g_uG (wH 1009 (X0 := z5) (len := xs.length) (cap := xs.length + 21) rfl rfl rfl rfl rfl rfl (by ((try simp only [decide_eq_true_eq, qb, bne_iff_ne, ne_eq, beq_iff_eq, qd, qe, Bool.not_eq_true', Bool.not_eq_false', gt_iff_lt, ge_iff_le] at *); (repeat simp (disch := omega) only [zj, ym] at *)); omega) Tryd.underlying90 tS5 tZ5 rfl rfl by5 (by omega) (by omega) (by omega)) rfl ?_
  refine g_u (s_as_osl rfl rfl) <| zG <| zA <| zD <| zB <| g_u (s_mv_osl rfl rfl) <| g_u (zC rfl rfl) ?_
  refine g_u (s_copy_in (el := 5) (el' := 0) (T1 := 0) rfl rfl rfl rfl rfl Tryd.underlying90 tS5 (by intro x hx; rw [List.eq_of_mem_replicate hx]; rfl) (by simp <;> omega)) ?_
  refine zG <| zA ?_
  refine wb 1009 3009 1 (xs) [(0, .imm (.sl 1 xs)), (3, .slg 3009 1 xs)] rfl rfl rfl rfl rfl rfl rfl ⟨.inl rfl, .inr (.inl ⟨rfl, rfl⟩), trivial⟩ (cp_w (hw) rfl) (by rw [← cp_len rfl (by simp <;> omega)]; simp <;> omega) (by omega) (by unfold maxLen; omega) (cp_take rfl (by simp <;> omega)) ?_
  refine zD <| zB <| g_u (zy rfl rfl) <| g_u (z0 rfl rfl) <| zG <| zA <| zM ?_
  exact ⟨⟨.inr ⟨_, rfl, (by rfl), rfl⟩, trivial⟩, ⟨rfl, trivial⟩⟩
theorem dlay_c (xs : List AV) (u : Int) (h : 0 ≤ u ∧ u < 18446744073709551616) (hl : xs.length ≤ 1000000000000) : wV Tryd.prog Γ0 121 [.slg 100001 1 xs, .imm (uv u)] [(100001, .tok 1 xs)] (.slg 100001 1 (xs ++ zY (natB u.toNat))) [(100001, .tok 1 (xs ++ zY (natB u.toNat)))] := by
  refine x_ (rs := [.slg 100001 1 (xs ++ zY (natB u.toNat))]) Tryd.func121 rfl Tryd.ntmps121 (by kernel_rfl) rfl rfl rfl rfl rfl fun w0 I0 G0 E => ?_
  refine zD <| zB <| g_u (zE rfl rfl) <| zG <| zA <| zD <| zB <| g_uG (zg 1005 rfl rfl rfl tZ164) rfl <| zG <| zA <| zD <| zB <| g_u (zE rfl rfl) <| zG <| zA <| zD <| zQ ?_
  refine yA (fun j : Nat × Int × Bs => [(0, .slg 100001 1 xs), (100001, .tok 1 xs), (1, .imm (uv j.2.1)), (5, .ptr 1005 0), (1005, .box 164 (.imm (.arr 20 j.2.2))), (6, .imm (iv (j.1 : Int)))]) (fun j => 1 ≤ j.1 ∧ j.1 ≤ 20 ∧ j.2.2.length = 20 ∧ (0 ≤ j.2.1 ∧ j.2.1 < 18446744073709551616 ∧ j.2.1 < 10 ^ j.1) ∧ natF j.1 j.2.1.toNat ++ j.2.2.drop j.1 = natB u.toNat) (fun j => j.1) (⟨20, u, List.replicate 20 0⟩) ?_ ⟨rfl, rfl, rfl, rfl, rfl, rfl, trivial⟩ ?_
  · exact ⟨by dsimp only; omega, by dsimp only; omega, by simp, ⟨h.1, h.2, by have := h.2; show u < 10 ^ 20; omega⟩, by rw [show (List.replicate 20 (0 : UInt8)).drop 20 = [] from rfl, List.append_nil]; rfl⟩
  · rintro ⟨i, v, l⟩ ⟨h1, h2, h3, h4, h5⟩; dsimp only at h1 h2 h3 h4 h5; obtain ⟨i, rfl⟩ : ∃ k, i = k + 1 := ⟨i - 1, by omega⟩; have e0 : 0 + (IntKind.i64.wrap (((i + 1 : Nat) : Int) - 1)).toNat = i := by rw [zj (by omega) (by omega)]; omega
    refine zQ <| zD <| zB <| g_u (zC rfl rfl) <| g_u (s_sub rfl rfl rfl) <| g_u (zE rfl rfl) <| zG <| zA <| zD <| zB <| g_u (zC rfl rfl) <| g_u (zC rfl rfl) ?_
    refine g_u (s_rem rfl rfl rfl (by first | decide | omega | (((try simp only [decide_eq_true_eq, qb, bne_iff_ne, ne_eq, beq_iff_eq, qd, qe, Bool.not_eq_true', Bool.not_eq_false', gt_iff_lt, ge_iff_le] at *); (repeat simp (disch := omega) only [zj, ym] at *)); omega))) ?_
    refine g_u (s_cvII rfl rfl Tryd.underlying29 Tryd.underlying5) <| g_u (yZ rfl rfl rfl) ?_
    refine g_u (s_ixOwn rfl rfl rfl Tryd.underlying164 tS5 (by ((try simp only [decide_eq_true_eq, qb, bne_iff_ne, ne_eq, beq_iff_eq, qd, qe, Bool.not_eq_true', Bool.not_eq_false', gt_iff_lt, ge_iff_le] at *); (repeat simp (disch := omega) only [zj, ym] at *)); omega)) ?_
    refine g_u (s_storeByte rfl rfl rfl tS5 (by ((try simp only [decide_eq_true_eq, qb, bne_iff_ne, ne_eq, beq_iff_eq, qd, qe, Bool.not_eq_true', Bool.not_eq_false', gt_iff_lt, ge_iff_le] at *); (repeat simp (disch := omega) only [zj, ym] at *)); omega) (wrap8_lt _)) ?_
    refine zG <| zA <| zD <| zB <| g_u (zC rfl rfl) ?_
    refine g_u (s_quo rfl rfl rfl (by first | decide | omega | (((try simp only [decide_eq_true_eq, qb, bne_iff_ne, ne_eq, beq_iff_eq, qd, qe, Bool.not_eq_true', Bool.not_eq_false', gt_iff_lt, ge_iff_le] at *); (repeat simp (disch := omega) only [zj, ym] at *)); omega))) ?_
    refine g_u (zE rfl rfl) <| zG <| zA <| zD <| zB <| g_u (zC rfl rfl) <| g_u (xx rfl rfl rfl) <| zG <| zA ?_
    refine zT rfl (fun hb1 => ?_) (fun hb1 => ?_)
    · refine yM ?_
      refine exit_blk_ne rfl <| ze <| z8 <| zA <| zD <| zB <| g_u (zy rfl rfl) <| g_u (zC rfl rfl) ?_
      refine g_u (s_slOwn_l rfl rfl rfl rfl rfl Tryd.underlying164 tS5 rfl (by ((try simp only [decide_eq_true_eq, qb, bne_iff_ne, ne_eq, beq_iff_eq, qd, qe, Bool.not_eq_true', Bool.not_eq_false', gt_iff_lt, ge_iff_le] at *); (repeat simp (disch := omega) only [zj, ym] at *)); omega)) ?_
      refine g_u (yH rfl rfl rfl rfl rfl Tryd.underlying90 Tryd.underlying90 tS5 zv5 rfl (by decide) by5 (by simp only [zo, List.length_drop, List.length_set]; omega) (by simp only [zo, List.length_drop, List.length_set]; omega)) ?_
      refine g_u (z0 rfl rfl) <| zG <| zA <| zM ?_
      change (IntKind.u64.wrap (v.tdiv 10) == 0) = true at hb1
      have e1 : IntKind.u64.wrap (v.tdiv 10) = v / 10 := by rw [tdiv_pos v 10 h4.1 (by decide), wrapu64 (by omega) (by omega)]
      rw [e1] at hb1
      have hu : v < 10 := by have : v / 10 = 0 := (by simpa using hb1); omega
      have E : zY ((l.set (0 + (IntKind.i64.wrap (((i + 1 : Nat) : Int) - 1)).toNat) (ofI (IntKind.u8.wrap (48 + IntKind.u8.wrap (v.tmod 10))))).drop (IntKind.i64.wrap (((i + 1 : Nat) : Int) - 1)).toNat) = zY (natB u.toNat) := by rw [Nat.zero_add] at e0; rw [Nat.zero_add, e0, tmod_pos v 10 h4.1, dig_av h4.1, set_drop (by omega), ← h5, natF_stop h4.1 hu]; rfl
      exact ⟨⟨.inr ⟨_, rfl, yT rfl (congrArg (xs ++ ·) E), rfl⟩, trivial⟩, ⟨yD rfl (congrArg (xs ++ ·) E), trivial⟩⟩
    · refine za ?_
      refine zU <| zA ?_
      have e1 : IntKind.u64.wrap (v.tdiv 10) = v / 10 := by rw [tdiv_pos v 10 h4.1 (by decide), wrapu64 (by omega) (by omega)]
      change (IntKind.u64.wrap (v.tdiv 10) == 0) = false at hb1
      rw [e1] at hb1
      have hu : 10 ≤ v := by have : v / 10 ≠ 0 := (by simpa using hb1); omega
      have hi : 1 ≤ i := by rcases Nat.eq_zero_or_pos i with rfl | hi; (simp at h4; omega); exact hi
      refine ⟨⟨i, IntKind.u64.wrap (v.tdiv 10), l.set (0 + (IntKind.i64.wrap (((i + 1 : Nat) : Int) - 1)).toNat) (ofI (IntKind.u8.wrap (48 + IntKind.u8.wrap (v.tmod 10))))⟩, ⟨hi, by dsimp only; omega, by simpa using h3, ?_, ?_⟩, ⟨rfl, rfl, rfl, rfl, rfl, zX rfl (by rw [zj (by omega) (by omega)]; omega), trivial⟩, Nat.lt_succ_self _⟩
      · dsimp only; rw [e1]; refine ⟨by omega, by omega, ?_⟩; have := h4.2.2; rw [Int.pow_succ] at this; omega
      · dsimp only; rw [e0, e1, tmod_pos v 10 h4.1, dig_av h4.1, set_drop (by omega)]; rw [natF_step h4.1 hu] at h5; simpa using h5
theorem dput_c (l : Bs) (n : Int) (h : -9223372036854775808 ≤ n ∧ n < 9223372036854775808) (hl : l.length ≤ 100000000000) : zi Tryd.prog Γ0 104 [.sl 1 (zY l), iv n] [.sl 1 (zY (l ++ decB n))] := by
  have hb := zo l
  have u0 : n < 0 → IntKind.u64.wrap (0 - IntKind.u64.wrap n) = -n := fun hn => by simp [IntKind.wrap, IntKind.bits, IntKind.signed]; omega
  have u1 : ¬ n < 0 → IntKind.u64.wrap n = n := fun hn => wrapu64 (by omega) (by omega)
  refine zO Tryd.func104 rfl Tryd.ntmps104 (by kernel_rfl) rfl fun w0 I0 G0 => ?_
  refine zD <| zB <| g_u (zE rfl rfl) <| zG <| zA <| zD <| zB <| g_u (zC rfl rfl) ?_
  refine g_uG (xp [(3009, 20001)] (dgrown_c _ (by first | assumption | exact W1.bytes _) (by first | assumption | omega)) rfl rfl ⟨.inl rfl, trivial⟩ trivial rfl rfl rfl) rfl ?_
  refine g_u (z0 rfl rfl) <| zG <| zA <| zD <| zD <| zB <| g_u (zC rfl rfl) <| g_u (xS rfl rfl rfl) <| zG <| zA ?_
  refine zT rfl (fun hb1 => ?_) (fun hb1 => ?_)
  · refine zD ?_
    refine zB <| g_u (zy rfl rfl) <| g_u (z_ (X0 := z5) rfl Tryd.underlying90 tS5 tZ5 rfl rfl rfl rfl rfl rfl rfl rfl) ?_
    refine g_u (yH rfl rfl rfl rfl rfl Tryd.underlying90 Tryd.underlying90 tS5 zv5 rfl (by decide) by5 (by simp only [List.length_cons, List.length_nil]; omega) (by simp only [List.length_cons, List.length_nil]; omega)) ?_
    refine g_u (zC rfl rfl) <| g_u (s_cvII rfl rfl Tryd.underlying3 Tryd.underlying29) <| g_u (s_neg rfl rfl) ?_
    refine g_uG (xp [(100001, 20001)] (dlay_c _ _ (by rw [u0 (by simpa using hb1)]; have : n < 0 := (by simpa using hb1); omega) (by simp only [List.length_append, List.length_cons, List.length_nil]; omega)) rfl rfl ⟨.inl rfl, .inl rfl, trivial⟩ ⟨rfl, trivial⟩ rfl rfl rfl) rfl ?_
    refine g_u (z0 rfl rfl) <| zG <| zA <| zM <| zV ?_
    exact ⟨⟨(rfl : toAV (Al.look _ _) = some _).trans (congrArg some (by (rw [u0 (by simpa using hb1)]; unfold decB; rw [if_pos (by simpa using hb1)]; rw [List.append_assoc]; simp only [← yF]; rfl))), rfl⟩, trivial⟩
  · refine za ?_
    refine zA <| zD <| zB <| g_u (zy rfl rfl) <| g_u (zC rfl rfl) <| g_u (s_cvII rfl rfl Tryd.underlying3 Tryd.underlying29) ?_
    refine g_uG (xp [(100001, 20001)] (dlay_c _ _ (by rw [u1 (by simpa using hb1)]; have : ¬ n < 0 := (by simpa using hb1); omega) (by omega)) rfl rfl ⟨.inl rfl, .inl rfl, trivial⟩ ⟨rfl, trivial⟩ rfl rfl rfl) rfl ?_
    refine g_u (z0 rfl rfl) <| zG <| zA <| zM ?_
    exact ⟨⟨(rfl : toAV (Al.look _ _) = some _).trans (congrArg some (by (rw [u1 (by simpa using hb1)]; unfold decB; rw [if_neg (by simpa using hb1)]; rw [yF]))), rfl⟩, trivial⟩
end Go.Proofs
namespace Go.Proofs
open Go Go.Al
set_option maxRecDepth 10000
theorem wgrown_c (xs : List AV) (m : Int) (hm : 0 ≤ m ∧ m ≤ 1000) (hw : W1 xs) (hl : xs.length ≤ 1000000000000) : wV Tryd.prog Γ0 133 [.imm (.sl 1 xs), .imm (iv m)] [] (.slg 3012 1 xs) [(3012, .tok 1 xs)] := by
  refine x_ (rs := [.slg 3012 1 xs]) Tryd.func133 rfl Tryd.ntmps133 (by kernel_rfl) rfl rfl rfl rfl rfl fun w0 I0 G0 E => ?_
  refine zD <| zB <| g_u (zE rfl rfl) <| zG <| zA <| zD <| zB <| g_u (zC rfl rfl) <| g_u (yB rfl rfl Tryd.underlying90) <| g_u (zC rfl rfl) <| g_u (yB rfl rfl Tryd.underlying90) <| g_u (zC rfl rfl) <| g_u (yZ rfl rfl rfl) ?_
  refine g_uG (wH 1012 (X0 := z5) (len := xs.length) (cap := xs.length + m.toNat) rfl rfl rfl rfl rfl rfl (by ((try simp only [decide_eq_true_eq, qb, bne_iff_ne, ne_eq, beq_iff_eq, qd, qe, Bool.not_eq_true', Bool.not_eq_false', gt_iff_lt, ge_iff_le] at *); (repeat simp (disch := omega) only [zj, ym] at *)); omega) Tryd.underlying90 tS5 tZ5 rfl rfl by5 (by omega) (by omega) (by omega)) rfl ?_
  refine g_u (s_as_osl rfl rfl) <| zG <| zA <| zD <| zB <| g_u (s_mv_osl rfl rfl) <| g_u (zC rfl rfl) ?_
  refine g_u (s_copy_in (el := 5) (el' := 0) (T1 := 0) rfl rfl rfl rfl rfl Tryd.underlying90 tS5 (by intro x hx; rw [List.eq_of_mem_replicate hx]; rfl) (by simp <;> omega)) ?_
  refine zG <| zA ?_
  refine wb 1012 3012 1 (xs) [(0, .imm (.sl 1 xs)), (5, .slg 3012 1 xs)] rfl rfl rfl rfl rfl rfl rfl ⟨.inl rfl, .inr (.inl ⟨rfl, rfl⟩), trivial⟩ (cp_w (hw) rfl) (by rw [← cp_len rfl (by simp <;> omega)]; simp <;> omega) (by omega) (by unfold maxLen; omega) (cp_take rfl (by simp <;> omega)) ?_
  refine zD <| zB <| g_u (zy rfl rfl) <| g_u (z0 rfl rfl) <| zG <| zA <| zM ?_
  exact ⟨⟨.inr ⟨_, rfl, (by rfl), rfl⟩, trivial⟩, ⟨rfl, trivial⟩⟩
theorem high_c (l : Bs) (u : Int) (h : 0 ≤ u ∧ u < 18446744073709551616) (hl : l.length ≤ 100000000000) : zi Tryd.prog Γ0 122 [.sl 1 (zY l), uv u] [.sl 1 (zY (l ++ be 8 u.toNat))] := by
  have hb := zo l
  refine zO Tryd.func122 rfl Tryd.ntmps122 (by kernel_rfl) rfl fun w0 I0 G0 => ?_
  refine zD <| zB <| g_u (zE rfl rfl) <| zG <| zA <| zD <| zB <| g_u (zC rfl rfl) ?_
  refine g_uG (xp [(3012, 20001)] (wgrown_c _ _ (by decide) (by first | assumption | exact W1.bytes _) (by first | assumption | omega)) rfl rfl ⟨.inl rfl, .inl rfl, trivial⟩ trivial rfl rfl rfl) rfl ?_
  refine g_u (z0 rfl rfl) <| zG <| zA <| zD <| zD <| zB <| g_u (zC rfl rfl) <| zG <| zA <| zQ ?_
  refine yA (fun j : Nat × List AV => [(1, .imm (uv u)), (5, .slg 20001 1 j.2), (20001, .tok 1 j.2), (9, .imm (iv (j.1 : Int)))]) (fun j => j.1 ≤ 8 ∧ j.2 = zY l ++ zY ((be 8 u.toNat).take j.1)) (fun j => 8 - j.1) (⟨0, zY l⟩) ?_ ⟨rfl, rfl, rfl, rfl, trivial⟩ ?_
  · exact ⟨Nat.zero_le _, (List.append_nil _).symm⟩
  · rintro ⟨i, ys⟩ ⟨h1, h2⟩; dsimp only at h1 h2; have hlen : ys.length ≤ l.length + 8 := by rw [h2, List.length_append, zo, zo, List.length_take, wa]; omega
    refine zD <| zB <| g_u (xS rfl rfl rfl) <| zG <| zA <| zD ?_
    refine zT rfl (fun hb1 => ?_) (fun hb1 => ?_)
    · refine za ?_
      refine zA <| zD <| zQ <| zD <| zB <| g_u (zC rfl rfl) <| g_u (zE rfl rfl) <| zG <| zA <| zB <| g_u (zy rfl rfl) <| g_u (zC rfl rfl) <| g_u (zC rfl rfl) ?_
      refine g_u (s_ixGlob rfl rfl rfl Tryd.underlying27 tS5 (by ((try simp only [decide_eq_true_eq, qb, bne_iff_ne, ne_eq, beq_iff_eq, qd, qe, Bool.not_eq_true', Bool.not_eq_false', gt_iff_lt, ge_iff_le] at *); (repeat simp (disch := omega) only [zj, ym] at *)); omega)) ?_
      refine g_u (zk rfl rfl tA5 tS5 rfl rfl) ?_
      refine g_u (s_shr rfl rfl rfl (by first | decide | exact (bA_lt _ _).1 | omega)) ?_
      refine g_u (s_cvII rfl rfl Tryd.underlying29 Tryd.underlying5) <| g_u (z_ (X0 := z5) rfl Tryd.underlying90 tS5 tZ5 rfl rfl rfl rfl rfl rfl rfl rfl) ?_
      refine g_u (yH rfl rfl rfl rfl rfl Tryd.underlying90 Tryd.underlying90 tS5 zv5 rfl (by decide) by5 (by (try dsimp only); simp only [List.length_cons, List.length_nil]; omega) (by (try dsimp only); simp only [List.length_cons, List.length_nil]; omega)) ?_
      refine g_u (z0 rfl rfl) <| zG <| zU <| zA <| zB <| g_u (yZ rfl rfl rfl) <| g_u (zC rfl rfl) <| zG <| zA ?_
      change decide ((i : Int) < 8) = true at hb1
      have hi : i < 8 := by have := of_decide_eq_true hb1; omega
      refine ⟨⟨i + 1, _⟩, ⟨hi, ?_⟩, ⟨rfl, rfl, rfl, zX rfl (by rw [zj (by omega) (by omega)]; rfl), trivial⟩, by dsimp only; omega⟩
      dsimp only
      rw [be8_take _ _ hi, ← yF, bytesL_one, ← List.append_assoc, ← h2]
      exact congrArg (fun z => ys ++ [z]) (high_av u i h.1 hi)
    · refine yM ?_
      refine ze <| ze <| z8 <| zA <| zD <| zB <| g_u (zy rfl rfl) <| g_u (z0 rfl rfl) <| zG <| zA <| zM ?_
      change decide ((i : Int) < 8) = false at hb1
      have hi : i = 8 := by have := of_decide_eq_false hb1; omega
      exact ⟨⟨(rfl : toAV (Al.look _ _) = some _).trans (congrArg (fun z => some (AV.sl 1 z)) (by rw [h2, hi, yF, List.take_of_length_le (Nat.le_of_eq (wa 8 _))])), rfl⟩, trivial⟩
theorem hput_c (l : Bs) (s : ByteArray) (hs : s.size ≤ 100000000000) (hl : l.length ≤ 100000000000) : zi Tryd.prog Γ0 123 [.sl 1 (zY l), sv s] [.sl 1 (zY (l ++ hexB (lst s)))] := by
  have hb := zo l
  have hz := yK s
  refine zO Tryd.func123 rfl Tryd.ntmps123 (by kernel_rfl) rfl fun w0 I0 G0 => ?_
  refine zD <| zB <| g_u (zE rfl rfl) <| zG <| zA <| zD <| zB <| g_u (zC rfl rfl) <| g_u (yB rfl rfl Tryd.underlying90) <| g_u (zC rfl rfl) <| g_u (yB rfl rfl Tryd.underlying90) <| g_u (zC rfl rfl) <| g_u (s_lenS rfl rfl Tryd.underlying9) <| g_u (s_mul rfl rfl rfl) <| g_u (yZ rfl rfl rfl) ?_
  refine g_uG (wH 1015 (X0 := z5) (len := (zY l).length) (cap := (zY l).length + 2 * s.size) rfl rfl rfl rfl rfl rfl (by ((try simp only [decide_eq_true_eq, qb, bne_iff_ne, ne_eq, beq_iff_eq, qd, qe, Bool.not_eq_true', Bool.not_eq_false', gt_iff_lt, ge_iff_le] at *); (repeat simp (disch := omega) only [zj, ym] at *)); omega) Tryd.underlying90 tS5 tZ5 rfl rfl by5 (by omega) (by omega) (by omega)) rfl ?_
  refine g_u (s_as_osl rfl rfl) <| zG <| zA <| zD <| zB <| g_u (s_mv_osl rfl rfl) <| g_u (zC rfl rfl) ?_
  refine g_u (s_copy_in (el := 5) (el' := 0) (T1 := 0) rfl rfl rfl rfl rfl Tryd.underlying90 tS5 (by intro x hx; rw [List.eq_of_mem_replicate hx]; rfl) (by simp <;> omega)) ?_
  refine zG <| zA ?_
  refine wb 1015 3015 1 (zY l) [(0, .imm (.sl 1 (zY l))), (1, .imm (sv s)), (5, .slg 3015 1 (zY l))] rfl rfl rfl rfl rfl rfl rfl ⟨.inl rfl, .inl rfl, .inr (.inl ⟨rfl, rfl⟩), trivial⟩ (cp_w (W1.bytes l) rfl) (by rw [← cp_len rfl (by simp <;> omega)]; simp <;> omega) (by omega) (by unfold maxLen; omega) (cp_take rfl (by simp <;> omega)) ?_
  refine zD <| zD <| zB <| g_u (zC rfl rfl) <| g_u (s_lenS rfl rfl Tryd.underlying9) <| g_u (zC rfl rfl) <| zG <| zA <| zQ ?_
  refine yA (fun j : Nat × List AV => [(1, .imm (sv s)), (5, .slg 3015 1 j.2), (3015, .tok 1 j.2), (20, .imm (iv (s.size : Int))), (21, .imm (iv (j.1 : Int)))]) (fun j => j.1 ≤ s.size ∧ j.2 = zY l ++ zY (hexB ((lst s).take j.1))) (fun j => s.size - j.1) (⟨0, zY l⟩) ?_ ⟨rfl, rfl, rfl, rfl, rfl, trivial⟩ ?_
  · exact ⟨Nat.zero_le _, (List.append_nil _).symm⟩
  · rintro ⟨i, ys⟩ ⟨h1, h2⟩; dsimp only at h1 h2; have hlen : ys.length ≤ l.length + 2 * s.size := by rw [h2, List.length_append, zo, zo, yV, List.length_take]; omega
    refine zD <| zB <| g_u (xS rfl rfl rfl) <| zG <| zA <| zD ?_
    refine zT rfl (fun hb1 => ?_) (fun hb1 => ?_)
    · refine za ?_
      refine zA <| zD <| zQ <| zD <| zB <| g_u (zC rfl rfl) <| g_u (zE rfl rfl) <| zG <| zA <| y3 wn <| g_u (zy rfl rfl) <| g_u (zC rfl rfl) <| g_u (zC rfl rfl) ?_
      refine g_u (si_ix rfl rfl rfl Tryd.underlying9 (by ((try simp only [decide_eq_true_eq, qb, bne_iff_ne, ne_eq, beq_iff_eq, qd, qe, Bool.not_eq_true', Bool.not_eq_false', gt_iff_lt, ge_iff_le] at *); (repeat simp (disch := omega) only [zj, ym] at *)); omega)) ?_
      refine g_u (s_shr rfl rfl rfl (by first | decide | omega | (((try simp only [decide_eq_true_eq, qb, bne_iff_ne, ne_eq, beq_iff_eq, qd, qe, Bool.not_eq_true', Bool.not_eq_false', gt_iff_lt, ge_iff_le] at *); (repeat simp (disch := omega) only [zj, ym] at *)); omega))) ?_
      refine g_u (si_ix rfl rfl rfl Tryd.underlying9 (by rw [shr4 _ (bAt_lt _ _)]; have := bAt_lt s (i : Int); show 0 ≤ bAt s (i : Int) / 16 ∧ bAt s (i : Int) / 16 < 16; omega)) ?_
      refine g_u (zC rfl rfl) <| g_u (zC rfl rfl) ?_
      refine g_u (si_ix rfl rfl rfl Tryd.underlying9 (by ((try simp only [decide_eq_true_eq, qb, bne_iff_ne, ne_eq, beq_iff_eq, qd, qe, Bool.not_eq_true', Bool.not_eq_false', gt_iff_lt, ge_iff_le] at *); (repeat simp (disch := omega) only [zj, ym] at *)); omega)) ?_
      refine g_u (s_and rfl rfl rfl) ?_
      refine g_u (si_ix rfl rfl rfl Tryd.underlying9 (by rw [and15 _ (bAt_lt _ _)]; have := bAt_lt s (i : Int); show 0 ≤ bAt s (i : Int) % 16 ∧ bAt s (i : Int) % 16 < 16; omega)) ?_
      refine g_u (z_ (X0 := z5) rfl Tryd.underlying90 tS5 tZ5 rfl rfl rfl rfl rfl rfl rfl rfl) ?_
      refine g_u (yH rfl rfl rfl rfl rfl Tryd.underlying90 Tryd.underlying90 tS5 zv5 rfl (by decide) by5 (by (try dsimp only); simp only [List.length_cons, List.length_nil]; omega) (by (try dsimp only); simp only [List.length_cons, List.length_nil]; omega)) ?_
      refine g_u (z0 rfl rfl) ?_
      refine zG ⟨by kernel_rfl, ?_⟩
      refine zU <| zA <| zB <| g_u (yZ rfl rfl rfl) <| g_u (zC rfl rfl) <| zG <| zA ?_
      change decide ((i : Int) < (s.size : Int)) = true at hb1
      have hi : i < s.size := by have := of_decide_eq_true hb1; omega
      obtain ⟨c, hc1, hc2⟩ := bAt_nat s i hi
      refine ⟨⟨i + 1, _⟩, ⟨hi, ?_⟩, ⟨rfl, rfl, rfl, rfl, zX rfl (by rw [zj (by omega) (by omega)]; rfl), trivial⟩, by dsimp only; omega⟩
      dsimp only
      rw [yG hc1, hexB_append, ← yF, ← List.append_assoc, ← h2]
      have hlt := c.toNat_lt
      have f1 : bAt digs ((bAt s (i : Int)).fdiv (2 ^ (min (4 : Int).toNat IntKind.u8.bits))) = (hexD (c.toNat / 16)).toNat := by rw [shr4 _ (bAt_lt _ _), hc2, hexD_bAt _ (by omega)]; congr 1
      have f2 : bAt digs (xj (· &&& ·) .u8 (bAt s (i : Int)) 15) = (hexD (c.toNat % 16)).toNat := by rw [and15 _ (bAt_lt _ _), hc2, hexD_bAt _ (by omega)]; congr 1
      show ys ++ [AV.v (.int .u8 (bAt digs ((bAt s (i : Int)).fdiv (2 ^ (min (4 : Int).toNat IntKind.u8.bits))))), AV.v (.int .u8 (bAt digs (xj (· &&& ·) .u8 (bAt s (i : Int)) 15)))] = _
      rw [byte_av f1, byte_av f2]
      rfl
    · refine yM ?_
      refine ze <| ze <| z8 <| zA <| zD <| zB <| g_u (zy rfl rfl) <| g_u (z0 rfl rfl) <| zG <| zA <| zM ?_
      change decide ((i : Int) < (s.size : Int)) = false at hb1
      have hi : i = s.size := by have := of_decide_eq_false hb1; omega
      exact ⟨⟨(rfl : toAV (Al.look _ _) = some _).trans (congrArg (fun z => some (AV.sl 1 z)) (by rw [h2, hi, yF, List.take_of_length_le (Nat.le_of_eq hz)])), rfl⟩, trivial⟩
theorem htext_c (s : ByteArray) (hs : s.size ≤ 100000000000) : zi Tryd.prog Γ0 106 [sv s] [sv (ye (hexB (lst s)))] := by
  refine zO Tryd.func106 rfl Tryd.ntmps106 (by kernel_rfl) rfl fun w0 I0 G0 => ?_
  refine zD <| zB <| g_u (zE rfl rfl) <| zG <| zA <| zD <| zB <| g_u (zC rfl rfl) ?_
  refine g_u (zS (nil1 (n := 1) (hput_c [] _ (by first | assumption | omega) (by simp))) rfl rfl) ?_
  refine g_u (s_cvBS' (rfl) rfl rfl Tryd.underlying90 Tryd.underlying9 Tryd.underlying5) <| g_u (zE rfl rfl) <| zG <| zA <| zM ?_
  exact ⟨⟨(rfl : toAV (Al.look _ _) = some _).trans (congrArg some (by rfl)), rfl⟩, trivial⟩
theorem jput1_c (xs : List AV) (t : ByteArray) (hl : xs.length + t.size ≤ 1000000000000) : wV Tryd.prog Γ0 135 [.imm (sv t), .ptr 100001 0] [(100001, .box 90 (.slg 100002 1 xs)), (100002, .tok 1 xs)] (.tup []) [(100001, .box 90 (.slg 100002 1 (xs ++ zY t.data.toList))), (100002, .tok 1 (xs ++ zY t.data.toList))] := by
  refine x_ (rs := []) Tryd.func135 rfl Tryd.ntmps135 (by kernel_rfl) rfl rfl rfl rfl rfl fun w0 I0 G0 E => ?_
  refine zB <| g_u (yy rfl rfl rfl tA90 tS90 rfl rfl) <| g_u (zC rfl rfl) ?_
  refine g_u (s_appendS rfl rfl rfl rfl rfl Tryd.underlying90 Tryd.underlying9 tS5 zv5 rfl by5 (by omega) (by omega)) ?_
  refine g_u (wZ rfl rfl rfl rfl tS90 rfl rfl) <| zG ?_
  exact ⟨trivial, ⟨rfl, rfl, trivial⟩⟩
theorem each_c (xs : List AV) (s : ByteArray) (hs : s.size ≤ 100000000000) (hl : xs.length ≤ 100000000000) : wV Tryd.prog Γ0 134 [.imm (sv s), .fnv (.func 135) [] [.ptr 100001 0]] [(100001, .box 90 (.slg 100002 1 xs)), (100002, .tok 1 xs)] (.tup []) [(100001, .box 90 (.slg 100002 1 (xs ++ zY (wD (lst s))))), (100002, .tok 1 (xs ++ zY (wD (lst s))))] := by
  have hz := yK s
  have c1 : (ByteArray.mk #[92]).size = 1 := rfl
  have c4 : (ByteArray.mk #[92, 117, 48, 48]).size = 4 := rfl
  have c0 : (ByteArray.mk #[34]).size = 1 := rfl
  refine x_ (rs := []) Tryd.func134 rfl Tryd.ntmps134 (by kernel_rfl) rfl rfl rfl rfl rfl fun w0 I0 G0 E => ?_
  refine zD <| zB <| g_u (s_mv_fnv rfl rfl) ?_
  refine g_uG (ww [(100001, 100001), (100002, 100002)] (jput1_c _ _ (by first | omega | (show _ + 1 ≤ _; (try dsimp only); omega) | (have q := hx (of_decide_eq_true hb1); simp only [xl, yJ, yV, yK, q]; (try dsimp only); omega))) rfl rfl rfl ⟨.inl rfl, .inl rfl, trivial⟩ ⟨rfl, rfl, trivial⟩ rfl rfl rfl) rfl ?_
  refine zG <| zA <| zD <| zD <| zB <| g_u (zC rfl rfl) <| g_u (s_lenS rfl rfl Tryd.underlying9) <| g_u (zC rfl rfl) <| zG <| zA <| zQ ?_
  refine yA (fun j : Nat × List AV => [(0, .imm (sv s)), (1, .fnv (.func 135) [] [.ptr 100001 0]), (100001, .box 90 (.slg 100002 1 j.2)), (100002, .tok 1 j.2), (9, .imm (iv (s.size : Int))), (10, .imm (iv (j.1 : Int)))]) (fun j => j.1 ≤ s.size ∧ j.2 = xs ++ zY (34 :: escs ((lst s).take j.1))) (fun j => s.size - j.1) (⟨0, xs ++ zY (ByteArray.mk #[34]).data.toList⟩) ?_ ⟨rfl, rfl, rfl, rfl, rfl, rfl, trivial⟩ ?_
  · exact ⟨Nat.zero_le _, rfl⟩
  · rintro ⟨i, ys⟩ ⟨h1, h2⟩; dsimp only at h1 h2; have hlen : ys.length ≤ xs.length + 1 + 6 * s.size := by have := escs_length ((lst s).take i); rw [h2, List.length_append, zo, List.length_cons]; rw [List.length_take] at this; omega
    have e2 : i < s.size → (IntKind.i64.wrap ((i : Int) + 1)).toNat = i + 1 := fun h => by rw [zj (by omega) (by omega)]; omega
    have hx : (i : Int) < (s.size : Int) → (s.extract (i : Int).toNat (IntKind.i64.wrap ((i : Int) + 1)).toNat).size = 1 := fun h => by rw [e2 (by omega), Int.toNat_natCast]; exact ex1_size (by omega)
    refine zD <| zB <| g_u (xS rfl rfl rfl) <| zG <| zA <| zD ?_
    refine zT rfl (fun hb1 => ?_) (fun hb1 => ?_)
    · refine za ?_
      refine zA <| zD <| zQ <| zD <| zB <| g_u (zC rfl rfl) <| g_u (zE rfl rfl) <| zG <| zA <| zD <| zB <| g_u (zC rfl rfl) <| g_u (zC rfl rfl) ?_
      refine g_u (si_ix rfl rfl rfl Tryd.underlying9 (by ((try simp only [decide_eq_true_eq, qb, bne_iff_ne, ne_eq, beq_iff_eq, qd, qe, Bool.not_eq_true', Bool.not_eq_false', gt_iff_lt, ge_iff_le] at *); (repeat simp (disch := omega) only [zj, ym] at *)); omega)) ?_
      refine g_u (zE rfl rfl) <| zG <| zA <| zQ <| zD <| zB <| g_u (zC rfl rfl) <| g_u (xx rfl rfl rfl) <| g_u (zC rfl rfl) <| yP (t := 26) rfl ?_
      rintro (hb2 | hb2)
      · rw [hb2]
        refine zI rfl rfl rfl <| zI rfl rfl rfl <| g_u (zR rfl rfl rfl) <| g_u (zE rfl rfl) <| zG <| zA <| zl rfl <| zB <| g_u (s_mv_fnv rfl rfl) <| g_u (zC rfl rfl) <| g_u (zC rfl rfl) <| g_u (zC rfl rfl) <| g_u (yZ rfl rfl rfl) ?_
        refine g_u (si_lh rfl rfl rfl rfl Tryd.underlying9 (by ((try simp only [decide_eq_true_eq, qb, bne_iff_ne, ne_eq, beq_iff_eq, qd, qe, Bool.not_eq_true', Bool.not_eq_false', gt_iff_lt, ge_iff_le] at *); (repeat simp (disch := omega) only [zj, ym] at *)); omega)) ?_
        refine g_u (s_catS rfl rfl rfl (by show _ ≤ (9223372036854775807 : Int); have q := hx (of_decide_eq_true hb1); (try dsimp only); simp only [yJ, yV, yK, q, c1, c4]; omega)) ?_
        refine g_uG (ww [(100001, 100001), (100002, 100002)] (jput1_c _ _ (by first | omega | (show _ + 1 ≤ _; (try dsimp only); omega) | (have q := hx (of_decide_eq_true hb1); simp only [xl, yJ, yV, yK, q]; (try dsimp only); omega))) rfl rfl rfl ⟨.inl rfl, .inl rfl, trivial⟩ ⟨rfl, rfl, trivial⟩ rfl rfl rfl) rfl ?_
        refine zG <| zU <| zU <| zA <| zB <| g_u (yZ rfl rfl rfl) <| g_u (zC rfl rfl) <| zG <| zA ?_
        change decide ((i : Int) < (s.size : Int)) = true at hb1
        have hi : i < s.size := by have := of_decide_eq_true hb1; omega
        obtain ⟨c, hc1, hc2⟩ := bAt_nat s i hi
        refine ⟨⟨i + 1, _⟩, ⟨hi, ?_⟩, ⟨rfl, rfl, rfl, rfl, rfl, zX rfl (by rw [zj (by omega) (by omega)]; rfl), trivial⟩, by dsimp only; omega⟩
        dsimp only at *
        rw [yG hc1, escs_snoc, ← List.cons_append, ← yF, ← List.append_assoc, ← h2, e2 hi, Int.toNat_natCast]
        simp only [beq_iff_eq, qe, ne_eq, decide_eq_true_eq, qb] at *
        first | exact esc1 hc1 (.inl (by omega)) | exact esc1 hc1 (.inr (by omega)) | exact esc2 hc1 (by omega) (by omega) (by omega) | exact esc3 hc1 (by omega) (by omega) (by omega)
      · rw [hb2]
        refine zZ rfl rfl (zC rfl rfl) <| zZ rfl rfl (xx rfl rfl rfl) <| g_u (zp rfl rfl rfl) <| g_u (zE rfl rfl) <| zG <| zA ?_
        refine zT rfl (fun hb3 => ?_) (fun hb3 => ?_)
        · refine zB ?_
          refine g_u (s_mv_fnv rfl rfl) <| g_u (zC rfl rfl) <| g_u (zC rfl rfl) <| g_u (zC rfl rfl) <| g_u (yZ rfl rfl rfl) ?_
          refine g_u (si_lh rfl rfl rfl rfl Tryd.underlying9 (by ((try simp only [decide_eq_true_eq, qb, bne_iff_ne, ne_eq, beq_iff_eq, qd, qe, Bool.not_eq_true', Bool.not_eq_false', gt_iff_lt, ge_iff_le] at *); (repeat simp (disch := omega) only [zj, ym] at *)); omega)) ?_
          refine g_u (s_catS rfl rfl rfl (by show _ ≤ (9223372036854775807 : Int); have q := hx (of_decide_eq_true hb1); (try dsimp only); simp only [yJ, yV, yK, q, c1, c4]; omega)) ?_
          refine g_uG (ww [(100001, 100001), (100002, 100002)] (jput1_c _ _ (by first | omega | (show _ + 1 ≤ _; (try dsimp only); omega) | (have q := hx (of_decide_eq_true hb1); simp only [xl, yJ, yV, yK, q]; (try dsimp only); omega))) rfl rfl rfl ⟨.inl rfl, .inl rfl, trivial⟩ ⟨rfl, rfl, trivial⟩ rfl rfl rfl) rfl ?_
          refine zG <| zU <| zU <| zA <| zB <| g_u (yZ rfl rfl rfl) <| g_u (zC rfl rfl) <| zG <| zA ?_
          change decide ((i : Int) < (s.size : Int)) = true at hb1
          have hi : i < s.size := by have := of_decide_eq_true hb1; omega
          obtain ⟨c, hc1, hc2⟩ := bAt_nat s i hi
          refine ⟨⟨i + 1, _⟩, ⟨hi, ?_⟩, ⟨rfl, rfl, rfl, rfl, rfl, zX rfl (by rw [zj (by omega) (by omega)]; rfl), trivial⟩, by dsimp only; omega⟩
          dsimp only at *
          rw [yG hc1, escs_snoc, ← List.cons_append, ← yF, ← List.append_assoc, ← h2, e2 hi, Int.toNat_natCast]
          simp only [beq_iff_eq, qe, ne_eq, decide_eq_true_eq, qb] at *
          first | exact esc1 hc1 (.inl (by omega)) | exact esc1 hc1 (.inr (by omega)) | exact esc2 hc1 (by omega) (by omega) (by omega) | exact esc3 hc1 (by omega) (by omega) (by omega)
        · refine zD ?_
          refine zB <| g_u (zC rfl rfl) <| g_u (xS rfl rfl rfl) <| g_u (zE rfl rfl) <| zG <| zA ?_
          refine zT rfl (fun hb4 => ?_) (fun hb4 => ?_)
          · refine zB ?_
            refine g_u (s_mv_fnv rfl rfl) <| g_u (zC rfl rfl) <| g_u (zC rfl rfl) <| g_u (zC rfl rfl) <| g_u (yZ rfl rfl rfl) ?_
            refine g_u (si_lh rfl rfl rfl rfl Tryd.underlying9 (by ((try simp only [decide_eq_true_eq, qb, bne_iff_ne, ne_eq, beq_iff_eq, qd, qe, Bool.not_eq_true', Bool.not_eq_false', gt_iff_lt, ge_iff_le] at *); (repeat simp (disch := omega) only [zj, ym] at *)); omega)) ?_
            refine g_u (zS (htext_c _ (by have q := hx (of_decide_eq_true hb1); (try dsimp only); omega)) rfl rfl) ?_
            refine g_u (s_catS rfl rfl rfl (by show _ ≤ (9223372036854775807 : Int); have q := hx (of_decide_eq_true hb1); (try dsimp only); simp only [yJ, yV, yK, q, c1, c4]; omega)) ?_
            refine g_uG (ww [(100001, 100001), (100002, 100002)] (jput1_c _ _ (by first | omega | (show _ + 1 ≤ _; (try dsimp only); omega) | (have q := hx (of_decide_eq_true hb1); simp only [xl, yJ, yV, yK, q]; (try dsimp only); omega))) rfl rfl rfl ⟨.inl rfl, .inl rfl, trivial⟩ ⟨rfl, rfl, trivial⟩ rfl rfl rfl) rfl ?_
            refine zG <| zU <| zU <| zA <| zB <| g_u (yZ rfl rfl rfl) <| g_u (zC rfl rfl) <| zG <| zA ?_
            change decide ((i : Int) < (s.size : Int)) = true at hb1
            have hi : i < s.size := by have := of_decide_eq_true hb1; omega
            obtain ⟨c, hc1, hc2⟩ := bAt_nat s i hi
            refine ⟨⟨i + 1, _⟩, ⟨hi, ?_⟩, ⟨rfl, rfl, rfl, rfl, rfl, zX rfl (by rw [zj (by omega) (by omega)]; rfl), trivial⟩, by dsimp only; omega⟩
            dsimp only at *
            rw [yG hc1, escs_snoc, ← List.cons_append, ← yF, ← List.append_assoc, ← h2, e2 hi, Int.toNat_natCast]
            simp only [beq_iff_eq, qe, ne_eq, decide_eq_true_eq, qb] at *
            first | exact esc1 hc1 (.inl (by omega)) | exact esc1 hc1 (.inr (by omega)) | exact esc2 hc1 (by omega) (by omega) (by omega) | exact esc3 hc1 (by omega) (by omega) (by omega)
          · refine zB ?_
            refine g_u (s_mv_fnv rfl rfl) <| g_u (zC rfl rfl) <| g_u (zC rfl rfl) <| g_u (zC rfl rfl) <| g_u (yZ rfl rfl rfl) ?_
            refine g_u (si_lh rfl rfl rfl rfl Tryd.underlying9 (by ((try simp only [decide_eq_true_eq, qb, bne_iff_ne, ne_eq, beq_iff_eq, qd, qe, Bool.not_eq_true', Bool.not_eq_false', gt_iff_lt, ge_iff_le] at *); (repeat simp (disch := omega) only [zj, ym] at *)); omega)) ?_
            refine g_uG (ww [(100001, 100001), (100002, 100002)] (jput1_c _ _ (by first | omega | (show _ + 1 ≤ _; (try dsimp only); omega) | (have q := hx (of_decide_eq_true hb1); simp only [xl, yJ, yV, yK, q]; (try dsimp only); omega))) rfl rfl rfl ⟨.inl rfl, .inl rfl, trivial⟩ ⟨rfl, rfl, trivial⟩ rfl rfl rfl) rfl ?_
            refine zG <| zU <| zU <| zA <| zB <| g_u (yZ rfl rfl rfl) <| g_u (zC rfl rfl) <| zG <| zA ?_
            change decide ((i : Int) < (s.size : Int)) = true at hb1
            have hi : i < s.size := by have := of_decide_eq_true hb1; omega
            obtain ⟨c, hc1, hc2⟩ := bAt_nat s i hi
            refine ⟨⟨i + 1, _⟩, ⟨hi, ?_⟩, ⟨rfl, rfl, rfl, rfl, rfl, zX rfl (by rw [zj (by omega) (by omega)]; rfl), trivial⟩, by dsimp only; omega⟩
            dsimp only at *
            rw [yG hc1, escs_snoc, ← List.cons_append, ← yF, ← List.append_assoc, ← h2, e2 hi, Int.toNat_natCast]
            simp only [beq_iff_eq, qe, ne_eq, decide_eq_true_eq, qb] at *
            first | exact esc1 hc1 (.inl (by omega)) | exact esc1 hc1 (.inr (by omega)) | exact esc2 hc1 (by omega) (by omega) (by omega) | exact esc3 hc1 (by omega) (by omega) (by omega)
    · refine yM ?_
      refine ze <| ze <| z8 <| zA <| zB <| g_u (s_mv_fnv rfl rfl) ?_
      refine g_uG (ww [(100001, 100001), (100002, 100002)] (jput1_c _ _ (by first | omega | (show _ + 1 ≤ _; (try dsimp only); omega) | (have q := hx (of_decide_eq_true hb1); simp only [xl, yJ, yV, yK, q]; (try dsimp only); omega))) rfl rfl rfl ⟨.inl rfl, .inl rfl, trivial⟩ ⟨rfl, rfl, trivial⟩ rfl rfl rfl) rfl ?_
      refine zG ?_
      change decide ((i : Int) < (s.size : Int)) = false at hb1
      have hi : i = s.size := by have := of_decide_eq_false hb1; omega
      have h3 : ys ++ zY (ByteArray.mk #[34]).data.toList = xs ++ zY (wD (lst s)) := by rw [h2, hi, List.take_of_length_le (Nat.le_of_eq hz), List.append_assoc, yF]; rfl
      exact ⟨trivial, look_bslg rfl h3, yD rfl h3, trivial⟩
end Go.Proofs
namespace Go.Proofs
open Go Go.Al
set_option maxRecDepth 10000
theorem jput_c (xs : List AV) (s : ByteArray) (hw : W1 xs) (hs : s.size ≤ 10000000000) (hl : xs.length ≤ 10000000000) : wV Tryd.prog Γ0 124 [.imm (.sl 1 xs), .imm (sv s)] [] (.slg 3014 1 (xs ++ zY (wD (lst s)))) [(3014, .tok 1 (xs ++ zY (wD (lst s))))] := by
  refine x_ (rs := [.slg 3014 1 (xs ++ zY (wD (lst s)))]) Tryd.func124 rfl Tryd.ntmps124 (by kernel_rfl) rfl rfl rfl rfl rfl fun w0 I0 G0 E => ?_
  refine zD <| zB <| g_u (zE rfl rfl) <| zG <| zA <| zD <| zB <| g_u (zC rfl rfl) <| g_u (yB rfl rfl Tryd.underlying90) <| g_u (zC rfl rfl) <| g_u (yB rfl rfl Tryd.underlying90) <| g_u (zC rfl rfl) <| g_u (s_lenS rfl rfl Tryd.underlying9) <| g_u (yZ rfl rfl rfl) <| g_u (yZ rfl rfl rfl) ?_
  refine g_uG (wH 1014 (X0 := z5) (len := xs.length) (cap := xs.length + s.size + 2) rfl rfl rfl rfl rfl rfl (by ((try simp only [decide_eq_true_eq, qb, bne_iff_ne, ne_eq, beq_iff_eq, qd, qe, Bool.not_eq_true', Bool.not_eq_false', gt_iff_lt, ge_iff_le] at *); (repeat simp (disch := omega) only [zj, ym] at *)); omega) Tryd.underlying90 tS5 tZ5 rfl rfl by5 (by omega) (by omega) (by omega)) rfl ?_
  refine g_uG (zg 1005 rfl rfl rfl tZ90) rfl <| g_u (wZ rfl rfl rfl rfl tS90 rfl rfl) <| zG <| zA <| zD <| zB <| g_u (wF rfl rfl rfl tA90 tS90 rfl rfl rfl) <| g_u (zC rfl rfl) ?_
  refine g_u (s_copy_in (el := 5) (el' := 0) (T1 := 0) rfl rfl rfl rfl rfl Tryd.underlying90 tS5 (by intro x hx; rw [List.eq_of_mem_replicate hx]; rfl) (by simp <;> omega)) ?_
  refine zG <| zA ?_
  refine wb 1014 3014 1 (xs) [(0, .imm (.sl 1 xs)), (1, .imm (sv s)), (5, .ptr 1005 0), (1005, .box 90 (.slg 3014 1 xs))] rfl rfl rfl rfl rfl rfl rfl ⟨.inl rfl, .inl rfl, .inl rfl, .inr (.inr ⟨_, rfl, rfl⟩), trivial⟩ (cp_w (hw) rfl) (by rw [← cp_len rfl (by simp <;> omega)]; simp <;> omega) (by omega) (by unfold maxLen; omega) (cp_take rfl (by simp <;> omega)) ?_
  refine zD <| zB <| g_u (zC rfl rfl) <| g_u (s_makeFuncS rfl rfl rfl) ?_
  refine g_uG (xp [(100001, 1005), (100002, 3014)] (each_c _ _ (by omega) (by omega)) rfl rfl ⟨.inl rfl, .inl rfl, trivial⟩ ⟨rfl, rfl, trivial⟩ rfl rfl rfl) rfl ?_
  refine zG <| zA <| zD <| zB <| g_u (yy rfl rfl rfl tA90 tS90 rfl rfl) <| g_u (z0 rfl rfl) <| zG <| zA <| zM ?_
  exact ⟨⟨.inr ⟨_, rfl, (by rfl), rfl⟩, trivial⟩, ⟨rfl, trivial⟩⟩
end Go.Proofs
namespace Go.Proofs
open Go Go.Al
set_option maxRecDepth 10000
end Go.Proofs
namespace Go.Proofs
open Go Go.Al
set_option maxRecDepth 10000
def truthB (n : Int) : Bs := if n = 0 then [102, 97, 108, 115, 101] else [116, 114, 117, 101]
def xR (v : GV) : AV :=
  if v.kind = 0 then .ifc 137 (sv (ye [110, 117, 108, 108]))
  else if v.kind = 1 then .ifc 136 (sv v.text)
  else if v.kind = 2 then .ifc 137 (sv (ye (truthB v.num)))
  else if v.kind = 3 then .ifc 137 (sv (ye (decB v.num)))
  else if v.kind = 4 then .ifc 136 (sv (ye (48 :: 120 :: hexB (be 8 v.bits.toNat))))
  else if v.kind = 5 then .ifc 136 (sv (ye (hexB (lst v.text))))
  else if v.kind = 6 then .ifc 147 (.sl 6 (v.list.map avV))
  else if v.kind = 7 then .ifc 148 (.sl 7 (v.map.map avA))
  else .ifc 137 (sv ⟨#[]⟩)
theorem truth_c (n : Int) : zi Tryd.prog Γ0 103 [iv n] [sv (ye (truthB n))] := by
  refine zO Tryd.func103 rfl Tryd.ntmps103 (by kernel_rfl) rfl fun w0 I0 G0 => ?_
  refine zD <| zB <| g_u (zE rfl rfl) <| zG <| zA <| zD <| zD <| zB <| g_u (zC rfl rfl) <| g_u (ws rfl rfl rfl) <| zG <| zA ?_
  refine zT rfl (fun hb1 => ?_) (fun hb1 => ?_)
  · refine zD ?_
    refine zB <| g_u (zE rfl rfl) <| zG <| zA <| zM <| zV ?_
    exact ⟨⟨(rfl : toAV (Al.look _ _) = some _).trans (congrArg some (by (unfold truthB; first | (rw [if_neg (by simpa using hb1)]; rfl) | (rw [if_pos (by simpa using hb1)]; rfl)))), rfl⟩, trivial⟩
  · refine za ?_
    refine zA <| zD <| zB <| g_u (zE rfl rfl) <| zG <| zA <| zM ?_
    exact ⟨⟨(rfl : toAV (Al.look _ _) = some _).trans (congrArg some (by (unfold truthB; first | (rw [if_neg (by simpa using hb1)]; rfl) | (rw [if_pos (by simpa using hb1)]; rfl)))), rfl⟩, trivial⟩
theorem double_c (u : Int) (h : 0 ≤ u ∧ u < 18446744073709551616) : zi Tryd.prog Γ0 105 [uv u] [sv (ye (48 :: 120 :: hexB (be 8 u.toNat)))] := by
  have c1 : (ByteArray.mk #[48, 120]).size = 2 := rfl
  refine zO Tryd.func105 rfl Tryd.ntmps105 (by kernel_rfl) rfl fun w0 I0 G0 => ?_
  refine zD <| zB <| g_u (zE rfl rfl) <| zG <| zA <| zD <| zB <| g_u (zC rfl rfl) ?_
  refine g_u (zS (nil1 (n := 1) (high_c [] u h (by simp))) rfl rfl) ?_
  refine g_u (s_cvBS' (rfl) rfl rfl Tryd.underlying90 Tryd.underlying9 Tryd.underlying5) ?_
  refine g_u (zS (htext_c _ (by rw [yJ]; simp only [List.nil_append, wa]; omega)) rfl rfl) ?_
  refine g_u (s_catS rfl rfl rfl (by show _ ≤ (9223372036854775807 : Int); simp only [yJ, yV, xm, List.nil_append, wa, c1]; omega)) ?_
  refine g_u (zE rfl rfl) <| zG <| zA <| zM ?_
  exact ⟨⟨(rfl : toAV (Al.look _ _) = some _).trans (congrArg some (by (rw [xm]; rfl))), rfl⟩, trivial⟩
theorem thing_c (v : GV) (ho : v.ok) (hw : v.wt ≤ 10000000) : zi Tryd.prog Γ0 90 [v.av] [xR v] := by
  have lv := xZ v.list
  have la := yj v.map
  have ek := v.wt_eq
  have ok := v.ok_iff.1 ho
  have sl := yS v
  have jl := xP v
  refine zO Tryd.func90 rfl Tryd.ntmps90 (by kernel_rfl) rfl fun w0 I0 G0 => ?_
  refine zD <| zB <| g_uG (zd 1001 rfl rfl rfl rfl) rfl <| g_u (zE rfl rfl) <| zG <| zA <| zD <| zD <| zB <| g_u (zF rfl rfl fa71_0 rfl) <| g_u (zH rfl rfl rfl tA5 tS5 rfl rfl) <| zG <| zA <| zQ <| zD <| zB <| g_u (xx rfl rfl rfl) <| g_u (zE rfl rfl) <| zG <| zA ?_
  refine zT rfl (fun hb1 => ?_) (fun hb1 => ?_)
  · refine zD ?_
    refine zB <| g_u (y0 rfl rfl nI137) <| g_u (zE rfl rfl) <| zG <| zA <| zM <| z7 <| zV ?_
    exact ⟨⟨(rfl : toAV (Al.look _ _) = some _).trans (congrArg some (by (simp only [beq_iff_eq, qe, ne_eq, decide_eq_true_eq, qb] at *; unfold xR; (repeat (first | rw [if_pos (by omega)] | rw [if_neg (by omega)])); (first | done | rfl)))), rfl⟩, trivial⟩
  · refine zD ?_
    refine zB <| g_u (xx rfl rfl rfl) <| g_u (zE rfl rfl) <| zG <| zA ?_
    refine zT rfl (fun hb2 => ?_) (fun hb2 => ?_)
    · refine zD ?_
      refine zB <| g_u (zF rfl rfl fa71_1 rfl) <| g_u (zH rfl rfl rfl tA9 tS9 rfl rfl) <| g_u (y0 rfl rfl nI136) <| g_u (zE rfl rfl) <| zG <| zA <| zM <| z7 <| zV ?_
      exact ⟨⟨(rfl : toAV (Al.look _ _) = some _).trans (congrArg some (by (simp only [beq_iff_eq, qe, ne_eq, decide_eq_true_eq, qb] at *; unfold xR; (repeat (first | rw [if_pos (by omega)] | rw [if_neg (by omega)])); (first | done | rfl)))), rfl⟩, trivial⟩
    · refine zD ?_
      refine zB <| g_u (xx rfl rfl rfl) <| g_u (zE rfl rfl) <| zG <| zA ?_
      refine zT rfl (fun hb3 => ?_) (fun hb3 => ?_)
      · refine zD ?_
        refine zB <| g_u (zF rfl rfl fa71_2 rfl) <| g_u (zH rfl rfl rfl tA3 tS3 rfl rfl) <| g_u (zS (truth_c _) rfl rfl) <| g_u (y0 rfl rfl nI137) <| g_u (zE rfl rfl) <| zG <| zA <| zM <| z7 <| zV ?_
        exact ⟨⟨(rfl : toAV (Al.look _ _) = some _).trans (congrArg some (by (simp only [beq_iff_eq, qe, ne_eq, decide_eq_true_eq, qb] at *; unfold xR; (repeat (first | rw [if_pos (by omega)] | rw [if_neg (by omega)])); (first | done | rfl)))), rfl⟩, trivial⟩
      · refine zD ?_
        refine zB <| g_u (xx rfl rfl rfl) <| g_u (zE rfl rfl) <| zG <| zA ?_
        refine zT rfl (fun hb4 => ?_) (fun hb4 => ?_)
        · refine zD ?_
          refine zB <| g_u (zF rfl rfl fa71_2 rfl) <| g_u (zH rfl rfl rfl tA3 tS3 rfl rfl) ?_
          refine g_u (zS (nil1 (n := 1) (dput_c [] _ ok.2.2.1 (by simp))) rfl rfl) ?_
          refine g_u (s_cvBS' (rfl) rfl rfl Tryd.underlying90 Tryd.underlying137 Tryd.underlying5) <| g_u (y0 rfl rfl nI137) <| g_u (zE rfl rfl) <| zG <| zA <| zM <| z7 <| zV ?_
          exact ⟨⟨(rfl : toAV (Al.look _ _) = some _).trans (congrArg some (by (simp only [beq_iff_eq, qe, ne_eq, decide_eq_true_eq, qb] at *; unfold xR; (repeat (first | rw [if_pos (by omega)] | rw [if_neg (by omega)])); (first | done | rfl)))), rfl⟩, trivial⟩
        · refine zD ?_
          refine zB <| g_u (xx rfl rfl rfl) <| g_u (zE rfl rfl) <| zG <| zA ?_
          refine zT rfl (fun hb5 => ?_) (fun hb5 => ?_)
          · refine zD ?_
            refine zB <| g_u (zF rfl rfl fa71_3 rfl) <| g_u (zH rfl rfl rfl tA29 tS29 rfl rfl) <| g_u (zS (double_c _ ok.2.2.2.1) rfl rfl) <| g_u (y0 rfl rfl nI136) <| g_u (zE rfl rfl) <| zG <| zA <| zM <| z7 <| zV ?_
            exact ⟨⟨(rfl : toAV (Al.look _ _) = some _).trans (congrArg some (by (simp only [beq_iff_eq, qe, ne_eq, decide_eq_true_eq, qb] at *; unfold xR; (repeat (first | rw [if_pos (by omega)] | rw [if_neg (by omega)])); (first | done | rfl)))), rfl⟩, trivial⟩
          · refine zD ?_
            refine zB <| g_u (xx rfl rfl rfl) <| g_u (zE rfl rfl) <| zG <| zA ?_
            refine zT rfl (fun hb6 => ?_) (fun hb6 => ?_)
            · refine zD ?_
              refine zB <| g_u (zF rfl rfl fa71_1 rfl) <| g_u (zH rfl rfl rfl tA9 tS9 rfl rfl) ?_
              refine g_u (zS (htext_c _ (by omega)) rfl rfl) ?_
              refine g_u (y0 rfl rfl nI136) <| g_u (zE rfl rfl) <| zG <| zA <| zM <| z7 <| zV ?_
              exact ⟨⟨(rfl : toAV (Al.look _ _) = some _).trans (congrArg some (by (simp only [beq_iff_eq, qe, ne_eq, decide_eq_true_eq, qb] at *; unfold xR; (repeat (first | rw [if_pos (by omega)] | rw [if_neg (by omega)])); (first | done | rfl)))), rfl⟩, trivial⟩
            · refine zD ?_
              refine zB <| g_u (xx rfl rfl rfl) <| g_u (zE rfl rfl) <| zG <| zA ?_
              refine zT rfl (fun hb7 => ?_) (fun hb7 => ?_)
              · refine zD ?_
                refine zB <| g_u (zF rfl rfl fa71_4 rfl) <| g_u (zH rfl rfl rfl tA69 tS69 rfl rfl) <| g_u (y0 rfl rfl nI147) <| g_u (zE rfl rfl) <| zG <| zA <| zM <| z7 <| zV ?_
                exact ⟨⟨(rfl : toAV (Al.look _ _) = some _).trans (congrArg some (by (simp only [beq_iff_eq, qe, ne_eq, decide_eq_true_eq, qb] at *; unfold xR; (repeat (first | rw [if_pos (by omega)] | rw [if_neg (by omega)])); (first | done | rfl)))), rfl⟩, trivial⟩
              · refine zD ?_
                refine zB <| g_u (xx rfl rfl rfl) <| g_u (zE rfl rfl) <| zG <| zA ?_
                refine zT rfl (fun hb8 => ?_) (fun hb8 => ?_)
                · refine zD ?_
                  refine zB <| g_u (zF rfl rfl fa71_5 rfl) <| g_u (zH rfl rfl rfl tA30 tS30 rfl rfl) <| g_u (y0 rfl rfl nI148) <| g_u (zE rfl rfl) <| zG <| zA <| zM <| z7 <| zV ?_
                  exact ⟨⟨(rfl : toAV (Al.look _ _) = some _).trans (congrArg some (by (simp only [beq_iff_eq, qe, ne_eq, decide_eq_true_eq, qb] at *; unfold xR; (repeat (first | rw [if_pos (by omega)] | rw [if_neg (by omega)])); (first | done | rfl)))), rfl⟩, trivial⟩
                · refine za ?_
                  refine zU <| zA <| zD <| zB <| g_u (y0 rfl rfl nI137) <| g_u (zE rfl rfl) <| zG <| zA <| zM ?_
                  exact ⟨⟨(rfl : toAV (Al.look _ _) = some _).trans (congrArg some (by (simp only [beq_iff_eq, qe, ne_eq, decide_eq_true_eq, qb] at *; unfold xR; (repeat (first | rw [if_pos (by omega)] | rw [if_neg (by omega)])); (first | done | rfl)))), rfl⟩, trivial⟩
theorem thing_p {v : GV} (h : v.kind ≠ 1 ∧ v.kind ≠ 4 ∧ v.kind ≠ 5 ∧ v.kind ≠ 6 ∧ v.kind ≠ 7) (c : zi Tryd.prog Γ0 90 [v.av] [xR v]) : zi Tryd.prog Γ0 90 [v.av] [.ifc 137 (sv (ye (yv v)))] := by
  have e : xR v = .ifc 137 (sv (ye (yv v))) := by
    unfold xR
    by_cases h0 : v.kind = 0
    · rw [if_pos h0, json0 h0]
    · rw [if_neg h0, if_neg h.1, jsonE (by omega)]
      by_cases h2 : v.kind = 2
      · rw [if_pos h2]
        by_cases hn : v.num = 0
        · rw [simp2 h2 hn, truthB, if_pos hn]
        · rw [simp2' h2 hn, truthB, if_neg hn]
      · rw [if_neg h2]
        by_cases h3 : v.kind = 3
        · rw [if_pos h3, simp3 h3]
        · rw [if_neg h3, if_neg h.2.1, if_neg h.2.2.1, if_neg h.2.2.2.1, if_neg h.2.2.2.2, simp6 (by omega)]; rfl
  rw [← e]; exact c
theorem thing_q {v : GV} (h : v.kind = 1 ∨ v.kind = 4 ∨ v.kind = 5) (c : zi Tryd.prog Γ0 90 [v.av] [xR v]) : zi Tryd.prog Γ0 90 [v.av] [.ifc 136 (sv (ye (xc v)))] := by
  have e : xR v = .ifc 136 (sv (ye (xc v))) := by
    unfold xR
    rcases h with h | h | h
    · rw [if_neg (by omega), if_pos h, simp1 h]
    · rw [if_neg (by omega), if_neg (by omega), if_neg (by omega), if_neg (by omega), if_pos h, simp4 h]
    · rw [if_neg (by omega), if_neg (by omega), if_neg (by omega), if_neg (by omega), if_neg (by omega), if_pos h, simp5 h]
  rw [← e]; exact c
theorem thing_l {v : GV} (h : v.kind = 6) (c : zi Tryd.prog Γ0 90 [v.av] [xR v]) : zi Tryd.prog Γ0 90 [v.av] [.ifc 147 (.sl 6 (v.list.map avV))] := by
  have e : xR v = .ifc 147 (.sl 6 (v.list.map avV)) := by
    unfold xR
    rw [if_neg (by omega), if_neg (by omega), if_neg (by omega), if_neg (by omega), if_neg (by omega), if_neg (by omega), if_pos h]
  rw [← e]; exact c
theorem thing_m {v : GV} (h : v.kind = 7) (c : zi Tryd.prog Γ0 90 [v.av] [xR v]) : zi Tryd.prog Γ0 90 [v.av] [.ifc 148 (.sl 7 (v.map.map avA))] := by
  have e : xR v = .ifc 148 (.sl 7 (v.map.map avA)) := by
    unfold xR
    rw [if_neg (by omega), if_neg (by omega), if_neg (by omega), if_neg (by omega), if_neg (by omega), if_neg (by omega), if_neg (by omega), if_pos h]
  rw [← e]; exact c
theorem lay_p (v : GV) (ho : v.ok) (hw : v.wt ≤ 10000000) (xs : List AV) (hx : W1 xs) (hl : xs.length + 150 * v.wt ≤ 5000000000) (hk : v.kind ≠ 1 ∧ v.kind ≠ 4 ∧ v.kind ≠ 5 ∧ v.kind ≠ 6 ∧ v.kind ≠ 7) : wV Tryd.prog Γ0 107 [.slg 100001 1 xs, .imm v.av] [(100001, .tok 1 xs)] (.slg 100001 1 (xs ++ zY (yv v))) [(100001, .tok 1 (xs ++ zY (yv v)))] := by
  have lv := xZ v.list
  have la := yj v.map
  have ek := v.wt_eq
  have ok := v.ok_iff.1 ho
  have sl := yS v
  have jl := xP v
  have e0 : zY (ye (yv v)).data.toList = zY (yv v) := by rw [xM]
  refine x_ (rs := [.slg 100001 1 (xs ++ zY (yv v))]) Tryd.func107 rfl Tryd.ntmps107 (by kernel_rfl) rfl rfl rfl rfl rfl fun w0 I0 G0 E => ?_
  refine zD <| zB <| g_uG (zd 1003 rfl rfl rfl rfl) rfl <| g_u (zE rfl rfl) <| zG <| zA <| zD <| zD <| zB <| g_u (zH rfl rfl rfl tA71 tS71 rfl rfl) <| g_u (zS (thing_p hk (thing_c v ho hw)) rfl rfl) <| zG <| zA <| zQ <| zD <| zB <| g_u (xd rfl rfl nI137) <| g_u (zP rfl rfl rfl rfl) <| g_u (zP rfl rfl rfl rfl) <| zG <| zA <| zl rfl <| zD <| zB <| g_u (zE rfl rfl) <| zG <| zA <| zD <| zB <| g_u (zy rfl rfl) <| g_u (zC rfl rfl) ?_
  refine g_u (s_appendS rfl rfl rfl rfl rfl Tryd.underlying90 Tryd.underlying137 tS5 zv5 rfl by5 (by rw [yJ]; omega) (by rw [yJ]; omega)) ?_
  refine g_u (z0 rfl rfl) <| zG <| zA <| zM <| z7 <| zV ?_
  exact ⟨⟨.inr ⟨_, rfl, yT rfl (by rw [e0]), rfl⟩, trivial⟩, ⟨yD rfl (by rw [e0]), trivial⟩⟩
theorem lay_q (v : GV) (ho : v.ok) (hw : v.wt ≤ 10000000) (xs : List AV) (hx : W1 xs) (hl : xs.length + 150 * v.wt ≤ 5000000000) (hk : v.kind = 1 ∨ v.kind = 4 ∨ v.kind = 5) : wV Tryd.prog Γ0 107 [.slg 100001 1 xs, .imm v.av] [(100001, .tok 1 xs)] (.slg 100001 1 (xs ++ zY (yv v))) [(100001, .tok 1 (xs ++ zY (yv v)))] := by
  have lv := xZ v.list
  have la := yj v.map
  have ek := v.wt_eq
  have ok := v.ok_iff.1 ho
  have sl := yS v
  have jl := xP v
  refine x_ (rs := [.slg 100001 1 (xs ++ zY (yv v))]) Tryd.func107 rfl Tryd.ntmps107 (by kernel_rfl) rfl rfl rfl rfl rfl fun w0 I0 G0 E => ?_
  refine zD <| zB <| g_uG (zd 1003 rfl rfl rfl rfl) rfl <| g_u (zE rfl rfl) <| zG <| zA <| zD <| zD <| zB <| g_u (zH rfl rfl rfl tA71 tS71 rfl rfl) <| g_u (zS (thing_q hk (thing_c v ho hw)) rfl rfl) <| zG <| zA <| zQ <| zD <| zB ?_
  refine g_u (yg rfl rfl nI137 tZ137 (fun z h => by rw [zv137] at h; cases h; rfl) rfl) ?_
  refine g_u (zP rfl rfl rfl rfl) <| g_u (zP rfl rfl rfl rfl) <| zG <| zA <| yL rfl <| zD <| zB <| g_u (xd rfl rfl nI136) <| g_u (zP rfl rfl rfl rfl) <| g_u (zP rfl rfl rfl rfl) <| zG <| zA <| zl rfl <| zD <| zB <| g_u (zE rfl rfl) <| zG <| zA <| zD <| zB <| g_u (zy rfl rfl) <| g_u (zC rfl rfl) ?_
  refine g_uG (xp [(3014, 20001)] (jput_c _ _ hx (by rw [yJ]; omega) (by omega)) rfl rfl ⟨.inr ⟨_, rfl, rfl⟩, .inl rfl, trivial⟩ trivial rfl rfl rfl) rfl ?_
  refine g_u (z0 rfl rfl) <| zG <| zA ?_
  refine aw_renTok 20001 100001 1 (xs ++ zY (wD (lst (ye (xc v))))) [(4, .slg 100001 1 (xs ++ zY (wD (lst (ye (xc v))))))] rfl rfl rfl rfl rfl rfl ⟨.inr (.inl ⟨rfl, rfl⟩), trivial⟩ (by rw [List.length_append, zo]; simp only [wD, List.length_cons]; omega) ?_
  refine zM <| z7 <| zV ?_
  exact ⟨⟨.inr ⟨_, rfl, yT rfl (by rw [jsonS hk, xm]), rfl⟩, trivial⟩, ⟨yD rfl (by rw [jsonS hk, xm]), trivial⟩⟩
theorem bytesL_cons (c : UInt8) (l : Bs) : zY (c :: l) = .v (xi c) :: zY l := rfl
theorem bytesL_nil : zY [] = [] := rfl
theorem W1.app {a b : List AV} (h : W1 a) (k : W1 b) : W1 (a ++ b) := fun x hx => (List.mem_append.1 hx).elim (h x) (k x)
theorem lay_l (v : GV) (ho : v.ok) (hw : v.wt ≤ 10000000) (xs : List AV) (hx : W1 xs) (hl : xs.length + 150 * v.wt ≤ 5000000000) (hk : v.kind = 6) (ih : ∀ y ∈ v.list, ∀ xs : List AV, W1 xs → xs.length + 150 * y.wt ≤ 5000000000 → wV Tryd.prog Γ0 107 [.slg 100001 1 xs, .imm y.av] [(100001, .tok 1 xs)] (.slg 100001 1 (xs ++ zY (yv y))) [(100001, .tok 1 (xs ++ zY (yv y)))]) : wV Tryd.prog Γ0 107 [.slg 100001 1 xs, .imm v.av] [(100001, .tok 1 xs)] (.slg 100001 1 (xs ++ zY (yv v))) [(100001, .tok 1 (xs ++ zY (yv v)))] := by
  have lv := xZ v.list
  have la := yj v.map
  have ek := v.wt_eq
  have ok := v.ok_iff.1 ho
  have sl := yS v
  have jl := xP v
  refine x_ (rs := [.slg 100001 1 (xs ++ zY (yv v))]) Tryd.func107 rfl Tryd.ntmps107 (by kernel_rfl) rfl rfl rfl rfl rfl fun w0 I0 G0 E => ?_
  refine zD <| zB <| g_uG (zd 1003 rfl rfl rfl rfl) rfl <| g_u (zE rfl rfl) <| zG <| zA <| zD <| zD <| zB <| g_u (zH rfl rfl rfl tA71 tS71 rfl rfl) <| g_u (zS (thing_l hk (thing_c v ho hw)) rfl rfl) <| zG <| zA <| zQ <| zD <| zB ?_
  refine g_u (yg rfl rfl nI137 tZ137 (fun z h => by rw [zv137] at h; cases h; rfl) rfl) ?_
  refine g_u (zP rfl rfl rfl rfl) <| g_u (zP rfl rfl rfl rfl) <| zG <| zA <| yL rfl <| zD <| zB ?_
  refine g_u (yg rfl rfl nI136 tZ136 (fun z h => by rw [zv136] at h; cases h; rfl) rfl) ?_
  refine g_u (zP rfl rfl rfl rfl) <| g_u (zP rfl rfl rfl rfl) <| zG <| zA <| yL rfl <| zD <| zB <| g_u (xd rfl rfl nI147) <| g_u (zP rfl rfl rfl rfl) <| g_u (zP rfl rfl rfl rfl) <| zG <| zA <| zl rfl <| zD <| zB <| g_u (zE rfl rfl) <| zG <| zA <| zD <| zB <| g_u (zy rfl rfl) <| g_u (z_ (X0 := z5) rfl Tryd.underlying90 tS5 tZ5 rfl rfl rfl rfl rfl rfl rfl rfl) ?_
  refine g_u (yH rfl rfl rfl rfl rfl Tryd.underlying90 Tryd.underlying90 tS5 zv5 rfl (by decide) by5 (by (try dsimp only); simp only [List.length_append, List.length_cons, List.length_nil]; omega) (by (try dsimp only); simp only [List.length_append, List.length_cons, List.length_nil]; omega)) ?_
  refine g_u (z0 rfl rfl) <| zG <| zA <| zD <| zD <| zB <| g_u (zC rfl rfl) <| g_u (yB rfl rfl Tryd.underlying147) <| g_u (zC rfl rfl) <| zG <| zA <| zQ ?_
  refine yA (fun j : Nat × List AV => [(0, .slg 100001 1 j.2), (100001, .tok 1 j.2), (33, .imm (.sl 6 (v.list.map avV))), (34, .imm (iv (v.list.length : Int))), (35, .imm (iv (j.1 : Int)))]) (fun j => j.1 ≤ v.list.length ∧ j.2 = xs ++ zY (91 :: x6 true (v.list.take j.1))) (fun j => v.list.length - j.1) (⟨0, xs ++ zY [91]⟩) ?_ ⟨rfl, rfl, rfl, zX rfl (by rw [List.length_map]), rfl, trivial⟩ ?_
  · exact ⟨Nat.zero_le _, rfl⟩
  · rintro ⟨i, ys⟩ ⟨h1, h2⟩; dsimp only at h1 h2; have hlen : ys.length ≤ xs.length + 1 + 150 * wtVs (v.list.take i) := by have := jsonVs_len (v.list.take i) true; rw [h2, List.length_append, zo, List.length_cons]; omega
    have hwy : W1 ys := by rw [h2]; exact hx.app (W1.bytes _)
    have htk := wtVs_take v.list i
    refine zD <| zB <| g_u (xS rfl rfl rfl) <| zG <| zA <| zD ?_
    refine zT rfl (fun hb1 => ?_) (fun hb1 => ?_)
    · have hiv : i < v.list.length := by have := of_decide_eq_true hb1; simp only [List.length_map] at this; omega
      refine za <| zA <| zD <| zQ <| zD <| zB <| g_u (zC rfl rfl) ?_
      refine g_u (zf rfl rfl rfl Tryd.underlying147 tS71 (by omega) (ixV hiv)) ?_
      refine g_u (zk rfl rfl tA71 tS71 rfl rfl) <| g_uG (zg 1009 rfl rfl rfl tZ71) rfl <| g_u (zE rfl rfl) <| g_u (zL rfl rfl rfl tS71 rfl rfl) <| zG <| zA <| zD <| zD <| zB <| g_u (zC rfl rfl) <| g_u (s_gtI rfl rfl rfl) <| zG <| zA ?_
      refine zT rfl (fun hb2 => ?_) (fun hb2 => ?_)
      · have hc : comma (i == 0) = [44] := by have hp : i ≠ 0 := (by have := of_decide_eq_true hb2; omega); rw [show (i == 0) = false from by simpa using hp]; rfl
        refine zB <| g_u (zy rfl rfl) <| g_u (z_ (X0 := z5) rfl Tryd.underlying90 tS5 tZ5 rfl rfl rfl rfl rfl rfl rfl rfl) ?_
        refine g_u (yH rfl rfl rfl rfl rfl Tryd.underlying90 Tryd.underlying90 tS5 zv5 rfl (by decide) by5 (by (try dsimp only); simp only [List.length_append, List.length_cons, List.length_nil]; omega) (by (try dsimp only); simp only [List.length_append, List.length_cons, List.length_nil]; omega)) ?_
        refine g_u (z0 rfl rfl) <| zG <| zA <| zB <| g_u (zy rfl rfl) <| g_u (zn rfl rfl rfl tA71 tS71 rfl rfl) ?_
        refine g_uG (xp [(100001, 100001)] (ih _ (nthV_mem hiv) _ (by first | exact hwy | exact hwy.app (W1.bytes [44])) (by have q1 := wtVs_nth hiv; (try simp only [List.length_append, List.length_cons, List.length_nil]); omega)) rfl rfl ⟨.inl rfl, .inl rfl, trivial⟩ ⟨rfl, trivial⟩ rfl rfl rfl) rfl ?_
        refine g_u (z0 rfl rfl) <| zG <| zU <| zA <| zB <| g_u (yZ rfl rfl rfl) <| g_u (zC rfl rfl) <| zG <| zA ?_
        refine ⟨⟨i + 1, _⟩, ⟨hiv, ?_⟩, ⟨rfl, rfl, rfl, rfl, zX rfl (by rw [zj (by omega) (by omega)]; rfl), trivial⟩, by dsimp only; omega⟩
        dsimp only
        rw [jsonVs_take hiv, hc]
        subst h2
        simp only [List.append_assoc, List.cons_append, List.nil_append, ← yF, bytesL_cons, bytesL_nil, xM, xm]
        try rfl
      · have hc : comma (i == 0) = [] := by have hp : i = 0 := (by have := of_decide_eq_false hb2; omega); rw [hp]; rfl
        refine za <| zA <| zB <| g_u (zy rfl rfl) <| g_u (zn rfl rfl rfl tA71 tS71 rfl rfl) ?_
        refine g_uG (xp [(100001, 100001)] (ih _ (nthV_mem hiv) _ (by first | exact hwy | exact hwy.app (W1.bytes [44])) (by have q1 := wtVs_nth hiv; (try simp only [List.length_append, List.length_cons, List.length_nil]); omega)) rfl rfl ⟨.inl rfl, .inl rfl, trivial⟩ ⟨rfl, trivial⟩ rfl rfl rfl) rfl ?_
        refine g_u (z0 rfl rfl) <| zG <| zU <| zA <| zB <| g_u (yZ rfl rfl rfl) <| g_u (zC rfl rfl) <| zG <| zA ?_
        refine ⟨⟨i + 1, _⟩, ⟨hiv, ?_⟩, ⟨rfl, rfl, rfl, rfl, zX rfl (by rw [zj (by omega) (by omega)]; rfl), trivial⟩, by dsimp only; omega⟩
        dsimp only
        rw [jsonVs_take hiv, hc]
        subst h2
        simp only [List.append_assoc, List.cons_append, List.nil_append, ← yF, bytesL_cons, bytesL_nil, xM, xm]
        try rfl
    · have hi : i = v.list.length := by have := of_decide_eq_false hb1; simp only [List.length_map] at this; omega
      refine yM <| ze <| ze <| z8 <| zA <| zD <| zB <| g_u (zy rfl rfl) <| g_u (z_ (X0 := z5) rfl Tryd.underlying90 tS5 tZ5 rfl rfl rfl rfl rfl rfl rfl rfl) ?_
      refine g_u (yH rfl rfl rfl rfl rfl Tryd.underlying90 Tryd.underlying90 tS5 zv5 rfl (by decide) by5 (by (try dsimp only); simp only [List.length_append, List.length_cons, List.length_nil]; omega) (by (try dsimp only); simp only [List.length_append, List.length_cons, List.length_nil]; omega)) ?_
      refine g_u (z0 rfl rfl) <| zG <| zA <| zM <| z7 <| zV ?_
      exact ⟨⟨.inr ⟨_, rfl, yT rfl (by rw [json6 hk, h2, hi, List.take_of_length_le (Nat.le_refl _), List.append_assoc]; exact congrArg (xs ++ ·) (yF _ [93])), rfl⟩, trivial⟩, ⟨yD rfl (by rw [json6 hk, h2, hi, List.take_of_length_le (Nat.le_refl _), List.append_assoc]; exact congrArg (xs ++ ·) (yF _ [93])), trivial⟩⟩
theorem lay_m (v : GV) (ho : v.ok) (hw : v.wt ≤ 10000000) (xs : List AV) (hx : W1 xs) (hl : xs.length + 150 * v.wt ≤ 5000000000) (hk : v.kind = 7) (ih : ∀ a ∈ v.map, ∀ xs : List AV, W1 xs → xs.length + 150 * a.val.wt ≤ 5000000000 → wV Tryd.prog Γ0 107 [.slg 100001 1 xs, .imm a.val.av] [(100001, .tok 1 xs)] (.slg 100001 1 (xs ++ zY (yv a.val))) [(100001, .tok 1 (xs ++ zY (yv a.val)))]) : wV Tryd.prog Γ0 107 [.slg 100001 1 xs, .imm v.av] [(100001, .tok 1 xs)] (.slg 100001 1 (xs ++ zY (yv v))) [(100001, .tok 1 (xs ++ zY (yv v)))] := by
  have lv := xZ v.list
  have la := yj v.map
  have ek := v.wt_eq
  have ok := v.ok_iff.1 ho
  have sl := yS v
  have jl := xP v
  refine x_ (rs := [.slg 100001 1 (xs ++ zY (yv v))]) Tryd.func107 rfl Tryd.ntmps107 (by kernel_rfl) rfl rfl rfl rfl rfl fun w0 I0 G0 E => ?_
  refine zD <| zB <| g_uG (zd 1003 rfl rfl rfl rfl) rfl <| g_u (zE rfl rfl) <| zG <| zA <| zD <| zD <| zB <| g_u (zH rfl rfl rfl tA71 tS71 rfl rfl) <| g_u (zS (thing_m hk (thing_c v ho hw)) rfl rfl) <| zG <| zA <| zQ <| zD <| zB ?_
  refine g_u (yg rfl rfl nI137 tZ137 (fun z h => by rw [zv137] at h; cases h; rfl) rfl) ?_
  refine g_u (zP rfl rfl rfl rfl) <| g_u (zP rfl rfl rfl rfl) <| zG <| zA <| yL rfl <| zD <| zB ?_
  refine g_u (yg rfl rfl nI136 tZ136 (fun z h => by rw [zv136] at h; cases h; rfl) rfl) ?_
  refine g_u (zP rfl rfl rfl rfl) <| g_u (zP rfl rfl rfl rfl) <| zG <| zA <| yL rfl <| zD <| zB ?_
  refine g_u (yg rfl rfl nI147 tZ147 (fun z h => by rw [zv147] at h; cases h; rfl) rfl) ?_
  refine g_u (zP rfl rfl rfl rfl) <| g_u (zP rfl rfl rfl rfl) <| zG <| zA <| yL rfl <| zD <| zB <| g_u (xd rfl rfl nI148) <| g_u (zP rfl rfl rfl rfl) <| g_u (zP rfl rfl rfl rfl) <| zG <| zA <| zl rfl <| zD <| zB <| g_u (zE rfl rfl) <| zG <| zA <| zD <| zB <| g_u (zy rfl rfl) <| g_u (z_ (X0 := z5) rfl Tryd.underlying90 tS5 tZ5 rfl rfl rfl rfl rfl rfl rfl rfl) ?_
  refine g_u (yH rfl rfl rfl rfl rfl Tryd.underlying90 Tryd.underlying90 tS5 zv5 rfl (by decide) by5 (by (try dsimp only); (try (have q1 := y5 hia; have q2 := (nthA v.map i).wt_eq; have q3 := zw (lst (nthA v.map i).key); have q4 := yK (nthA v.map i).key)); (try simp only [List.length_append, List.length_cons, List.length_nil, zo]); omega) (by (try dsimp only); (try (have q1 := y5 hia; have q2 := (nthA v.map i).wt_eq; have q3 := zw (lst (nthA v.map i).key); have q4 := yK (nthA v.map i).key)); (try simp only [List.length_append, List.length_cons, List.length_nil, zo]); omega)) ?_
  refine g_u (z0 rfl rfl) <| zG <| zA <| zD <| zD <| zB <| g_u (zC rfl rfl) <| g_u (yB rfl rfl Tryd.underlying148) <| g_u (zC rfl rfl) <| zG <| zA <| zQ ?_
  refine yA (fun j : Nat × List AV => [(0, .slg 100001 1 j.2), (100001, .tok 1 j.2), (58, .imm (.sl 7 (v.map.map avA))), (59, .imm (iv (v.map.length : Int))), (60, .imm (iv (j.1 : Int)))]) (fun j => j.1 ≤ v.map.length ∧ j.2 = xs ++ zY (123 :: xy true (v.map.take j.1))) (fun j => v.map.length - j.1) (⟨0, xs ++ zY [123]⟩) ?_ ⟨rfl, rfl, rfl, zX rfl (by rw [List.length_map]), rfl, trivial⟩ ?_
  · exact ⟨Nat.zero_le _, rfl⟩
  · rintro ⟨i, ys⟩ ⟨h1, h2⟩; dsimp only at h1 h2; have hlen : ys.length ≤ xs.length + 1 + 150 * wtAs (v.map.take i) := by have := jsonAs_len (v.map.take i) true; rw [h2, List.length_append, zo, List.length_cons]; omega
    have hwy : W1 ys := by rw [h2]; exact hx.app (W1.bytes _)
    have htk := wtAs_take v.map i
    refine zD <| zB <| g_u (xS rfl rfl rfl) <| zG <| zA <| zD ?_
    refine zT rfl (fun hb1 => ?_) (fun hb1 => ?_)
    · have hia : i < v.map.length := by have := of_decide_eq_true hb1; simp only [List.length_map] at this; omega
      have hka : (nthA v.map i).key.size ≤ 10000000000 := by have q1 := y5 hia; have q4 := (nthA v.map i).wt_eq; omega
      refine za <| zA <| zD <| zQ <| zD <| zB <| g_u (zC rfl rfl) ?_
      refine g_u (zf rfl rfl rfl Tryd.underlying148 tS73 (by omega) (ixA hia)) ?_
      refine g_u (zk rfl rfl tA73 tS73 rfl rfl) <| g_uG (zg 1012 rfl rfl rfl tZ73) rfl <| g_u (zE rfl rfl) <| g_u (zL rfl rfl rfl tS73 rfl rfl) <| zG <| zA <| zD <| zD <| zB <| g_u (zC rfl rfl) <| g_u (s_gtI rfl rfl rfl) <| zG <| zA ?_
      refine zT rfl (fun hb2 => ?_) (fun hb2 => ?_)
      · have hc : comma (i == 0) = [44] := by have hp : i ≠ 0 := (by have := of_decide_eq_true hb2; omega); rw [show (i == 0) = false from by simpa using hp]; rfl
        refine zB <| g_u (zy rfl rfl) <| g_u (z_ (X0 := z5) rfl Tryd.underlying90 tS5 tZ5 rfl rfl rfl rfl rfl rfl rfl rfl) ?_
        refine g_u (yH rfl rfl rfl rfl rfl Tryd.underlying90 Tryd.underlying90 tS5 zv5 rfl (by decide) by5 (by (try dsimp only); (try (have q1 := y5 hia; have q2 := (nthA v.map i).wt_eq; have q3 := zw (lst (nthA v.map i).key); have q4 := yK (nthA v.map i).key)); (try simp only [List.length_append, List.length_cons, List.length_nil, zo]); omega) (by (try dsimp only); (try (have q1 := y5 hia; have q2 := (nthA v.map i).wt_eq; have q3 := zw (lst (nthA v.map i).key); have q4 := yK (nthA v.map i).key)); (try simp only [List.length_append, List.length_cons, List.length_nil, zo]); omega)) ?_
        refine g_u (z0 rfl rfl) <| zG <| zA <| y3 wn <| g_u (zy rfl rfl) <| g_u (zF rfl rfl fa73_0 rfl) <| g_u (zH rfl rfl rfl tA9 tS9 rfl rfl) ?_
        refine g_uG (xp [(3014, 20001)] (jput_c _ _ (by first | exact hwy | exact hwy.app (W1.bytes [44])) hka (by have q1 := y5 hia; have q2 := (nthA v.map i).wt_eq; have q3 := zw (lst (nthA v.map i).key); have q4 := yK (nthA v.map i).key; (try simp only [List.length_append, List.length_cons, List.length_nil, zo]); omega)) rfl rfl ⟨.inr ⟨_, rfl, rfl⟩, .inl rfl, trivial⟩ trivial rfl rfl rfl) rfl ?_
        refine g_u (z_ (X0 := z5) rfl Tryd.underlying90 tS5 tZ5 rfl rfl rfl rfl rfl rfl rfl rfl) ?_
        refine g_u (yH rfl rfl rfl rfl rfl Tryd.underlying90 Tryd.underlying90 tS5 zv5 rfl (by decide) by5 (by (try dsimp only); (try (have q1 := y5 hia; have q2 := (nthA v.map i).wt_eq; have q3 := zw (lst (nthA v.map i).key); have q4 := yK (nthA v.map i).key)); (try simp only [List.length_append, List.length_cons, List.length_nil, zo]); omega) (by (try dsimp only); (try (have q1 := y5 hia; have q2 := (nthA v.map i).wt_eq; have q3 := zw (lst (nthA v.map i).key); have q4 := yK (nthA v.map i).key)); (try simp only [List.length_append, List.length_cons, List.length_nil, zo]); omega)) ?_
        refine g_u (zF rfl rfl fa73_1 rfl) <| g_u (zH rfl rfl rfl tA71 tS71 rfl rfl) ?_
        refine g_uG (xp [(100001, 20001)] (ih _ (nthA_mem hia) _ (by first | exact ((hwy.app (W1.bytes _)).app (W1.bytes [58])) | exact (((hwy.app (W1.bytes [44])).app (W1.bytes _)).app (W1.bytes [58]))) (by show _ + 150 * (nthA v.map i).val.wt ≤ 5000000000; have q1 := y5 hia; have q2 := (nthA v.map i).wt_eq; have q3 := zw (lst (nthA v.map i).key); have q4 := yK (nthA v.map i).key; (try simp only [List.length_append, List.length_cons, List.length_nil, zo]); omega)) rfl rfl ⟨.inl rfl, .inl rfl, trivial⟩ ⟨rfl, trivial⟩ rfl rfl rfl) rfl ?_
        refine g_u (z0 rfl rfl) ?_
        refine zG ⟨by kernel_rfl, ?_⟩
        refine zU <| zA ?_
        refine aw_renTok 20001 100001 1 _ [(0, .slg 100001 1 _), (58, .imm (.sl 7 (v.map.map avA))), (59, .imm (iv (v.map.length : Int))), (60, .imm (iv (i : Int)))] rfl rfl rfl rfl rfl rfl ⟨.inr (.inl ⟨rfl, rfl⟩), .inl ⟨rfl, rfl⟩, .inl ⟨rfl, rfl⟩, .inl ⟨rfl, rfl⟩, trivial⟩ (by simp only [List.length_append, List.length_cons, List.length_nil, zo]; omega) ?_
        refine zB <| g_u (yZ rfl rfl rfl) <| g_u (zC rfl rfl) <| zG <| zA ?_
        refine ⟨⟨i + 1, _⟩, ⟨hia, ?_⟩, ⟨rfl, rfl, rfl, rfl, zX rfl (by rw [zj (by omega) (by omega)]; rfl), trivial⟩, by dsimp only; omega⟩
        dsimp only
        rw [jsonAs_take hia, hc, jsonA_eq]
        subst h2
        simp only [List.append_assoc, List.cons_append, List.nil_append, ← yF, bytesL_cons, bytesL_nil, xM, xm]
        try rfl
      · have hc : comma (i == 0) = [] := by have hp : i = 0 := (by have := of_decide_eq_false hb2; omega); rw [hp]; rfl
        refine za <| zA <| y3 wn <| g_u (zy rfl rfl) <| g_u (zF rfl rfl fa73_0 rfl) <| g_u (zH rfl rfl rfl tA9 tS9 rfl rfl) ?_
        refine g_uG (xp [(3014, 20002)] (jput_c _ _ (by first | exact hwy | exact hwy.app (W1.bytes [44])) hka (by have q1 := y5 hia; have q2 := (nthA v.map i).wt_eq; have q3 := zw (lst (nthA v.map i).key); have q4 := yK (nthA v.map i).key; (try simp only [List.length_append, List.length_cons, List.length_nil, zo]); omega)) rfl rfl ⟨.inr ⟨_, rfl, rfl⟩, .inl rfl, trivial⟩ trivial rfl rfl rfl) rfl ?_
        refine g_u (z_ (X0 := z5) rfl Tryd.underlying90 tS5 tZ5 rfl rfl rfl rfl rfl rfl rfl rfl) ?_
        refine g_u (yH rfl rfl rfl rfl rfl Tryd.underlying90 Tryd.underlying90 tS5 zv5 rfl (by decide) by5 (by (try dsimp only); (try (have q1 := y5 hia; have q2 := (nthA v.map i).wt_eq; have q3 := zw (lst (nthA v.map i).key); have q4 := yK (nthA v.map i).key)); (try simp only [List.length_append, List.length_cons, List.length_nil, zo]); omega) (by (try dsimp only); (try (have q1 := y5 hia; have q2 := (nthA v.map i).wt_eq; have q3 := zw (lst (nthA v.map i).key); have q4 := yK (nthA v.map i).key)); (try simp only [List.length_append, List.length_cons, List.length_nil, zo]); omega)) ?_
        refine g_u (zF rfl rfl fa73_1 rfl) <| g_u (zH rfl rfl rfl tA71 tS71 rfl rfl) ?_
        refine g_uG (xp [(100001, 20002)] (ih _ (nthA_mem hia) _ (by first | exact ((hwy.app (W1.bytes _)).app (W1.bytes [58])) | exact (((hwy.app (W1.bytes [44])).app (W1.bytes _)).app (W1.bytes [58]))) (by show _ + 150 * (nthA v.map i).val.wt ≤ 5000000000; have q1 := y5 hia; have q2 := (nthA v.map i).wt_eq; have q3 := zw (lst (nthA v.map i).key); have q4 := yK (nthA v.map i).key; (try simp only [List.length_append, List.length_cons, List.length_nil, zo]); omega)) rfl rfl ⟨.inl rfl, .inl rfl, trivial⟩ ⟨rfl, trivial⟩ rfl rfl rfl) rfl ?_
        refine g_u (z0 rfl rfl) ?_
        refine zG ⟨by kernel_rfl, ?_⟩
        refine zU <| zA ?_
        refine aw_renTok 20002 100001 1 _ [(0, .slg 100001 1 _), (58, .imm (.sl 7 (v.map.map avA))), (59, .imm (iv (v.map.length : Int))), (60, .imm (iv (i : Int)))] rfl rfl rfl rfl rfl rfl ⟨.inr (.inl ⟨rfl, rfl⟩), .inl ⟨rfl, rfl⟩, .inl ⟨rfl, rfl⟩, .inl ⟨rfl, rfl⟩, trivial⟩ (by simp only [List.length_append, List.length_cons, List.length_nil, zo]; omega) ?_
        refine zB <| g_u (yZ rfl rfl rfl) <| g_u (zC rfl rfl) <| zG <| zA ?_
        refine ⟨⟨i + 1, _⟩, ⟨hia, ?_⟩, ⟨rfl, rfl, rfl, rfl, zX rfl (by rw [zj (by omega) (by omega)]; rfl), trivial⟩, by dsimp only; omega⟩
        dsimp only
        rw [jsonAs_take hia, hc, jsonA_eq]
        subst h2
        simp only [List.append_assoc, List.cons_append, List.nil_append, ← yF, bytesL_cons, bytesL_nil, xM, xm]
        try rfl
    · have hi : i = v.map.length := by have := of_decide_eq_false hb1; simp only [List.length_map] at this; omega
      refine yM <| ze <| ze <| z8 <| zA <| zD <| zB <| g_u (zy rfl rfl) <| g_u (z_ (X0 := z5) rfl Tryd.underlying90 tS5 tZ5 rfl rfl rfl rfl rfl rfl rfl rfl) ?_
      refine g_u (yH rfl rfl rfl rfl rfl Tryd.underlying90 Tryd.underlying90 tS5 zv5 rfl (by decide) by5 (by (try dsimp only); (try (have q1 := y5 hia; have q2 := (nthA v.map i).wt_eq; have q3 := zw (lst (nthA v.map i).key); have q4 := yK (nthA v.map i).key)); (try simp only [List.length_append, List.length_cons, List.length_nil, zo]); omega) (by (try dsimp only); (try (have q1 := y5 hia; have q2 := (nthA v.map i).wt_eq; have q3 := zw (lst (nthA v.map i).key); have q4 := yK (nthA v.map i).key)); (try simp only [List.length_append, List.length_cons, List.length_nil, zo]); omega)) ?_
      refine g_u (z0 rfl rfl) <| zG <| zA <| zM <| z7 <| zV ?_
      exact ⟨⟨.inr ⟨_, rfl, yT rfl (by rw [json7 hk, h2, hi, List.take_of_length_le (Nat.le_refl _), List.append_assoc]; exact congrArg (xs ++ ·) (yF _ [125])), rfl⟩, trivial⟩, ⟨yD rfl (by rw [json7 hk, h2, hi, List.take_of_length_le (Nat.le_refl _), List.append_assoc]; exact congrArg (xs ++ ·) (yF _ [125])), trivial⟩⟩
theorem lay_c (v : GV) : v.ok → v.wt ≤ 10000000 → ∀ xs : List AV, W1 xs → xs.length + 150 * v.wt ≤ 5000000000 → wV Tryd.prog Γ0 107 [.slg 100001 1 xs, .imm v.av] [(100001, .tok 1 xs)] (.slg 100001 1 (xs ++ zY (yv v))) [(100001, .tok 1 (xs ++ zY (yv v)))] := by
  refine GV.ind (P := fun v => v.ok → v.wt ≤ 10000000 → ∀ xs : List AV, W1 xs → xs.length + 150 * v.wt ≤ 5000000000 → wV Tryd.prog Γ0 107 [.slg 100001 1 xs, .imm v.av] [(100001, .tok 1 xs)] (.slg 100001 1 (xs ++ zY (yv v))) [(100001, .tok 1 (xs ++ zY (yv v)))]) ?_ v
  intro v h1 h2 ho hw xs hx hl
  have ok := v.ok_iff.1 ho
  have ek := v.wt_eq
  by_cases h6 : v.kind = 6
  · exact lay_l v ho hw xs hx hl h6 fun y hy ys hy1 hy2 => h1 y hy (ok.2.2.2.2.1 y hy) (by have := wtVs_mem hy; omega) ys hy1 hy2
  by_cases h7 : v.kind = 7
  · exact lay_m v ho hw xs hx hl h7 fun a ha ys hy1 hy2 => h2 a ha ((GA.ok_iff a).1 (ok.2.2.2.2.2 a ha)).2 (by have := xt ha; have := a.wt_eq; omega) ys hy1 hy2
  by_cases hq : v.kind = 1 ∨ v.kind = 4 ∨ v.kind = 5
  · exact lay_q v ho hw xs hx hl hq
  · exact lay_p v ho hw xs hx hl (by omega)
theorem json_c (v : GV) (ho : v.ok) (hw : v.wt ≤ 10000000) : zi Tryd.prog Γ0 91 [v.av] [sv (ye (yv v))] := by
  have lv := xZ v.list
  have la := yj v.map
  have ek := v.wt_eq
  have ok := v.ok_iff.1 ho
  have sl := yS v
  have jl := xP v
  refine zO Tryd.func91 rfl Tryd.ntmps91 (by kernel_rfl) rfl fun w0 I0 G0 => ?_
  refine zD <| zB <| g_uG (zd 1001 rfl rfl rfl rfl) rfl <| g_u (zE rfl rfl) <| zG <| zA <| zD <| zB <| g_u (zH rfl rfl rfl tA71 tS71 rfl rfl) ?_
  refine g_u (zS (pcall_nil (n := 1) (xs := [v.av]) (lay_c v ho hw [] (fun x hx => by cases hx) (by simp only [List.length_nil]; omega))) rfl rfl) ?_
  refine g_u (s_cvBS' (rfl) rfl rfl Tryd.underlying90 Tryd.underlying9 Tryd.underlying5) <| g_u (zE rfl rfl) <| zG <| zA <| zM ?_
  exact ⟨⟨(rfl : toAV (Al.look _ _) = some _).trans (congrArg some (by rfl)), rfl⟩, trivial⟩
theorem text_q (v : GV) (ho : v.ok) (hw : v.wt ≤ 10000000) (hk : v.kind = 1 ∨ v.kind = 4 ∨ v.kind = 5) : zi Tryd.prog Γ0 76 [v.av] [sv (wx v)] := by
  have lv := xZ v.list
  have la := yj v.map
  have ek := v.wt_eq
  have ok := v.ok_iff.1 ho
  have sl := yS v
  have jl := xP v
  refine zO Tryd.func76 rfl Tryd.ntmps76 (by kernel_rfl) rfl fun w0 I0 G0 => ?_
  refine zD <| zB <| g_uG (zd 1001 rfl rfl rfl rfl) rfl <| g_u (zE rfl rfl) <| zG <| zA <| zD <| zD <| zB <| g_u (zH rfl rfl rfl tA71 tS71 rfl rfl) <| g_u (zS (thing_q hk (thing_c v ho hw)) rfl rfl) <| zG <| zA <| zQ <| zD <| zB <| g_u (xd rfl rfl nI136) <| g_u (zP rfl rfl rfl rfl) <| g_u (zP rfl rfl rfl rfl) <| zG <| zA <| zl rfl <| zD <| zB <| g_u (zE rfl rfl) <| zG <| zA <| zD <| zB <| g_u (zC rfl rfl) <| g_u (zE rfl rfl) <| zG <| zA <| zM <| z7 <| zV ?_
  exact ⟨⟨(rfl : toAV (Al.look _ _) = some _).trans (congrArg some (by (rw [textE (by omega)]))), rfl⟩, trivial⟩
theorem text_p (v : GV) (ho : v.ok) (hw : v.wt ≤ 10000000) (hk : v.kind ≠ 1 ∧ v.kind ≠ 4 ∧ v.kind ≠ 5 ∧ v.kind ≠ 6 ∧ v.kind ≠ 7) : zi Tryd.prog Γ0 76 [v.av] [sv (wx v)] := by
  have lv := xZ v.list
  have la := yj v.map
  have ek := v.wt_eq
  have ok := v.ok_iff.1 ho
  have sl := yS v
  have jl := xP v
  refine zO Tryd.func76 rfl Tryd.ntmps76 (by kernel_rfl) rfl fun w0 I0 G0 => ?_
  refine zD <| zB <| g_uG (zd 1001 rfl rfl rfl rfl) rfl <| g_u (zE rfl rfl) <| zG <| zA <| zD <| zD <| zB <| g_u (zH rfl rfl rfl tA71 tS71 rfl rfl) <| g_u (zS (thing_p hk (thing_c v ho hw)) rfl rfl) <| zG <| zA <| zQ <| zD <| zB ?_
  refine g_u (yg rfl rfl nI136 tZ136 (fun z h => by rw [zv136] at h; cases h; rfl) rfl) ?_
  refine g_u (zP rfl rfl rfl rfl) <| g_u (zP rfl rfl rfl rfl) <| zG <| zA <| yL rfl <| zD <| zB <| g_u (xd rfl rfl nI137) <| g_u (zP rfl rfl rfl rfl) <| g_u (zP rfl rfl rfl rfl) <| zG <| zA <| zl rfl <| zD <| zB <| g_u (zE rfl rfl) <| zG <| zA <| zD <| zD <| zB <| g_u (zF rfl rfl fa71_0 rfl) <| g_u (zH rfl rfl rfl tA5 tS5 rfl rfl) <| g_u (xx rfl rfl rfl) <| zG <| zA ?_
  refine zT rfl (fun hb1 => ?_) (fun hb1 => ?_)
  · refine zD ?_
    refine zB <| g_u (zE rfl rfl) <| zG <| zA <| zM <| zV <| z7 <| zV ?_
    exact ⟨⟨(rfl : toAV (Al.look _ _) = some _).trans (congrArg some (by (simp only [beq_iff_eq, qe, ne_eq, decide_eq_true_eq, qb] at *; rw [textE (by omega), simp6 (by omega)]; rfl))), rfl⟩, trivial⟩
  · refine za ?_
    refine zA <| zD <| zB <| g_u (zC rfl rfl) <| g_u (zE rfl rfl) <| zG <| zA <| zM <| z7 <| zV ?_
    exact ⟨⟨(rfl : toAV (Al.look _ _) = some _).trans (congrArg some (by (simp only [beq_iff_eq, qe, ne_eq, decide_eq_true_eq, qb] at *; rw [textE (by omega), jsonE (by omega)]))), rfl⟩, trivial⟩
theorem text_l (v : GV) (ho : v.ok) (hw : v.wt ≤ 10000000) (hk : v.kind = 6) : zi Tryd.prog Γ0 76 [v.av] [sv (wx v)] := by
  have lv := xZ v.list
  have la := yj v.map
  have ek := v.wt_eq
  have ok := v.ok_iff.1 ho
  have sl := yS v
  have jl := xP v
  refine zO Tryd.func76 rfl Tryd.ntmps76 (by kernel_rfl) rfl fun w0 I0 G0 => ?_
  refine zD <| zB <| g_uG (zd 1001 rfl rfl rfl rfl) rfl <| g_u (zE rfl rfl) <| zG <| zA <| zD <| zD <| zB <| g_u (zH rfl rfl rfl tA71 tS71 rfl rfl) <| g_u (zS (thing_l hk (thing_c v ho hw)) rfl rfl) <| zG <| zA <| zQ <| zD <| zB ?_
  refine g_u (yg rfl rfl nI136 tZ136 (fun z h => by rw [zv136] at h; cases h; rfl) rfl) ?_
  refine g_u (zP rfl rfl rfl rfl) <| g_u (zP rfl rfl rfl rfl) <| zG <| zA <| yL rfl <| zD <| zB ?_
  refine g_u (yg rfl rfl nI137 tZ137 (fun z h => by rw [zv137] at h; cases h; rfl) rfl) ?_
  refine g_u (zP rfl rfl rfl rfl) <| g_u (zP rfl rfl rfl rfl) <| zG <| zA <| yL rfl <| za <| zU <| zA <| zD <| zB <| g_u (zH rfl rfl rfl tA71 tS71 rfl rfl) <| g_u (zS (json_c v ho hw) rfl rfl) <| g_u (zE rfl rfl) <| zG <| zA <| zM ?_
  exact ⟨⟨(rfl : toAV (Al.look _ _) = some _).trans (congrArg some (by (rw [text6 (by omega)]))), rfl⟩, trivial⟩
theorem text_m (v : GV) (ho : v.ok) (hw : v.wt ≤ 10000000) (hk : v.kind = 7) : zi Tryd.prog Γ0 76 [v.av] [sv (wx v)] := by
  have lv := xZ v.list
  have la := yj v.map
  have ek := v.wt_eq
  have ok := v.ok_iff.1 ho
  have sl := yS v
  have jl := xP v
  refine zO Tryd.func76 rfl Tryd.ntmps76 (by kernel_rfl) rfl fun w0 I0 G0 => ?_
  refine zD <| zB <| g_uG (zd 1001 rfl rfl rfl rfl) rfl <| g_u (zE rfl rfl) <| zG <| zA <| zD <| zD <| zB <| g_u (zH rfl rfl rfl tA71 tS71 rfl rfl) <| g_u (zS (thing_m hk (thing_c v ho hw)) rfl rfl) <| zG <| zA <| zQ <| zD <| zB ?_
  refine g_u (yg rfl rfl nI136 tZ136 (fun z h => by rw [zv136] at h; cases h; rfl) rfl) ?_
  refine g_u (zP rfl rfl rfl rfl) <| g_u (zP rfl rfl rfl rfl) <| zG <| zA <| yL rfl <| zD <| zB ?_
  refine g_u (yg rfl rfl nI137 tZ137 (fun z h => by rw [zv137] at h; cases h; rfl) rfl) ?_
  refine g_u (zP rfl rfl rfl rfl) <| g_u (zP rfl rfl rfl rfl) <| zG <| zA <| yL rfl <| za <| zU <| zA <| zD <| zB <| g_u (zH rfl rfl rfl tA71 tS71 rfl rfl) <| g_u (zS (json_c v ho hw) rfl rfl) <| g_u (zE rfl rfl) <| zG <| zA <| zM ?_
  exact ⟨⟨(rfl : toAV (Al.look _ _) = some _).trans (congrArg some (by (rw [text6 (by omega)]))), rfl⟩, trivial⟩
theorem text_c (v : GV) (ho : v.ok) (hw : v.wt ≤ 10000000) : zi Tryd.prog Γ0 76 [v.av] [sv (wx v)] := by
  by_cases h6 : v.kind = 6
  · exact text_l v ho hw h6
  by_cases h7 : v.kind = 7
  · exact text_m v ho hw h7
  by_cases hq : v.kind = 1 ∨ v.kind = 4 ∨ v.kind = 5
  · exact text_q v ho hw hq
  · exact text_p v ho hw (by omega)
end Go.Proofs
namespace Go.Proofs
open Go Go.Al
set_option maxRecDepth 10000
end Go.Proofs
namespace Go.Proofs
open Go Go.Al
set_option maxRecDepth 10000
theorem z36_w : AV.width z36 = 42 := by kernel_rfl
theorem z68_w : AV.width z68 = 26 := by kernel_rfl
end Go.Proofs
namespace Go.Proofs
open Go Go.Al
set_option maxRecDepth 10000
theorem cmp132 : cmpFn Tryd.prog 132 := ⟨_, Tryd.func132, by kernel_rfl, rfl, by kernel_rfl, by kernel_rfl⟩
theorem cmp_119_c (s t : ByteArray) : zi Tryd.prog Γ0 119 [sv s, sv t] [iv (cmpK s t)] := by
  refine zO Tryd.func119 rfl Tryd.ntmps119 (by kernel_rfl) rfl fun w0 I0 G0 => ?_
  refine zD <| zB <| g_u (zE rfl rfl) <| zG <| zA <| zD <| zB <| g_u (zC rfl rfl) <| g_u (zC rfl rfl) <| g_u (s_cmpS cmp132 rfl rfl rfl) <| g_u (zE rfl rfl) <| zG <| zA <| zM ?_
  exact ⟨⟨(rfl : toAV (Al.look _ _) = some _).trans (congrArg some (by rfl)), rfl⟩, trivial⟩
theorem cmp_102_c (s t : ByteArray) : zi Tryd.prog Γ0 102 [sv s, sv t] [iv (cmpK s t)] := by
  refine zO Tryd.func102 rfl Tryd.ntmps102 (by kernel_rfl) rfl fun w0 I0 G0 => ?_
  refine zD <| zB <| g_u (zE rfl rfl) <| zG <| zA <| zD <| zB <| g_u (zC rfl rfl) <| g_u (zC rfl rfl) <| g_u (zS (cmp_119_c _ _) rfl rfl) <| g_u (zE rfl rfl) <| zG <| zA <| zM ?_
  exact ⟨⟨(rfl : toAV (Al.look _ _) = some _).trans (congrArg some (by rfl)), rfl⟩, trivial⟩
theorem cmpA_c (a : GA) (k : ByteArray) : zi Tryd.prog Γ0 101 [a.av, sv k] [iv (cmpK a.key k)] := by
  refine zO Tryd.func101 rfl Tryd.ntmps101 (by kernel_rfl) rfl fun w0 I0 G0 => ?_
  refine zD <| zB <| g_uG (zd 1002 rfl rfl rfl rfl) rfl <| g_u (zE rfl rfl) <| zG <| zA <| zD <| zB <| g_u (zF rfl rfl fa73_0 rfl) <| g_u (zH rfl rfl rfl tA9 tS9 rfl rfl) <| g_u (zC rfl rfl) <| g_u (zS (cmp_102_c _ _) rfl rfl) <| g_u (zE rfl rfl) <| zG <| zA <| zM ?_
  exact ⟨⟨(rfl : toAV (Al.look _ _) = some _).trans (congrArg some (by rfl)), rfl⟩, trivial⟩
theorem bsf_c (l : List GA) (k : ByteArray) (hr : risA none l) (hl : l.length ≤ 1000000000000) : zi Tryd.prog Γ0 100 [.sl 7 (l.map avA), sv k, .fn (.func 101) [] []] [iv (posA l k : Nat), bv (hasA l k)] := by
  refine zO Tryd.func100 rfl Tryd.ntmps100 (by kernel_rfl) rfl fun w0 I0 G0 => ?_
  refine zD <| zB <| g_u (zE rfl rfl) <| g_u (zE rfl rfl) <| zG <| zA <| zD <| zB <| g_u (zC rfl rfl) <| g_u (yB rfl rfl Tryd.underlying30) <| g_u (zE rfl rfl) <| zG <| zA <| zD <| zB <| g_u (zC rfl rfl) <| g_u (zE rfl rfl) <| g_u (zE rfl rfl) <| zG <| zA <| zD <| zQ ?_
  refine yA (fun j : Nat × Nat => [(0, .imm (.sl 7 (l.map avA))), (1, .imm (sv k)), (2, .imm (.fn (.func 101) [] [])), (8, .imm (iv (l.length : Int))), (9, .imm (iv (j.1 : Int))), (10, .imm (iv (j.2 : Int)))]) (fun j => j.1 ≤ j.2 ∧ j.2 ≤ l.length ∧ (∀ i, i < j.1 → ltB (nthA l i).key k = true) ∧ (∀ i, j.2 ≤ i → i < l.length → ltB (nthA l i).key k = false)) (fun j => j.2 - j.1) (⟨0, l.length⟩) ?_ ⟨rfl, rfl, rfl, zX rfl (by rw [List.length_map]), rfl, zX rfl (by rw [List.length_map]), trivial⟩ ?_
  · exact ⟨Nat.zero_le _, Nat.le_refl _, fun i h => absurd h (Nat.not_lt_zero _), fun i h1 h2 => absurd h2 (Nat.not_lt.2 h1)⟩
  · rintro ⟨lo, hi⟩ ⟨h1, h2, h3, h4⟩; dsimp only at h1 h2 h3 h4
    have em : IntKind.i64.wrap ((IntKind.u64.wrap (IntKind.i64.wrap ((lo : Int) + (hi : Int)))).fdiv (2 ^ (min (1 : Int).toNat IntKind.u64.bits))) = (((lo + hi) / 2 : Nat) : Int) := by rw [zj (n := (lo : Int) + (hi : Int)) (by omega) (by omega), wrapu64 (by omega) (by omega), Int.fdiv_eq_ediv_of_nonneg _ (by decide), show (2 : Int) ^ (min (1 : Int).toNat IntKind.u64.bits) = 2 from by decide, zj (by omega) (by omega)]; omega
    refine zD <| zD <| zB <| g_u (zC rfl rfl) <| g_u (zC rfl rfl) <| g_u (xS rfl rfl rfl) <| zG <| zA ?_
    refine zT rfl (fun hb1 => ?_) (fun hb1 => ?_)
    · have hmid : (lo + hi) / 2 < l.length := by have := of_decide_eq_true hb1; omega
      refine za <| zA <| zQ <| zD <| zB <| g_u (zC rfl rfl) <| g_u (zC rfl rfl) <| g_u (yZ rfl rfl rfl) <| g_u (s_cvII rfl rfl Tryd.underlying3 Tryd.underlying155) ?_
      refine g_u (s_shr rfl rfl rfl (by first | decide | omega | (((try simp only [decide_eq_true_eq, qb, bne_iff_ne, ne_eq, beq_iff_eq, qd, qe, Bool.not_eq_true', Bool.not_eq_false', gt_iff_lt, ge_iff_le] at *); (repeat simp (disch := omega) only [zj, ym] at *)); omega))) ?_
      refine g_u (s_cvII rfl rfl Tryd.underlying155 Tryd.underlying3) <| g_u (zE rfl rfl) <| zG <| zA <| zD <| zB <| g_u (zC rfl rfl) <| g_u (zC rfl rfl) <| g_u (zC rfl rfl) ?_
      refine g_u (zf rfl rfl rfl Tryd.underlying30 tS73 (by erw [em]; omega) ((congrArg (fun z : Int => (l.map avA)[z.toNat]?) em).trans (ixA hmid))) ?_
      refine g_u (zk rfl rfl tA73 tS73 rfl rfl) <| g_u (zC rfl rfl) <| g_u (xF (cmpA_c _ _) rfl rfl rfl) <| g_u (xS rfl rfl rfl) <| zG <| zA ?_
      refine zT rfl (fun hb2 => ?_) (fun hb2 => ?_)
      · have hk : ltB (nthA l ((lo + hi) / 2)).key k = true := (cmpK_lt _ _).1 (of_decide_eq_true hb2)
        refine zB <| g_u (zC rfl rfl) <| g_u (yZ rfl rfl rfl) <| g_u (zE rfl rfl) <| zG <| zU <| zA ?_
        have hlt : lo < hi := by have := of_decide_eq_true hb1; omega
        first
          | exact ⟨⟨(lo + hi) / 2 + 1, hi⟩, ⟨by dsimp only; omega, h2, fun i hi1 => ris_left hr hmid hk (by dsimp only at hi1; omega), h4⟩, ⟨rfl, rfl, rfl, rfl, zX rfl (by erw [em]; rw [zj (by omega) (by omega)]; rfl), rfl, trivial⟩, by dsimp only; omega⟩
          | exact ⟨⟨lo, (lo + hi) / 2⟩, ⟨by dsimp only; omega, by dsimp only; omega, h3, fun i hi1 hi2 => ris_right hr hk hi1 hi2⟩, ⟨rfl, rfl, rfl, rfl, rfl, zX rfl em, trivial⟩, by dsimp only; omega⟩
      · have hk : ltB (nthA l ((lo + hi) / 2)).key k = false := by cases hq : ltB (nthA l ((lo + hi) / 2)).key k; rfl; exact absurd ((cmpK_lt _ _).2 hq) (of_decide_eq_false hb2)
        refine zB <| g_u (zC rfl rfl) <| g_u (zE rfl rfl) <| zG <| zU <| zA ?_
        have hlt : lo < hi := by have := of_decide_eq_true hb1; omega
        first
          | exact ⟨⟨(lo + hi) / 2 + 1, hi⟩, ⟨by dsimp only; omega, h2, fun i hi1 => ris_left hr hmid hk (by dsimp only at hi1; omega), h4⟩, ⟨rfl, rfl, rfl, rfl, zX rfl (by erw [em]; rw [zj (by omega) (by omega)]; rfl), rfl, trivial⟩, by dsimp only; omega⟩
          | exact ⟨⟨lo, (lo + hi) / 2⟩, ⟨by dsimp only; omega, by dsimp only; omega, h3, fun i hi1 hi2 => ris_right hr hk hi1 hi2⟩, ⟨rfl, rfl, rfl, rfl, rfl, zX rfl em, trivial⟩, by dsimp only; omega⟩
    · have hlo : lo = hi := by have := of_decide_eq_false hb1; omega
      have hp : lo = posA l k := posA_spec l k lo (by omega) h3 (fun i hi1 hi2 => h4 i (by omega) hi2)
      refine yM <| ze <| ze <| z8 <| zA <| zD <| zB <| g_u (zC rfl rfl) <| g_u (zC rfl rfl) <| g_u (zC rfl rfl) <| g_u (xS rfl rfl rfl) <| g_u (zC rfl rfl) <| yP (t := 39) rfl ?_
      rintro (hb3 | hb3)
      · rw [hb3]
        have hll : lo < l.length := by have := of_decide_eq_true hb3; (try simp only [List.length_map] at this); omega
        refine zZ rfl rfl (zC rfl rfl) <| zZ rfl rfl (zC rfl rfl) <| zZ rfl rfl (zC rfl rfl) ?_
        refine zZ rfl rfl (zf rfl rfl rfl Tryd.underlying30 tS73 (by omega) (ixA hll)) ?_
        refine zZ rfl rfl (zk rfl rfl tA73 tS73 rfl rfl) <| zZ rfl rfl (zC rfl rfl) <| zZ rfl rfl (xF (cmpA_c _ _) rfl rfl rfl) <| zZ rfl rfl (xx rfl rfl rfl) <| g_u (zR rfl rfl rfl) <| g_u (zE rfl rfl) <| g_u (zE rfl rfl) <| zG <| zA <| zM ?_
        exact ⟨⟨(rfl : toAV (Al.look _ _) = some _).trans (congrArg (fun n : Nat => some (iv n)) hp), rfl⟩, ⟨(rfl : toAV (Al.look _ _) = some _).trans (congrArg (fun b => some (bv b)) (by rw [hasA, ← hp, decide_eq_true hll, Bool.true_and, ← Bool.coe_iff_coe]; simp only [beq_iff_eq, decide_eq_true_eq]; exact cmpK_eq _ _)), rfl⟩, trivial⟩
      · rw [hb3]
        have hll : ¬ lo < l.length := by have := of_decide_eq_false hb3; (try simp only [List.length_map] at this); omega
        refine zI rfl rfl rfl <| zI rfl rfl rfl <| zI rfl rfl rfl <| zI rfl rfl rfl <| zI rfl rfl rfl <| zI rfl rfl rfl <| zI rfl rfl rfl <| zI rfl rfl rfl <| g_u (zp rfl rfl rfl) <| g_u (zE rfl rfl) <| g_u (zE rfl rfl) <| zG <| zA <| zM ?_
        exact ⟨⟨(rfl : toAV (Al.look _ _) = some _).trans (congrArg (fun n : Nat => some (iv n)) hp), rfl⟩, ⟨(rfl : toAV (Al.look _ _) = some _).trans (congrArg (fun b => some (bv b)) (by rw [hasA, ← hp, decide_eq_false hll, Bool.false_and])), rfl⟩, trivial⟩
theorem find_c (l : List GA) (k : ByteArray) (hr : risA none l) (hl : l.length ≤ 1000000000000) : zi Tryd.prog Γ0 89 [.sl 7 (l.map avA), sv k] [iv (posA l k : Nat), bv (hasA l k)] := by
  refine zO Tryd.func89 rfl Tryd.ntmps89 (by kernel_rfl) rfl fun w0 I0 G0 => ?_
  refine zD <| zB <| g_u (zE rfl rfl) <| g_u (zE rfl rfl) <| zG <| zA <| zD <| zB <| g_u (zC rfl rfl) <| g_u (zC rfl rfl) <| g_u (wA (bsf_c l k hr hl) rfl rfl) <| g_u (zP rfl rfl rfl rfl) <| g_u (zP rfl rfl rfl rfl) <| g_u (zE rfl rfl) <| g_u (zE rfl rfl) <| zG <| zA <| zM ?_
  exact ⟨⟨(rfl : toAV (Al.look _ _) = some _).trans (congrArg some (by rfl)), rfl⟩, ⟨(rfl : toAV (Al.look _ _) = some _).trans (congrArg some (by rfl)), rfl⟩, trivial⟩
theorem get_c (l : List GA) (k : ByteArray) (hr : risA none l) (hl : l.length ≤ 1000000000000) : zi Tryd.prog Γ0 75 [.sl 7 (l.map avA), sv k] [((getA l k).getD zeroV).av, bv (getA l k).isSome] := by
  refine zO Tryd.func75 rfl Tryd.ntmps75 (by kernel_rfl) rfl fun w0 I0 G0 => ?_
  refine zD <| zB <| g_uG (zg 1004 rfl rfl rfl tZ71) rfl <| g_u (zE rfl rfl) <| zG <| zA <| zD <| zD <| zB <| g_u (zC rfl rfl) <| g_u (zC rfl rfl) <| g_u (wA (find_c l k hr hl) rfl rfl) <| g_u (xN rfl rfl) <| g_u (zP rfl rfl rfl rfl) <| g_u (zP rfl rfl rfl rfl) <| g_u (zE rfl rfl) <| g_u (zE rfl rfl) <| zG <| zA <| zD <| zB <| g_u (zC rfl rfl) <| zG <| zA ?_
  refine zT rfl (fun hb1 => ?_) (fun hb1 => ?_)
  · have hh : hasA l k = true := hb1
    have hll : posA l k < l.length := by unfold hasA at hh; simp at hh; exact hh.1
    refine zD <| zB <| g_u (zC rfl rfl) <| g_u (zC rfl rfl) ?_
    refine g_u (zf rfl rfl rfl Tryd.underlying30 tS73 (by omega) (ixA hll)) ?_
    refine g_u (s_fieldAddr_cp rfl rfl fa73_1 rfl rfl) <| g_u (zk rfl rfl tA71 tS71 rfl rfl) <| g_u (zL rfl rfl rfl tS71 rfl rfl) <| g_u (zE rfl rfl) <| zG <| zA <| zM <| zV ?_
    exact ⟨⟨_, _, _, _, _, _, _, rfl, rfl, tA71, tS71, rfl, rfl, (rfl : toAV _ = some _).trans (congrArg some (by (rw [getA_pos hr k, if_pos hh]; rfl)))⟩, ⟨(rfl : toAV (Al.look _ _) = some _).trans (congrArg some (by (rw [getA_pos hr k, if_pos hh]; rfl))), rfl⟩, trivial⟩
  · have hh : hasA l k = false := hb1
    refine za <| zA <| zD <| zB <| g_u (yh rfl tU71 us71 pl71 rfl rfl rfl rfl) <| g_u (zL rfl rfl rfl tS71 rfl rfl) <| g_u (zE rfl rfl) <| zG <| zA <| zM ?_
    exact ⟨⟨_, _, _, _, _, _, _, rfl, rfl, tA71, tS71, rfl, rfl, (rfl : toAV _ = some _).trans (congrArg some (by (rw [getA_pos hr k, if_neg (by rw [hh]; decide)]; rfl)))⟩, ⟨(rfl : toAV (Al.look _ _) = some _).trans (congrArg some (by (rw [getA_pos hr k, if_neg (by rw [hh]; decide)]; rfl))), rfl⟩, trivial⟩
theorem getA_ok {l : List GA} (k : ByteArray) (h : ∀ a ∈ l, a.ok) : ((getA l k).getD zeroV).ok ∧ ((getA l k).getD zeroV).wt ≤ 1 + wtAs l := by
  cases hg : getA l k with
  | none => exact ⟨by simp only [Option.getD_none]; rw [GV.ok_iff]; exact ⟨by decide, by decide, by decide, by decide, fun x hx => absurd hx (by simp [zeroV, GV.list]), fun x hx => absurd hx (by simp [zeroV, GV.map])⟩, by simp only [Option.getD_none]; rw [GV.wt_eq]; simp [zeroV, GV.list, GV.map, GV.text, wtVs, wtAs]; exact Nat.zero_le _⟩
  | some v =>
    obtain ⟨a, ha, rfl, _⟩ := getA_mem hg
    have := xt ha
    have := a.wt_eq
    exact ⟨((GA.ok_iff a).1 (h a ha)).2, by simp only [Option.getD_some]; omega⟩
theorem textA_c (l : List GA) (k : ByteArray) (hr : risA none l) (hl : l.length ≤ 1000000000000) (ho : ∀ a ∈ l, a.ok) (hw : wtAs l ≤ 9000000) : zi Tryd.prog Γ0 53 [.sl 7 (l.map avA), sv k] [sv (textA l k)] := by
  refine zO Tryd.func53 rfl Tryd.ntmps53 (by kernel_rfl) rfl fun w0 I0 G0 => ?_
  refine zD <| zB <| g_u (zE rfl rfl) <| zG <| zA <| zD <| zB <| g_u (zC rfl rfl) <| g_u (zC rfl rfl) <| g_u (wA (get_c l k hr hl) rfl rfl) <| g_u (xN rfl rfl) <| g_u (zP rfl rfl rfl rfl) <| g_u (zP rfl rfl rfl rfl) <| g_uG (zg 1005 rfl rfl rfl tZ71) rfl <| g_u (zL rfl rfl rfl tS71 rfl rfl) <| g_u (zE rfl rfl) <| zG <| zA <| zD <| zB <| g_u (zn rfl rfl rfl tA71 tS71 rfl rfl) ?_
  refine g_u (zS (text_c _ (getA_ok k ho).1 (by have := (getA_ok k ho).2; omega)) rfl rfl) ?_
  refine g_u (zE rfl rfl) <| zG <| zA <| zM ?_
  exact ⟨⟨(rfl : toAV (Al.look _ _) = some _).trans (congrArg some (by rfl)), rfl⟩, trivial⟩
theorem service_c (r : GRes) (ho : ∀ a ∈ r.attrs, a.ok) (hw : wtAs r.attrs ≤ 9000000) (hr : risA none r.attrs) : zi Tryd.prog Γ0 29 [r.av] [sv (yO r)] := by
  have q1 := yj r.attrs
  refine zO Tryd.func29 rfl Tryd.ntmps29 (by kernel_rfl) rfl fun w0 I0 G0 => ?_
  refine zD <| zB <| g_uG (zd 1001 rfl rfl rfl rfl) rfl <| g_u (zE rfl rfl) <| zG <| zA <| zD <| zB <| g_u (zF rfl rfl fa61_0 rfl) <| g_u (zH rfl rfl rfl tA30 tS30 rfl rfl) ?_
  refine g_u (zS (textA_c r.attrs skey hr (by omega) ho hw) rfl rfl) ?_
  refine g_u (zE rfl rfl) <| zG <| zA <| zM ?_
  exact ⟨⟨(rfl : toAV (Al.look _ _) = some _).trans (congrArg some (by rfl)), rfl⟩, trivial⟩
end Go.Proofs
namespace Go.Proofs
open Go Go.Al
set_option maxRecDepth 10000
end Go.Proofs
namespace Go.Proofs
open Go Go.Al
set_option maxRecDepth 10000
end Go.Proofs
namespace Go.Proofs
open Go Go.Al
set_option maxRecDepth 10000
end Go.Proofs
namespace Go.Proofs
open Go Go.Al
set_option maxRecDepth 10000
theorem plainV_ok {v : GV} (ho : v.ok) (hw : v.wt ≤ 1000000) : (plainV v).ok := by
  rw [GV.ok_iff]
  have := textM_le v
  refine ⟨⟨by show (0 : Int) ≤ 1; decide, by show (1 : Int) < 256; decide⟩, ?_, ⟨by show (-9223372036854775808 : Int) ≤ 0; decide, by show (0 : Int) < 9223372036854775808; decide⟩, ⟨by show (0 : Int) ≤ 0; decide, by show (0 : Int) < 18446744073709551616; decide⟩, fun x hx => absurd hx (by simp [plainV, GV.list]), fun x hx => absurd hx (by simp [plainV, GV.map])⟩
  show (wx v).size ≤ maxLen
  unfold maxLen; omega
end Go.Proofs
namespace Go.Proofs
open Go Go.Al
set_option maxRecDepth 10000
end Go.Proofs
namespace Go.Proofs
open Go Go.Al
set_option maxRecDepth 10000
end Go.Proofs
namespace Go.Proofs
open Go Go.Al
set_option maxRecDepth 10000
end Go.Proofs
namespace Go.Proofs
open Go Go.Al
set_option maxRecDepth 10000
end Go.Proofs
namespace Go.Proofs
open Go Go.Al
end Go.Proofs
namespace Go.Proofs
open Go Go.Al
set_option maxRecDepth 10000
end Go.Proofs
namespace Go.Proofs
open Go Go.Al
set_option maxRecDepth 10000
attribute [local irreducible] runeM rRuneM
attribute [local irreducible] checkM countM cutM rCheckM rCountM rCutM
attribute [local irreducible] bytesM bytesP
end Go.Proofs
namespace Go.Proofs
open Go Go.Al
end Go.Proofs
namespace Go.Al
open Go.RowKit
theorem aw_cut' {C : Cx} {x y : Code} {st : St} {Q : Exit → St → Prop} {ι : Type} (Inv : ι → St) (ok : ι → Prop)
    (h1 : AW C x st (thn (fun st' => ∃ j, ok j ∧ sub st' (Inv j)) Q)) (h2 : ∀ j, ok j → AW C y (Inv j) Q) : AW C x st (thn (fun st' => AW C y st' Q) Q) := by
  refine h1.mono ?_
  intro e st' q
  cases e <;> simp only [thn] at q ⊢ <;> first | exact q | (obtain ⟨j, a, b⟩ := q; exact aw_weak _ b (h2 j a))
end Go.Al
namespace Go.Proofs
open Go Go.Al
set_option maxRecDepth 10000
end Go.Proofs
