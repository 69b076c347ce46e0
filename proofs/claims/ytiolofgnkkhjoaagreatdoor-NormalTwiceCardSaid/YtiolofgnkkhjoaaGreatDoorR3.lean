/- Texts that the proofs of this claim share, part 3: the abstract logic, plain Lean on values and batches, and walks. No condition but those typed in each lemma. -/
import Derived.Test.YtiolofgnkkhjoaaGreatDoorProg
import Derived.KernelRfl
import Derived.ReadAgain
import Derived.ChangeOld
import Derived.ChangeShapes
import Derived.SizedLaws
import Derived.LaidHandle
import Derived.Test.YtiolofgnkkhjoaaGreatDoorR2
set_option linter.unusedSimpArgs false
set_option linter.unusedVariables false
set_option maxHeartbeats 400000
namespace Go.Proofs
open Go Go.Al
set_option maxRecDepth 10000
theorem xR : Tryz.prog.follows .mixedOrders = true := by kernel_rfl
def Γ0 : List (Nat × AV) := [(1, .arr 8 [56, 48, 40, 32, 24, 16, 8, 0])]
def z1 : AV := .v .nilFunc
def z2 : AV := .v (.int .i64 0)
theorem tA3 : xd Tryz.prog 3 = some false := by kernel_rfl
theorem tS3 : yJ Tryz.prog 3 = some 1 := by kernel_rfl
def z3 : AV := .v (.int .i64 0)
theorem zv3 : wS Tryz.prog 3 = some (.int .i64 0) := by kernel_rfl
def z4 : AV := .v (.bool false)
theorem tA5 : xd Tryz.prog 5 = some false := by kernel_rfl
theorem tS5 : yJ Tryz.prog 5 = some 1 := by kernel_rfl
def z5 : AV := .v (.int .u8 0)
theorem zv5 : wS Tryz.prog 5 = some (.int .u8 0) := by kernel_rfl
theorem by5 : (Tryz.prog.info? 5).map (·.bytes) = some 1 := by kernel_rfl
theorem tZ5 : yu Tryz.prog 5 z5 := ⟨.int .u8 0, by kernel_rfl, by kernel_rfl⟩
theorem tA9 : xd Tryz.prog 9 = some false := by kernel_rfl
theorem tS9 : yJ Tryz.prog 9 = some 1 := by kernel_rfl
def z9 : AV := .v (.string .empty)
theorem zv9 : wS Tryz.prog 9 = some (.string .empty) := by kernel_rfl
theorem by9 : (Tryz.prog.info? 9).map (·.bytes) = some 16 := by kernel_rfl
theorem tZ9 : yu Tryz.prog 9 z9 := ⟨.string .empty, by kernel_rfl, by kernel_rfl⟩
theorem tA22 : xd Tryz.prog 22 = some false := by kernel_rfl
theorem tS22 : yJ Tryz.prog 22 = some 1 := by kernel_rfl
theorem tA24 : xd Tryz.prog 24 = some true := by kernel_rfl
theorem tS24 : yJ Tryz.prog 24 = some 1 := by kernel_rfl
def z24 : AV := .agg [.v (.slice none 0 0)]
theorem tZ24 : yu Tryz.prog 24 z24 := ⟨.agg #[.slice none 0 0], by kernel_rfl, by kernel_rfl⟩
def zs24 : AV := .agg [.sl 2 []]
theorem tU24 : yu Tryz.prog 24 zs24 := ⟨.agg #[.slice none 0 0], by kernel_rfl, by kernel_rfl⟩
theorem uC : fieldAt Tryz.prog 24 0 0 1 false := ⟨_, _, Tryz.underlying24, rfl, rfl, tS22, tA22⟩
theorem pl24 : wA Tryz.prog (Program.fieldsOf Tryz.prog 24).toList = some [(0, 1)] := by kernel_rfl
theorem us24 : Tryz.prog.underlying 24 = some (.struct (Program.fieldsOf Tryz.prog 24)) := by kernel_rfl
theorem tA26 : xd Tryz.prog 26 = some false := by kernel_rfl
theorem tS26 : yJ Tryz.prog 26 = some 1 := by kernel_rfl
theorem tA29 : xd Tryz.prog 29 = some true := by kernel_rfl
theorem tS29 : yJ Tryz.prog 29 = some 2 := by kernel_rfl
def z29 : AV := .agg [.v (.int .i64 0), .v (.slice none 0 0)]
theorem tZ29 : yu Tryz.prog 29 z29 := ⟨.agg #[.int .i64 0, .slice none 0 0], by kernel_rfl, by kernel_rfl⟩
def zs29 : AV := .agg [.v (.int .i64 0), .sl 1 []]
theorem tU29 : yu Tryz.prog 29 zs29 := ⟨.agg #[.int .i64 0, .slice none 0 0], by kernel_rfl, by kernel_rfl⟩
theorem fa29_0 : fieldAt Tryz.prog 29 0 0 1 false := ⟨_, _, Tryz.underlying29, rfl, rfl, tS26, tA26⟩
theorem pl29 : wA Tryz.prog (Program.fieldsOf Tryz.prog 29).toList = some [(0, 1), (1, 1)] := by kernel_rfl
theorem us29 : Tryz.prog.underlying 29 = some (.struct (Program.fieldsOf Tryz.prog 29)) := by kernel_rfl
theorem tA42 : xd Tryz.prog 42 = some false := by kernel_rfl
theorem tS42 : yJ Tryz.prog 42 = some 1 := by kernel_rfl
def z42 : AV := .v (.slice none 0 0)
theorem tZ42 : yu Tryz.prog 42 z42 := ⟨.slice none 0 0, by kernel_rfl, by kernel_rfl⟩
theorem tA44 : xd Tryz.prog 44 = some false := by kernel_rfl
theorem tS44 : yJ Tryz.prog 44 = some 1 := by kernel_rfl
theorem tA45 : xd Tryz.prog 45 = some false := by kernel_rfl
theorem tS45 : yJ Tryz.prog 45 = some 1 := by kernel_rfl
theorem tA47 : xd Tryz.prog 47 = some true := by kernel_rfl
theorem tS47 : yJ Tryz.prog 47 = some 2 := by kernel_rfl
def z47 : AV := .agg [.v (.slice none 0 0), .v (.slice none 0 0)]
theorem zv47 : wS Tryz.prog 47 = some (.agg #[.slice none 0 0, .slice none 0 0]) := by kernel_rfl
theorem by47 : (Tryz.prog.info? 47).map (·.bytes) = some 48 := by kernel_rfl
theorem tZ47 : yu Tryz.prog 47 z47 := ⟨.agg #[.slice none 0 0, .slice none 0 0], by kernel_rfl, by kernel_rfl⟩
def zs47 : AV := .agg [.sl 7 [], .sl 3 []]
theorem tU47 : yu Tryz.prog 47 zs47 := ⟨.agg #[.slice none 0 0, .slice none 0 0], by kernel_rfl, by kernel_rfl⟩
theorem fa47_0 : fieldAt Tryz.prog 47 0 0 1 false := ⟨_, _, Tryz.underlying47, rfl, rfl, tS44, tA44⟩
theorem wj : fieldAt Tryz.prog 47 1 1 1 false := ⟨_, _, Tryz.underlying47, rfl, rfl, tS45, tA45⟩
theorem pl47 : wA Tryz.prog (Program.fieldsOf Tryz.prog 47).toList = some [(0, 1), (1, 1)] := by kernel_rfl
theorem us47 : Tryz.prog.underlying 47 = some (.struct (Program.fieldsOf Tryz.prog 47)) := by kernel_rfl
theorem tA49 : xd Tryz.prog 49 = some false := by kernel_rfl
theorem tS49 : yJ Tryz.prog 49 = some 1 := by kernel_rfl
theorem tA51 : xd Tryz.prog 51 = some true := by kernel_rfl
theorem tS51 : yJ Tryz.prog 51 = some 3 := by kernel_rfl
def z51 : AV := .agg [.v (.string .empty), .v (.string .empty), .v (.slice none 0 0)]
theorem tZ51 : yu Tryz.prog 51 z51 := ⟨.agg #[.string .empty, .string .empty, .slice none 0 0], by kernel_rfl, by kernel_rfl⟩
def zs51 : AV := .agg [.v (.string .empty), .v (.string .empty), .sl 42 []]
theorem tU51 : yu Tryz.prog 51 zs51 := ⟨.agg #[.string .empty, .string .empty, .slice none 0 0], by kernel_rfl, by kernel_rfl⟩
theorem fa51_0 : fieldAt Tryz.prog 51 0 0 1 false := ⟨_, _, Tryz.underlying51, rfl, rfl, tS9, tA9⟩
theorem fa51_1 : fieldAt Tryz.prog 51 1 1 1 false := ⟨_, _, Tryz.underlying51, rfl, rfl, tS9, tA9⟩
theorem uM : fieldAt Tryz.prog 51 2 2 1 false := ⟨_, _, Tryz.underlying51, rfl, rfl, tS49, tA49⟩
theorem pl51 : wA Tryz.prog (Program.fieldsOf Tryz.prog 51).toList = some [(0, 1), (1, 1), (2, 1)] := by kernel_rfl
theorem us51 : Tryz.prog.underlying 51 = some (.struct (Program.fieldsOf Tryz.prog 51)) := by kernel_rfl
theorem tA54 : xd Tryz.prog 54 = some true := by kernel_rfl
theorem tS54 : yJ Tryz.prog 54 = some 16 := by kernel_rfl
theorem eg54 : Tryz.prog.eqGuardType Tryz.prog.depth 54 = false := by kernel_rfl
theorem tA56 : xd Tryz.prog 56 = some true := by kernel_rfl
theorem tS56 : yJ Tryz.prog 56 = some 8 := by kernel_rfl
theorem eg56 : Tryz.prog.eqGuardType Tryz.prog.depth 56 = false := by kernel_rfl
theorem tA57 : xd Tryz.prog 57 = some false := by kernel_rfl
theorem tS57 : yJ Tryz.prog 57 = some 1 := by kernel_rfl
theorem tA58 : xd Tryz.prog 58 = some false := by kernel_rfl
theorem tS58 : yJ Tryz.prog 58 = some 1 := by kernel_rfl
theorem tA59 : xd Tryz.prog 59 = some false := by kernel_rfl
theorem tS59 : yJ Tryz.prog 59 = some 1 := by kernel_rfl
theorem tA61 : xd Tryz.prog 61 = some true := by kernel_rfl
theorem tS61 : yJ Tryz.prog 61 = some 2 := by kernel_rfl
def z61 : AV := .agg [.v (.int .i64 0), .v (.string .empty)]
theorem tZ61 : yu Tryz.prog 61 z61 := ⟨.agg #[.int .i64 0, .string .empty], by kernel_rfl, by kernel_rfl⟩
theorem fa61_0 : fieldAt Tryz.prog 61 0 0 1 false := ⟨_, _, Tryz.underlying61, rfl, rfl, tS3, tA3⟩
theorem fa61_1 : fieldAt Tryz.prog 61 1 1 1 false := ⟨_, _, Tryz.underlying61, rfl, rfl, tS9, tA9⟩
theorem us61 : Tryz.prog.underlying 61 = some (.struct (Program.fieldsOf Tryz.prog 61)) := by kernel_rfl
theorem eg61 : Tryz.prog.eqGuardType Tryz.prog.depth 61 = false := by kernel_rfl
theorem tA63 : xd Tryz.prog 63 = some true := by kernel_rfl
theorem tS63 : yJ Tryz.prog 63 = some 42 := by kernel_rfl
def z63 : AV := .agg [.arr 16 (List.replicate 16 0), .arr 8 (List.replicate 8 0), .arr 8 (List.replicate 8 0), .v (.string .empty), .v (.string .empty), .v (.int .i64 0), .v (.int .u64 0), .v (.int .u64 0), .v (.slice none 0 0), .v (.slice none 0 0), .v (.slice none 0 0), .agg [.v (.int .i64 0), .v (.string .empty)]]
theorem zv63 : wS Tryz.prog 63 = some (.agg #[.int .u8 0, .int .u8 0, .int .u8 0, .int .u8 0, .int .u8 0, .int .u8 0, .int .u8 0, .int .u8 0, .int .u8 0, .int .u8 0, .int .u8 0, .int .u8 0, .int .u8 0, .int .u8 0, .int .u8 0, .int .u8 0, .int .u8 0, .int .u8 0, .int .u8 0, .int .u8 0, .int .u8 0, .int .u8 0, .int .u8 0, .int .u8 0, .int .u8 0, .int .u8 0, .int .u8 0, .int .u8 0, .int .u8 0, .int .u8 0, .int .u8 0, .int .u8 0, .string .empty, .string .empty, .int .i64 0, .int .u64 0, .int .u64 0, .slice none 0 0, .slice none 0 0, .slice none 0 0, .int .i64 0, .string .empty]) := by kernel_rfl
theorem by63 : (Tryz.prog.info? 63).map (·.bytes) = some 184 := by kernel_rfl
theorem tZ63 : yu Tryz.prog 63 z63 := ⟨.agg #[.int .u8 0, .int .u8 0, .int .u8 0, .int .u8 0, .int .u8 0, .int .u8 0, .int .u8 0, .int .u8 0, .int .u8 0, .int .u8 0, .int .u8 0, .int .u8 0, .int .u8 0, .int .u8 0, .int .u8 0, .int .u8 0, .int .u8 0, .int .u8 0, .int .u8 0, .int .u8 0, .int .u8 0, .int .u8 0, .int .u8 0, .int .u8 0, .int .u8 0, .int .u8 0, .int .u8 0, .int .u8 0, .int .u8 0, .int .u8 0, .int .u8 0, .int .u8 0, .string .empty, .string .empty, .int .i64 0, .int .u64 0, .int .u64 0, .slice none 0 0, .slice none 0 0, .slice none 0 0, .int .i64 0, .string .empty], by kernel_rfl, by kernel_rfl⟩
def zs63 : AV := .agg [.arr 16 (List.replicate 16 0), .arr 8 (List.replicate 8 0), .arr 8 (List.replicate 8 0), .v (.string .empty), .v (.string .empty), .v (.int .i64 0), .v (.int .u64 0), .v (.int .u64 0), .sl 7 [], .sl 3 [], .sl 26 [], .agg [.v (.int .i64 0), .v (.string .empty)]]
theorem tU63 : yu Tryz.prog 63 zs63 := ⟨.agg #[.int .u8 0, .int .u8 0, .int .u8 0, .int .u8 0, .int .u8 0, .int .u8 0, .int .u8 0, .int .u8 0, .int .u8 0, .int .u8 0, .int .u8 0, .int .u8 0, .int .u8 0, .int .u8 0, .int .u8 0, .int .u8 0, .int .u8 0, .int .u8 0, .int .u8 0, .int .u8 0, .int .u8 0, .int .u8 0, .int .u8 0, .int .u8 0, .int .u8 0, .int .u8 0, .int .u8 0, .int .u8 0, .int .u8 0, .int .u8 0, .int .u8 0, .int .u8 0, .string .empty, .string .empty, .int .i64 0, .int .u64 0, .int .u64 0, .slice none 0 0, .slice none 0 0, .slice none 0 0, .int .i64 0, .string .empty], by kernel_rfl, by kernel_rfl⟩
theorem fa63_0 : fieldAt Tryz.prog 63 0 0 16 true := ⟨_, _, Tryz.underlying63, rfl, rfl, tS54, tA54⟩
theorem fa63_1 : fieldAt Tryz.prog 63 1 16 8 true := ⟨_, _, Tryz.underlying63, rfl, rfl, tS56, tA56⟩
theorem fa63_2 : fieldAt Tryz.prog 63 2 24 8 true := ⟨_, _, Tryz.underlying63, rfl, rfl, tS56, tA56⟩
theorem fa63_3 : fieldAt Tryz.prog 63 3 32 1 false := ⟨_, _, Tryz.underlying63, rfl, rfl, tS9, tA9⟩
theorem fa63_4 : fieldAt Tryz.prog 63 4 33 1 false := ⟨_, _, Tryz.underlying63, rfl, rfl, tS9, tA9⟩
theorem fa63_5 : fieldAt Tryz.prog 63 5 34 1 false := ⟨_, _, Tryz.underlying63, rfl, rfl, tS3, tA3⟩
theorem fa63_6 : fieldAt Tryz.prog 63 6 35 1 false := ⟨_, _, Tryz.underlying63, rfl, rfl, tS57, tA57⟩
theorem fa63_7 : fieldAt Tryz.prog 63 7 36 1 false := ⟨_, _, Tryz.underlying63, rfl, rfl, tS57, tA57⟩
theorem si : fieldAt Tryz.prog 63 8 37 1 false := ⟨_, _, Tryz.underlying63, rfl, rfl, tS44, tA44⟩
theorem vN : fieldAt Tryz.prog 63 9 38 1 false := ⟨_, _, Tryz.underlying63, rfl, rfl, tS58, tA58⟩
theorem wK : fieldAt Tryz.prog 63 10 39 1 false := ⟨_, _, Tryz.underlying63, rfl, rfl, tS59, tA59⟩
theorem tf : fieldAt Tryz.prog 63 11 40 2 true := ⟨_, _, Tryz.underlying63, rfl, rfl, tS61, tA61⟩
theorem pl63 : wA Tryz.prog (Program.fieldsOf Tryz.prog 63).toList = some [(0, 16), (16, 8), (24, 8), (32, 1), (33, 1), (34, 1), (35, 1), (36, 1), (37, 1), (38, 1), (39, 1), (40, 2)] := by kernel_rfl
theorem us63 : Tryz.prog.underlying 63 = some (.struct (Program.fieldsOf Tryz.prog 63)) := by kernel_rfl
theorem tA68 : xd Tryz.prog 68 = some false := by kernel_rfl
theorem tS68 : yJ Tryz.prog 68 = some 1 := by kernel_rfl
theorem tA70 : xd Tryz.prog 70 = some true := by kernel_rfl
theorem tS70 : yJ Tryz.prog 70 = some 6 := by kernel_rfl
def z70 : AV := .agg [.v (.int .u8 0), .v (.string .empty), .v (.int .i64 0), .v (.int .u64 0), .v (.slice none 0 0), .v (.slice none 0 0)]
theorem tZ70 : yu Tryz.prog 70 z70 := ⟨.agg #[.int .u8 0, .string .empty, .int .i64 0, .int .u64 0, .slice none 0 0, .slice none 0 0], by kernel_rfl, by kernel_rfl⟩
def zs70 : AV := .agg [.v (.int .u8 0), .v (.string .empty), .v (.int .i64 0), .v (.int .u64 0), .sl 6 [], .sl 7 []]
theorem tU70 : yu Tryz.prog 70 zs70 := ⟨.agg #[.int .u8 0, .string .empty, .int .i64 0, .int .u64 0, .slice none 0 0, .slice none 0 0], by kernel_rfl, by kernel_rfl⟩
theorem xI : fieldAt Tryz.prog 70 0 0 1 false := ⟨_, _, Tryz.underlying70, rfl, rfl, tS5, tA5⟩
theorem sc : fieldAt Tryz.prog 70 1 1 1 false := ⟨_, _, Tryz.underlying70, rfl, rfl, tS9, tA9⟩
theorem rP : fieldAt Tryz.prog 70 2 2 1 false := ⟨_, _, Tryz.underlying70, rfl, rfl, tS3, tA3⟩
theorem fa70_3 : fieldAt Tryz.prog 70 3 3 1 false := ⟨_, _, Tryz.underlying70, rfl, rfl, tS57, tA57⟩
theorem rR : fieldAt Tryz.prog 70 4 4 1 false := ⟨_, _, Tryz.underlying70, rfl, rfl, tS68, tA68⟩
theorem rO : fieldAt Tryz.prog 70 5 5 1 false := ⟨_, _, Tryz.underlying70, rfl, rfl, tS44, tA44⟩
theorem pl70 : wA Tryz.prog (Program.fieldsOf Tryz.prog 70).toList = some [(0, 1), (1, 1), (2, 1), (3, 1), (4, 1), (5, 1)] := by kernel_rfl
theorem us70 : Tryz.prog.underlying 70 = some (.struct (Program.fieldsOf Tryz.prog 70)) := by kernel_rfl
theorem tA72 : xd Tryz.prog 72 = some true := by kernel_rfl
theorem tS72 : yJ Tryz.prog 72 = some 7 := by kernel_rfl
def z72 : AV := .agg [.v (.string .empty), .agg [.v (.int .u8 0), .v (.string .empty), .v (.int .i64 0), .v (.int .u64 0), .v (.slice none 0 0), .v (.slice none 0 0)]]
theorem zv72 : wS Tryz.prog 72 = some (.agg #[.string .empty, .int .u8 0, .string .empty, .int .i64 0, .int .u64 0, .slice none 0 0, .slice none 0 0]) := by kernel_rfl
theorem by72 : (Tryz.prog.info? 72).map (·.bytes) = some 104 := by kernel_rfl
theorem tZ72 : yu Tryz.prog 72 z72 := ⟨.agg #[.string .empty, .int .u8 0, .string .empty, .int .i64 0, .int .u64 0, .slice none 0 0, .slice none 0 0], by kernel_rfl, by kernel_rfl⟩
def zs72 : AV := .agg [.v (.string .empty), .agg [.v (.int .u8 0), .v (.string .empty), .v (.int .i64 0), .v (.int .u64 0), .sl 6 [], .sl 7 []]]
theorem tU72 : yu Tryz.prog 72 zs72 := ⟨.agg #[.string .empty, .int .u8 0, .string .empty, .int .i64 0, .int .u64 0, .slice none 0 0, .slice none 0 0], by kernel_rfl, by kernel_rfl⟩
theorem uq : fieldAt Tryz.prog 72 0 0 1 false := ⟨_, _, Tryz.underlying72, rfl, rfl, tS9, tA9⟩
theorem ul : fieldAt Tryz.prog 72 1 1 6 true := ⟨_, _, Tryz.underlying72, rfl, rfl, tS70, tA70⟩
theorem pl72 : wA Tryz.prog (Program.fieldsOf Tryz.prog 72).toList = some [(0, 1), (1, 6)] := by kernel_rfl
theorem us72 : Tryz.prog.underlying 72 = some (.struct (Program.fieldsOf Tryz.prog 72)) := by kernel_rfl
theorem tA82 : xd Tryz.prog 82 = some true := by kernel_rfl
theorem tS82 : yJ Tryz.prog 82 = some 35 := by kernel_rfl
def z82 : AV := .agg [.arr 16 (List.replicate 16 0), .arr 8 (List.replicate 8 0), .arr 8 (List.replicate 8 0), .v (.string .empty), .v (.int .i64 0), .v (.int .i64 0)]
theorem zv82 : wS Tryz.prog 82 = some (.agg #[.int .u8 0, .int .u8 0, .int .u8 0, .int .u8 0, .int .u8 0, .int .u8 0, .int .u8 0, .int .u8 0, .int .u8 0, .int .u8 0, .int .u8 0, .int .u8 0, .int .u8 0, .int .u8 0, .int .u8 0, .int .u8 0, .int .u8 0, .int .u8 0, .int .u8 0, .int .u8 0, .int .u8 0, .int .u8 0, .int .u8 0, .int .u8 0, .int .u8 0, .int .u8 0, .int .u8 0, .int .u8 0, .int .u8 0, .int .u8 0, .int .u8 0, .int .u8 0, .string .empty, .int .i64 0, .int .i64 0]) := by kernel_rfl
theorem by82 : (Tryz.prog.info? 82).map (·.bytes) = some 64 := by kernel_rfl
theorem tZ82 : yu Tryz.prog 82 z82 := ⟨.agg #[.int .u8 0, .int .u8 0, .int .u8 0, .int .u8 0, .int .u8 0, .int .u8 0, .int .u8 0, .int .u8 0, .int .u8 0, .int .u8 0, .int .u8 0, .int .u8 0, .int .u8 0, .int .u8 0, .int .u8 0, .int .u8 0, .int .u8 0, .int .u8 0, .int .u8 0, .int .u8 0, .int .u8 0, .int .u8 0, .int .u8 0, .int .u8 0, .int .u8 0, .int .u8 0, .int .u8 0, .int .u8 0, .int .u8 0, .int .u8 0, .int .u8 0, .int .u8 0, .string .empty, .int .i64 0, .int .i64 0], by kernel_rfl, by kernel_rfl⟩
def zs82 : AV := .agg [.arr 16 (List.replicate 16 0), .arr 8 (List.replicate 8 0), .arr 8 (List.replicate 8 0), .v (.string .empty), .v (.int .i64 0), .v (.int .i64 0)]
theorem tU82 : yu Tryz.prog 82 zs82 := ⟨.agg #[.int .u8 0, .int .u8 0, .int .u8 0, .int .u8 0, .int .u8 0, .int .u8 0, .int .u8 0, .int .u8 0, .int .u8 0, .int .u8 0, .int .u8 0, .int .u8 0, .int .u8 0, .int .u8 0, .int .u8 0, .int .u8 0, .int .u8 0, .int .u8 0, .int .u8 0, .int .u8 0, .int .u8 0, .int .u8 0, .int .u8 0, .int .u8 0, .int .u8 0, .int .u8 0, .int .u8 0, .int .u8 0, .int .u8 0, .int .u8 0, .int .u8 0, .int .u8 0, .string .empty, .int .i64 0, .int .i64 0], by kernel_rfl, by kernel_rfl⟩
theorem pl82 : wA Tryz.prog (Program.fieldsOf Tryz.prog 82).toList = some [(0, 16), (16, 8), (24, 8), (32, 1), (33, 1), (34, 1)] := by kernel_rfl
theorem us82 : Tryz.prog.underlying 82 = some (.struct (Program.fieldsOf Tryz.prog 82)) := by kernel_rfl
theorem eg82 : Tryz.prog.eqGuardType Tryz.prog.depth 82 = false := by kernel_rfl
theorem tA92 : xd Tryz.prog 92 = some true := by kernel_rfl
theorem tS92 : yJ Tryz.prog 92 = some 3 := by kernel_rfl
def z92 : AV := .agg [.v (.int .u64 0), .v (.string .empty), .v (.slice none 0 0)]
theorem zv92 : wS Tryz.prog 92 = some (.agg #[.int .u64 0, .string .empty, .slice none 0 0]) := by kernel_rfl
theorem by92 : (Tryz.prog.info? 92).map (·.bytes) = some 48 := by kernel_rfl
theorem tZ92 : yu Tryz.prog 92 z92 := ⟨.agg #[.int .u64 0, .string .empty, .slice none 0 0], by kernel_rfl, by kernel_rfl⟩
def zs92 : AV := .agg [.v (.int .u64 0), .v (.string .empty), .sl 7 []]
theorem tU92 : yu Tryz.prog 92 zs92 := ⟨.agg #[.int .u64 0, .string .empty, .slice none 0 0], by kernel_rfl, by kernel_rfl⟩
theorem fa92_0 : fieldAt Tryz.prog 92 0 0 1 false := ⟨_, _, Tryz.underlying92, rfl, rfl, tS57, tA57⟩
theorem jK : fieldAt Tryz.prog 92 1 1 1 false := ⟨_, _, Tryz.underlying92, rfl, rfl, tS9, tA9⟩
theorem fa92_2 : fieldAt Tryz.prog 92 2 2 1 false := ⟨_, _, Tryz.underlying92, rfl, rfl, tS44, tA44⟩
theorem pl92 : wA Tryz.prog (Program.fieldsOf Tryz.prog 92).toList = some [(0, 1), (1, 1), (2, 1)] := by kernel_rfl
theorem us92 : Tryz.prog.underlying 92 = some (.struct (Program.fieldsOf Tryz.prog 92)) := by kernel_rfl
theorem tA94 : xd Tryz.prog 94 = some true := by kernel_rfl
theorem tS94 : yJ Tryz.prog 94 = some 26 := by kernel_rfl
def z94 : AV := .agg [.arr 16 (List.replicate 16 0), .arr 8 (List.replicate 8 0), .v (.string .empty), .v (.slice none 0 0)]
theorem zv94 : wS Tryz.prog 94 = some (.agg #[.int .u8 0, .int .u8 0, .int .u8 0, .int .u8 0, .int .u8 0, .int .u8 0, .int .u8 0, .int .u8 0, .int .u8 0, .int .u8 0, .int .u8 0, .int .u8 0, .int .u8 0, .int .u8 0, .int .u8 0, .int .u8 0, .int .u8 0, .int .u8 0, .int .u8 0, .int .u8 0, .int .u8 0, .int .u8 0, .int .u8 0, .int .u8 0, .string .empty, .slice none 0 0]) := by kernel_rfl
theorem by94 : (Tryz.prog.info? 94).map (·.bytes) = some 64 := by kernel_rfl
theorem tZ94 : yu Tryz.prog 94 z94 := ⟨.agg #[.int .u8 0, .int .u8 0, .int .u8 0, .int .u8 0, .int .u8 0, .int .u8 0, .int .u8 0, .int .u8 0, .int .u8 0, .int .u8 0, .int .u8 0, .int .u8 0, .int .u8 0, .int .u8 0, .int .u8 0, .int .u8 0, .int .u8 0, .int .u8 0, .int .u8 0, .int .u8 0, .int .u8 0, .int .u8 0, .int .u8 0, .int .u8 0, .string .empty, .slice none 0 0], by kernel_rfl, by kernel_rfl⟩
def zs94 : AV := .agg [.arr 16 (List.replicate 16 0), .arr 8 (List.replicate 8 0), .v (.string .empty), .sl 7 []]
theorem tU94 : yu Tryz.prog 94 zs94 := ⟨.agg #[.int .u8 0, .int .u8 0, .int .u8 0, .int .u8 0, .int .u8 0, .int .u8 0, .int .u8 0, .int .u8 0, .int .u8 0, .int .u8 0, .int .u8 0, .int .u8 0, .int .u8 0, .int .u8 0, .int .u8 0, .int .u8 0, .int .u8 0, .int .u8 0, .int .u8 0, .int .u8 0, .int .u8 0, .int .u8 0, .int .u8 0, .int .u8 0, .string .empty, .slice none 0 0], by kernel_rfl, by kernel_rfl⟩
theorem fa94_0 : fieldAt Tryz.prog 94 0 0 16 true := ⟨_, _, Tryz.underlying94, rfl, rfl, tS54, tA54⟩
theorem fa94_1 : fieldAt Tryz.prog 94 1 16 8 true := ⟨_, _, Tryz.underlying94, rfl, rfl, tS56, tA56⟩
theorem fa94_2 : fieldAt Tryz.prog 94 2 24 1 false := ⟨_, _, Tryz.underlying94, rfl, rfl, tS9, tA9⟩
theorem fa94_3 : fieldAt Tryz.prog 94 3 25 1 false := ⟨_, _, Tryz.underlying94, rfl, rfl, tS44, tA44⟩
theorem pl94 : wA Tryz.prog (Program.fieldsOf Tryz.prog 94).toList = some [(0, 16), (16, 8), (24, 1), (25, 1)] := by kernel_rfl
theorem us94 : Tryz.prog.underlying 94 = some (.struct (Program.fieldsOf Tryz.prog 94)) := by kernel_rfl
theorem tA98 : xd Tryz.prog 98 = some true := by kernel_rfl
theorem tS98 : yJ Tryz.prog 98 = some 3 := by kernel_rfl
def z98 : AV := .agg [.v (.int .i64 0), .v (.int .i64 0), .v (.int .i64 0)]
theorem zv98 : wS Tryz.prog 98 = some (.agg #[.int .i64 0, .int .i64 0, .int .i64 0]) := by kernel_rfl
theorem by98 : (Tryz.prog.info? 98).map (·.bytes) = some 24 := by kernel_rfl
theorem tZ98 : yu Tryz.prog 98 z98 := ⟨.agg #[.int .i64 0, .int .i64 0, .int .i64 0], by kernel_rfl, by kernel_rfl⟩
def zs98 : AV := .agg [.v (.int .i64 0), .v (.int .i64 0), .v (.int .i64 0)]
theorem tU98 : yu Tryz.prog 98 zs98 := ⟨.agg #[.int .i64 0, .int .i64 0, .int .i64 0], by kernel_rfl, by kernel_rfl⟩
theorem fa98_0 : fieldAt Tryz.prog 98 0 0 1 false := ⟨_, _, Tryz.underlying98, rfl, rfl, tS3, tA3⟩
theorem fa98_1 : fieldAt Tryz.prog 98 1 1 1 false := ⟨_, _, Tryz.underlying98, rfl, rfl, tS3, tA3⟩
theorem fa98_2 : fieldAt Tryz.prog 98 2 2 1 false := ⟨_, _, Tryz.underlying98, rfl, rfl, tS3, tA3⟩
theorem pl98 : wA Tryz.prog (Program.fieldsOf Tryz.prog 98).toList = some [(0, 1), (1, 1), (2, 1)] := by kernel_rfl
theorem us98 : Tryz.prog.underlying 98 = some (.struct (Program.fieldsOf Tryz.prog 98)) := by kernel_rfl
theorem tA100 : xd Tryz.prog 100 = some false := by kernel_rfl
theorem tS100 : yJ Tryz.prog 100 = some 1 := by kernel_rfl
def z102 : AV := .agg [.v (.map none), .v (.slice none 0 0)]
theorem tZ102 : yu Tryz.prog 102 z102 := ⟨.agg #[.map none, .slice none 0 0], by kernel_rfl, by kernel_rfl⟩
theorem fa102_0 : fieldAt Tryz.prog 102 0 0 1 false := ⟨_, _, Tryz.underlying102, rfl, rfl, tS100, tA100⟩
theorem fa102_1 : fieldAt Tryz.prog 102 1 1 1 false := ⟨_, _, Tryz.underlying102, rfl, rfl, tS22, tA22⟩
theorem pl102 : wA Tryz.prog (Program.fieldsOf Tryz.prog 102).toList = some [(0, 1), (1, 1)] := by kernel_rfl
theorem us102 : Tryz.prog.underlying 102 = some (.struct (Program.fieldsOf Tryz.prog 102)) := by kernel_rfl
theorem tA105 : xd Tryz.prog 105 = some true := by kernel_rfl
theorem tX : yJ Tryz.prog 105 = some 2 := by kernel_rfl
def z105 : AV := .agg [.v (.int .u64 0), .v (.int .u64 0)]
theorem tZ105 : yu Tryz.prog 105 z105 := ⟨.agg #[.int .u64 0, .int .u64 0], by kernel_rfl, by kernel_rfl⟩
def zs105 : AV := .agg [.v (.int .u64 0), .v (.int .u64 0)]
theorem tU105 : yu Tryz.prog 105 zs105 := ⟨.agg #[.int .u64 0, .int .u64 0], by kernel_rfl, by kernel_rfl⟩
theorem fa105_0 : fieldAt Tryz.prog 105 0 0 1 false := ⟨_, _, Tryz.underlying105, rfl, rfl, tS57, tA57⟩
theorem fa105_1 : fieldAt Tryz.prog 105 1 1 1 false := ⟨_, _, Tryz.underlying105, rfl, rfl, tS57, tA57⟩
theorem pl105 : wA Tryz.prog (Program.fieldsOf Tryz.prog 105).toList = some [(0, 1), (1, 1)] := by kernel_rfl
theorem us105 : Tryz.prog.underlying 105 = some (.struct (Program.fieldsOf Tryz.prog 105)) := by kernel_rfl
def z163 : AV := .v (.string .empty)
theorem zv163 : wS Tryz.prog 163 = some (.string .empty) := by kernel_rfl
theorem tZ163 : yu Tryz.prog 163 z163 := ⟨.string .empty, by kernel_rfl, by kernel_rfl⟩
theorem nI163 : sG Tryz.prog 163 := ⟨_, Tryz.underlying163, rfl⟩
def z164 : AV := .v (.string .empty)
theorem zv164 : wS Tryz.prog 164 = some (.string .empty) := by kernel_rfl
theorem tZ164 : yu Tryz.prog 164 z164 := ⟨.string .empty, by kernel_rfl, by kernel_rfl⟩
theorem nI164 : sG Tryz.prog 164 := ⟨_, Tryz.underlying164, rfl⟩
def z182 : AV := .v (.slice none 0 0)
theorem zv182 : wS Tryz.prog 182 = some (.slice none 0 0) := by kernel_rfl
theorem tZ182 : yu Tryz.prog 182 z182 := ⟨.slice none 0 0, by kernel_rfl, by kernel_rfl⟩
theorem nI182 : sG Tryz.prog 182 := ⟨_, Tryz.underlying182, rfl⟩
theorem nI183 : sG Tryz.prog 183 := ⟨_, Tryz.underlying183, rfl⟩
def z198 : AV := .arr 20 (List.replicate 20 0)
theorem tZ198 : yu Tryz.prog 198 z198 := ⟨.agg #[.int .u8 0, .int .u8 0, .int .u8 0, .int .u8 0, .int .u8 0, .int .u8 0, .int .u8 0, .int .u8 0, .int .u8 0, .int .u8 0, .int .u8 0, .int .u8 0, .int .u8 0, .int .u8 0, .int .u8 0, .int .u8 0, .int .u8 0, .int .u8 0, .int .u8 0, .int .u8 0], by kernel_rfl, by kernel_rfl⟩
end Go.Proofs
namespace Go.Al
open Go.RowKit
def AVT (P : Program) : Nat → TypeId → AV → Prop
  | 0, _, _ => False
  | f + 1, T, X =>
    match P.underlying T with
    | some .bool => ∃ b, X = .v (.bool b)
    | some (.int k) => ∃ n, X = .v (.int k n) ∧ (Lit.int k n).wf = true
    | some .string => ∃ s : ByteArray, X = .v (.string s) ∧ s.size ≤ maxLen
    | some (.slice e) => ∃ l, X = .sl (P.cellsOf e) l ∧ ∀ x ∈ l, AVT P f e x
    | some (.struct fs) => ∃ l, X = .agg l ∧ l.length = fs.toList.length ∧ ∀ (j : Nat) fl x, fs.toList[j]? = some fl → l[j]? = some x → AVT P f fl.type x
    | some (.array n e) => match P.underlying e with
      | some (.int .i64) => ∃ l : List Int, X = .agg (l.map fun x => .v (.int .i64 x)) ∧ l.length = n ∧ ∀ x ∈ l, (Lit.int .i64 x).wf = true
      | _ => ∃ l : List UInt8, X = .arr n l ∧ l.length = n
    | _ => False
def dataTys (P : Program) (S : List TypeId) : Bool := S.all fun t => decide (t < P.types.size) && match P.underlying t with
  | some .bool => true
  | some (.int _) => true
  | some .string => true
  | some (.slice e) => S.contains e && decide (0 < P.cellsOf e)
  | some (.struct fs) => fs.toList.all fun f => S.contains f.type
  | some (.array _ e) => decide (P.cellsOf e = 1) && (match P.underlying e with | some (.int .u8) => true | some (.int .i64) => true | _ => false)
  | _ => false
theorem repM_of {w : World} {I : Nat → Nat → Prop} {n : Nat} : ∀ (l : List AV) (b o : Nat), (∀ i x, l[i]? = some x → ∃ c, c.length = n ∧ RepC w I x c ∧ xP w I b (o + i * n) c) → RepM w I n l b o
  | [], _, _, _ => by simp only [RepM]
  | p :: ps, b, o, h => by
    simp only [RepM]
    refine ⟨by simpa using h 0 p rfl, repM_of ps b (o + n) fun i x hx => ?_⟩
    have := h (i + 1) x (by simpa using hx)
    rw [show o + n + i * n = o + (i + 1) * n from by rw [Nat.add_mul]; omega]
    exact this
theorem list_of {α : Type} {Q : Nat → α → Prop} : ∀ (n : Nat), (∀ i, i < n → ∃ x, Q i x) → ∃ l : List α, l.length = n ∧ ∀ i x, l[i]? = some x → Q i x
  | 0, _ => ⟨[], rfl, fun i x h => by simp at h⟩
  | n + 1, h => by
    obtain ⟨l, h1, h2⟩ := list_of n fun i hi => h i (by omega)
    obtain ⟨x, hx⟩ := h n (by omega)
    refine ⟨l ++ [x], by simp [h1], fun i y hy => ?_⟩
    rcases Nat.lt_or_ge i l.length with hi | hi
    · rw [List.getElem?_append_left hi] at hy; exact h2 i y hy
    · rw [List.getElem?_append_right hi] at hy
      have h3 : i - l.length < 1 := by have := (List.getElem?_eq_some_iff.1 hy).1; simpa using this
      have h4 : i - l.length = 0 := by omega
      rw [h4] at hy
      simp at hy
      subst hy
      have : i = n := by omega
      rw [this]; exact hx
theorem mapM_get {α β : Type} {f : α → Option β} : ∀ {l : List α} {r : List β}, l.mapM f = some r → ∀ (i : Nat) (x : α), l[i]? = some x → ∃ y, r[i]? = some y ∧ f x = some y := by
  intro l
  induction l with
  | nil => intro r _ i x h; simp at h
  | cons a az ih =>
    intro r h i x hx
    rw [List.mapM_cons] at h
    cases ha : f a with
    | none => simp [ha] at h
    | some b =>
      cases has : az.mapM f with
      | none => simp [ha, has] at h
      | some bs =>
        simp [ha, has] at h
        subst h
        cases i with
        | zero => simp at hx; subst hx; exact ⟨b, rfl, ha⟩
        | succ i => simpa using ih has i x (by simpa using hx)
section
variable {H : Type} {enc : TypeId × Value → H} {P : Program} {w : World} {S : List TypeId}
theorem cells_at {a : Addr} {n : Nat} {cs : List Value} (h : w.cells? 0 a n = some cs) (h0 : 0 < n) : a.spot = none ∧ cs.length = n ∧ a.block < w.heap.size ∧ xP w (fun b _ => b < w.heap.size) a.block a.off cs := by
  have hb := World.cells?_block h h0
  obtain ⟨_, hl, hc⟩ := World.cells?_some h
  have hsp : a.spot = none := by
    have h1 := hc 0 h0
    obtain ⟨c, hc0⟩ : ∃ c, cs[0]? = some c := by
      cases cs with
      | nil => simp at hl; omega
      | cons c _ => exact ⟨c, rfl⟩
    rw [hc0] at h1
    simp only [Addr.add, if_true] at h1
    simp only [World.cell?] at h1
    split at h1
    · cases hs : a.spot with
      | none => rfl
      | some s => simp [hs] at h1
    · cases h1
  refine ⟨hsp, hl, hb, fun j hj => ⟨?_, hb⟩⟩
  have h1 := hc j (by omega)
  have e : a.add j = ⟨a.block, a.off + j, none⟩ := by
    obtain ⟨b, o, s⟩ := a
    simp only at hsp; subst hsp
    exact xX b o j
  rw [e, List.getElem?_eq_getElem hj] at h1
  exact h1
theorem open_fields {r : TypeId → List Value → Option (DataW H × List MemPlace)} {A : TypeId → AV → Prop} {I : Nat → Nat → Prop} {cs : List Value} :
    ∀ (fs : List Field) (off : Nat) (xs : List (DataW H × List MemPlace)), (fs.mapM fun f => r f.type ((cs.drop f.offset).take (P.cellsOf f.type))) = some xs →
    (∀ f ∈ fs, ∀ c x, c.length = P.cellsOf f.type → r f.type c = some x → ∃ X, RepC w I X c ∧ A f.type X) →
    (∀ (j : Nat) f, fs[j]? = some f → f.offset = off + ((fs.take j).map fun f => P.cellsOf f.type).sum) → off + (fs.map fun f => P.cellsOf f.type).sum = cs.length →
    ∃ l, l.length = fs.length ∧ xH w I l (cs.drop off) ∧ ∀ (j : Nat) fl x, fs[j]? = some fl → l[j]? = some x → A fl.type x
  | [], off, xs, _, _, _, hs => ⟨[], rfl, by simp at hs; simp only [xH]; exact List.drop_of_length_le (by omega), fun j fl x h => by simp at h⟩
  | f :: fs, off, xs, hm, hr, ho, hs => by
    simp only [List.map_cons, List.sum_cons] at hs
    rw [List.mapM_cons] at hm
    cases h1 : r f.type ((cs.drop f.offset).take (P.cellsOf f.type)) with
    | none => simp [h1] at hm
    | some y =>
      cases h2 : fs.mapM fun f => r f.type ((cs.drop f.offset).take (P.cellsOf f.type)) with
      | none => simp [h1, h2] at hm
      | some ys =>
        have hoff : f.offset = off := by simpa using ho 0 f rfl
        rw [hoff] at h1
        obtain ⟨X, k1, k2⟩ := hr f List.mem_cons_self _ y (by rw [List.length_take, List.length_drop]; omega) h1
        obtain ⟨l, k3, k4, k5⟩ := open_fields fs (off + P.cellsOf f.type) ys h2 (fun g hg => hr g (List.mem_cons_of_mem _ hg)) (fun j g hj => by
          have := ho (j + 1) g (by simpa using hj)
          simp only [List.take_succ_cons, List.map_cons, List.sum_cons] at this
          omega) (by omega)
        refine ⟨X :: l, by simp [k3], ?_, fun j fl x hj hx => ?_⟩
        · simp only [xH]
          refine ⟨_, _, ?_, k1, k4⟩
          rw [← List.drop_drop, List.take_append_drop]
        · cases j with
          | zero => simp at hj hx; subst hj; subst hx; exact k2
          | succ j => exact k5 j fl x (by simpa using hj) (by simpa using hx)
theorem repCs_ints {w : World} {I : Nat → Nat → Prop} : ∀ l : List Int, xH w I (l.map fun x => .v (.int .i64 x)) (l.map fun x => Value.int .i64 x)
  | [] => by simp only [List.map_nil, xH]
  | x :: l => by
    simp only [List.map_cons, xH]
    exact ⟨[.int .i64 x], _, rfl, by simp only [RepC]; exact ⟨rfl, rfl⟩, repCs_ints l⟩
theorem open_av (K : Kids P (· < P.types.size)) (hS : dataTys P S = true) : ∀ (n : Nat) (T : TypeId) (cs : List Value) (x : DataW H × List MemPlace), T ∈ S →
    DataW.trod enc P w 0 (fun _ => true) true n T cs = some x → ∃ X, RepC w (fun b _ => b < w.heap.size) X cs ∧ AVT P n T X := by
  intro n
  induction n with
  | zero => intro T cs x _ h; simp [DataW.trod] at h
  | succ n ih =>
    intro T cs x hT h
    have hd := List.all_eq_true.1 hS T hT
    simp only [Bool.and_eq_true, decide_eq_true_eq] at hd
    obtain ⟨hlt, hd⟩ := hd
    rw [DataW.trod_step] at h
    unfold DataW.trodStep at h
    simp only [AVT]
    split at h
    case h_1 b hu =>
      rw [hu]
      exact ⟨_, by simp only [RepC]; exact ⟨rfl, rfl⟩, b, rfl⟩
    case h_2 k k' m hu =>
      rw [hu]
      split at h
      · rename_i hk
        obtain ⟨rfl, hw⟩ := hk
        exact ⟨_, by simp only [RepC]; exact ⟨rfl, rfl⟩, m, rfl, hw⟩
      · cases h
    case h_3 hu => rw [hu] at hd; cases hd
    case h_4 s hu =>
      rw [hu]
      split at h
      · rename_i hs
        exact ⟨_, by simp only [RepC]; exact ⟨rfl, rfl⟩, s, rfl, hs⟩
      · cases h
    case h_5 hu => rw [hu] at hd; cases hd
    case h_6 hu => rw [hu] at hd; cases hd
    case h_7 e hu =>
      rw [hu]
      exact ⟨.sl (P.cellsOf e) [], by simp only [RepC]; exact ⟨_, rfl, .inl ⟨none, 0, rfl, trivial, Nat.zero_le _, fun _ => rfl⟩⟩, [], rfl, fun x hx => by cases hx⟩
    case h_8 e a len cap hu =>
      rw [hu] at hd ⊢
      simp only [Bool.and_eq_true, decide_eq_true_eq] at hd
      obtain ⟨heS, hce⟩ := hd
      have heS : e ∈ S := by simpa using heS
      simp only at h
      split at h
      · rename_i hc
        obtain ⟨_, hlc, hcm⟩ := hc
        simp only [Option.map_eq_some_iff, Option.bind_eq_some_iff] at h
        obtain ⟨elems, he, rest, hrest, rfl⟩ := h
        rcases Nat.eq_zero_or_pos len with h0 | h0
        · subst h0
          exact ⟨.sl (P.cellsOf e) [], by simp only [RepC]; exact ⟨_, rfl, .inl ⟨some a, cap, rfl, trivial, hcm, fun h => by cases h⟩⟩, [], rfl, fun x hx => by cases hx⟩
        · have one : ∀ i, i < len → ∃ c y, w.cells? 0 (a.add (i * P.cellsOf e)) (P.cellsOf e) = some c ∧ DataW.trod enc P w 0 (fun _ => true) true n e c = some y := by
            intro i hi
            obtain ⟨y, _, hy⟩ := mapM_get he i i (by simp [hi])
            simp only [Option.bind_eq_some_iff] at hy
            obtain ⟨c, h1, h2⟩ := hy
            exact ⟨c, y, h1, h2⟩
          obtain ⟨c0, _, hc0, _⟩ := one 0 h0
          obtain ⟨hsp, _, _, _⟩ := cells_at (by simpa [Addr.add] using hc0) hce
          obtain ⟨b, o, s⟩ := a
          simp only at hsp
          subst hsp
          obtain ⟨l, hl1, hl2⟩ := list_of (Q := fun i X => (∃ c, c.length = P.cellsOf e ∧ RepC w (fun b _ => b < w.heap.size) X c ∧ xP w (fun b _ => b < w.heap.size) b (o + i * P.cellsOf e) c) ∧ AVT P n e X) len (by
            intro i hi
            obtain ⟨c, y, h1, h2⟩ := one i hi
            obtain ⟨X, k1, k2⟩ := ih e c y heS h2
            rw [xX] at h1
            obtain ⟨_, k3, _, k4⟩ := cells_at h1 hce
            exact ⟨X, ⟨c, k3, k1, k4⟩, k2⟩)
          refine ⟨.sl (P.cellsOf e) l, ?_, l, rfl, fun x hx => ?_⟩
          · simp only [RepC]
            refine ⟨_, rfl, .inr ⟨b, o, cap, by rw [hl1], by omega, hcm, repM_of l b o fun i x hx => (hl2 i x hx).1⟩⟩
          · obtain ⟨i, hi⟩ := List.getElem?_of_mem hx
            exact (hl2 i x hi).2
      · cases h
    case h_9 fs hu =>
      rw [hu] at hd ⊢
      split at h
      · rename_i hlen
        simp only [Option.map_eq_some_iff] at h
        obtain ⟨xs, hx, rfl⟩ := h
        obtain ⟨_, k1, k2⟩ := K.struct hlt hu
        obtain ⟨l, k3, k4, k5⟩ := open_fields (w := w) (I := fun b _ => b < w.heap.size) (A := fun t X => AVT P n t X) fs.toList 0 xs hx
          (fun f hf c x _ hr => ih f.type c x (by simpa using List.all_eq_true.1 hd f hf) hr)
          (fun j f hj => by rw [Nat.zero_add]; exact k2 j f hj) (by rw [Nat.zero_add, ← k1]; exact hlen.symm)
        exact ⟨.agg l, by simpa only [RepC, List.drop_zero] using k4, l, rfl, k3, k5⟩
      · cases h
    case h_10 cs _ _ m e hu =>
      rw [hu] at hd ⊢
      simp only [Bool.and_eq_true, decide_eq_true_eq] at hd
      obtain ⟨hce, hub⟩ := hd
      split at h
      · rename_i hlen
        simp only [Option.map_eq_some_iff] at h
        obtain ⟨xs, hx, rfl⟩ := h
        have hcl : cs.length = m := by rw [hlen, (K.array hlt hu).2, hce, Nat.mul_one]
        have hub' : P.underlying e = some (.int .u8) ∨ P.underlying e = some (.int .i64) := by
          cases he : P.underlying e with
          | none => rw [he] at hub; cases hub
          | some d =>
            rw [he] at hub
            cases d <;> first | cases hub | skip
            rename_i k
            cases k <;> first | exact .inl rfl | exact .inr rfl | cases hub
        rcases hub' with hub' | hub'
        case inr =>
          simp only [hub']
          obtain ⟨l, hl1, hl2⟩ := list_of (Q := fun i (b : Int) => cs[i]? = some (.int .i64 b) ∧ (Lit.int .i64 b).wf = true) m (by
            intro i hi
            obtain ⟨y, _, hy⟩ := mapM_get hx i i (by simp [hi])
            rw [hce, Nat.mul_one] at hy
            have e1 : (cs.drop i).take 1 = [cs[i]] := by
              rw [List.drop_eq_getElem_cons (by omega)]; rfl
            rw [e1] at hy
            cases n with
            | zero => simp [DataW.trod] at hy
            | succ n =>
              rw [DataW.trod_step] at hy
              unfold DataW.trodStep at hy
              rw [hub'] at hy
              cases hv : cs[i] with
              | int k q =>
                rw [hv] at hy
                simp only at hy
                split at hy
                · rename_i hk
                  obtain ⟨rfl, hw⟩ := hk
                  exact ⟨q, by rw [List.getElem?_eq_getElem (by omega), hv], hw⟩
                · cases hy
              | _ => rw [hv] at hy; simp at hy)
          have ecs : cs = l.map fun x => Value.int .i64 x := by
            apply List.ext_getElem?
            intro i
            rcases Nat.lt_or_ge i m with hi | hi
            · rw [(hl2 i l[i] (by rw [List.getElem?_eq_getElem])).1, List.getElem?_map, List.getElem?_eq_getElem (by omega)]
              rfl
            · rw [List.getElem?_eq_none (by omega), List.getElem?_eq_none (by simp; omega)]
          refine ⟨.agg (l.map fun x => .v (.int .i64 x)), by simp only [RepC]; rw [ecs]; exact repCs_ints l, l, rfl, hl1, fun x hx => ?_⟩
          obtain ⟨i, hi⟩ := List.getElem?_of_mem hx
          exact (hl2 i x hi).2
        simp only [hub']
        obtain ⟨l, hl1, hl2⟩ := list_of (Q := fun i (b : UInt8) => cs[i]? = some (wr b)) m (by
          intro i hi
          obtain ⟨y, _, hy⟩ := mapM_get hx i i (by simp [hi])
          rw [hce, Nat.mul_one] at hy
          have e1 : (cs.drop i).take 1 = [cs[i]] := by
            rw [List.drop_eq_getElem_cons (by omega)]; rfl
          rw [e1] at hy
          cases n with
          | zero => simp [DataW.trod] at hy
          | succ n =>
            rw [DataW.trod_step] at hy
            unfold DataW.trodStep at hy
            rw [hub'] at hy
            cases hv : cs[i] with
            | int k q =>
              rw [hv] at hy
              simp only at hy
              split at hy
              · rename_i hk
                obtain ⟨rfl, hw⟩ := hk
                refine ⟨UInt8.ofNat q.toNat, ?_⟩
                rw [List.getElem?_eq_getElem (by omega), hv]
                have : 0 ≤ q ∧ q < 256 := by
                  have e1 : IntKind.u8.min = 0 := by decide
                  have e2 : IntKind.u8.max = 255 := by decide
                  simp [Lit.wf, e1, e2] at hw; omega
                simp only [wr, Option.some.injEq, Value.int.injEq, true_and]
                simp [UInt8.toNat_ofNat']
                omega
              · cases hy
            | _ => rw [hv] at hy; simp at hy)
        refine ⟨.arr m l, ?_, l, rfl, hl1⟩
        simp only [RepC]
        refine ⟨?_, hl1⟩
        apply List.ext_getElem?
        intro i
        rcases Nat.lt_or_ge i m with hi | hi
        · rw [hl2 i l[i] (by rw [List.getElem?_eq_getElem]), List.getElem?_map, List.getElem?_eq_getElem (by omega)]
          rfl
        · rw [List.getElem?_eq_none (by omega), List.getElem?_eq_none (by simp; omega)]
      · cases h
    all_goals
      rename_i hu
      first
        | (rw [hu] at hd; cases hd)
        | cases h
        | (exfalso; simp_all)
theorem open_arg (K : Kids P (· < P.types.size)) (hS : dataTys P S = true) {r : Reach} {b0 : Nat} {T : TypeId} {v : Value} {d : DataW H} {ps : List MemPlace} (hT : T ∈ S) (hval : Value.okWide P w r b0 T v)
    (h : DataW.Trod enc P w 0 (fun _ => true) true T v d ps) : ∃ n X, Rep w (fun b _ => b < w.heap.size) X v ∧ AVT P n T X := by
  obtain ⟨n, hn⟩ := h
  obtain ⟨X, h1, h2⟩ := open_av K hS n T _ _ hT hn
  refine ⟨n, X, ⟨_, h1, ?_⟩, h2⟩
  cases n with
  | zero => exact h2.elim
  | succ n =>
    simp only [AVT] at h2
    unfold Value.okWide at hval
    split at h2 <;> (try exact h2.elim) <;> rename_i hu <;> rw [hu] at hval <;> simp only at hval
    · obtain ⟨b, rfl⟩ := h2
      unfold Cell.okWide at hval; rw [hu] at hval; unfold Cell.ok at hval; rw [hu] at hval
      cases v <;> first | rfl | exact hval.elim
    · obtain ⟨b, rfl, _⟩ := h2
      unfold Cell.okWide at hval; rw [hu] at hval; unfold Cell.ok at hval; rw [hu] at hval
      cases v <;> first | rfl | exact hval.elim
    · obtain ⟨b, rfl, _⟩ := h2
      unfold Cell.okWide at hval; rw [hu] at hval; unfold Cell.ok at hval; rw [hu] at hval
      cases v <;> first | rfl | exact hval.elim
    · obtain ⟨l, rfl, _⟩ := h2
      unfold Cell.okWide at hval; rw [hu] at hval; unfold Cell.ok at hval; rw [hu] at hval
      cases v <;> first | rfl | exact hval.elim
    · obtain ⟨l, rfl, _⟩ := h2
      obtain ⟨cs, rfl, _⟩ := hval
      simp [mkV, AV.isAgg, Value.cells]
    · split at h2
      · obtain ⟨l, rfl, _⟩ := h2
        obtain ⟨cs, rfl, _⟩ := hval
        simp [mkV, AV.isAgg, Value.cells]
      · obtain ⟨l, rfl, _⟩ := h2
        obtain ⟨cs, rfl, _⟩ := hval
        simp [mkV, AV.isAgg, Value.cells]
theorem again (K : Kids P (· < P.types.size)) (hz : ∀ t e, t < P.types.size → P.underlying t = some (.slice e) → 0 < P.cellsOf e) {w' : World} (hb : Below w.heap.size w w') :
    ∀ {ts : List TypeId} {vs : List Value} {ds : List (DataW H)} {ps : List MemPlace}, (∀ t ∈ ts, t < P.types.size) → DataW.TrodAll enc P w 0 (fun _ => true) true ts vs ds ps →
      DataW.TrodAll enc P w' 0 (fun b => decide (b < w.heap.size)) true ts vs ds ps := by
  intro ts vs ds ps hT h
  have hlt := h.lt
  have h1 := DataW.TrodAll.respare (spare' := fun b => decide (b < w.heap.size)) K hz hT h (fun p hp => by simpa using hlt p hp)
  have hsame : ∀ p ∈ ps, w.sameAt w' p := fun p hp => by
    have := hb.block p.block (hlt p hp)
    cases p with
    | cell b o => exact World.cell?_of_block (w := w) this
    | map b => exact this
  clear h hlt hT
  have key : ∀ (ts : List TypeId) (vs : List Value) (ds : List (DataW H)) (ps : List MemPlace), DataW.TrodAll enc P w 0 (fun b => decide (b < w.heap.size)) true ts vs ds ps → (∀ p ∈ ps, w.sameAt w' p) →
      DataW.TrodAll enc P w' 0 (fun b => decide (b < w.heap.size)) true ts vs ds ps := by
    intro ts
    induction ts with
    | nil => intro vs ds ps h _; cases vs <;> cases ds <;> exact h
    | cons t ts ih =>
      intro vs ds ps h hs
      cases vs with
      | nil => exact h
      | cons v vs =>
        cases ds with
        | nil => exact h
        | cons d ds =>
          obtain ⟨p, q, ⟨n, hn⟩, h2, e⟩ := h
          exact ⟨p, q, ⟨n, DataW.trod_carry n _ _ _ hn (fun x hx => hs x (by rw [e]; exact List.mem_append_left _ hx))⟩, ih _ _ _ h2 (fun x hx => hs x (by rw [e]; exact List.mem_append_right _ hx)), e⟩
  exact key _ _ _ _ h1 hsame
end
end Go.Al
namespace Go.Proofs
open Go Go.Al
mutual
inductive GV where
  | mk (kind : Int) (text : ByteArray) (num bits : Int) (list : List GV) (map : List GA)
inductive GA where
  | mk (key : ByteArray) (val : GV)
end
def GV.kind : GV → Int | .mk k _ _ _ _ _ => k
def GV.text : GV → ByteArray | .mk _ t _ _ _ _ => t
def GV.num : GV → Int | .mk _ _ n _ _ _ => n
def GV.bits : GV → Int | .mk _ _ _ b _ _ => b
def GV.list : GV → List GV | .mk _ _ _ _ l _ => l
def GV.map : GV → List GA | .mk _ _ _ _ _ m => m
def GA.key : GA → ByteArray | .mk k _ => k
def GA.val : GA → GV | .mk _ v => v
theorem GA.key_mk (k : ByteArray) (v : GV) : (GA.mk k v).key = k := rfl
theorem GA.val_mk (k : ByteArray) (v : GV) : (GA.mk k v).val = v := rfl
theorem GV.kind_mk (k : Int) (t : ByteArray) (n b : Int) (l : List GV) (m : List GA) : (GV.mk k t n b l m).kind = k := rfl
theorem GV.text_mk (k : Int) (t : ByteArray) (n b : Int) (l : List GV) (m : List GA) : (GV.mk k t n b l m).text = t := rfl
theorem GV.num_mk (k : Int) (t : ByteArray) (n b : Int) (l : List GV) (m : List GA) : (GV.mk k t n b l m).num = n := rfl
theorem GV.bits_mk (k : Int) (t : ByteArray) (n b : Int) (l : List GV) (m : List GA) : (GV.mk k t n b l m).bits = b := rfl
theorem GV.list_mk (k : Int) (t : ByteArray) (n b : Int) (l : List GV) (m : List GA) : (GV.mk k t n b l m).list = l := rfl
theorem GV.map_mk (k : Int) (t : ByteArray) (n b : Int) (l : List GV) (m : List GA) : (GV.mk k t n b l m).map = m := rfl
mutual
def avV : GV → AV
  | .mk k t n b l m => .agg [cv k, sv t, iv n, uv b, .sl 6 (avVs l), .sl 7 (avAs m)]
def avVs : List GV → List AV
  | [] => []
  | x :: xs => avV x :: avVs xs
def avA : GA → AV
  | .mk k v => .agg [sv k, avV v]
def avAs : List GA → List AV
  | [] => []
  | x :: xs => avA x :: avAs xs
end
theorem avVs_map : ∀ l : List GV, avVs l = l.map avV
  | [] => rfl
  | x :: xs => by rw [avVs, avVs_map xs]; rfl
theorem avAs_map : ∀ l : List GA, avAs l = l.map avA
  | [] => rfl
  | x :: xs => by rw [avAs, avAs_map xs]; rfl
def GV.av (g : GV) : AV := .agg [cv g.kind, sv g.text, iv g.num, uv g.bits, .sl 6 (g.list.map avV), .sl 7 (g.map.map avA)]
def GA.av (a : GA) : AV := .agg [sv a.key, a.val.av]
theorem avV_eq (g : GV) : avV g = g.av := by
  cases g with
  | mk k t n b l m => rw [avV, avVs_map, avAs_map]; rfl
theorem avA_eq (a : GA) : avA a = a.av := by
  cases a with
  | mk k v => rw [avA, avV_eq]; rfl
mutual
def GV.wt : GV → Nat
  | .mk _ t _ _ l m => 1 + t.size + wtVs l + wtAs m
def wtVs : List GV → Nat
  | [] => 0
  | x :: xs => GV.wt x + wtVs xs
def GA.wt : GA → Nat
  | .mk k v => k.size + GV.wt v
def wtAs : List GA → Nat
  | [] => 0
  | x :: xs => GA.wt x + wtAs xs
end
theorem GV.wt_eq (g : GV) : g.wt = 1 + g.text.size + wtVs g.list + wtAs g.map := by cases g; rw [GV.wt]; rfl
theorem GA.wt_eq (a : GA) : a.wt = a.key.size + a.val.wt := by cases a; rw [GA.wt]; rfl
theorem GV.wt_pos (g : GV) : 1 ≤ g.wt := by rw [g.wt_eq]; omega
theorem GA.wt_pos (a : GA) : 1 ≤ a.wt := by rw [a.wt_eq]; have := a.val.wt_pos; omega
theorem tk : ∀ l m : List GV, wtVs (l ++ m) = wtVs l + wtVs m
  | [], m => by simp [wtVs]
  | x :: xs, m => by simp only [List.cons_append, wtVs, tk xs m]; omega
theorem sI : ∀ l m : List GA, wtAs (l ++ m) = wtAs l + wtAs m
  | [], m => by simp [wtAs]
  | x :: xs, m => by simp only [List.cons_append, wtAs, sI xs m]; omega
theorem s9 : ∀ {l : List GV} {x : GV}, x ∈ l → x.wt ≤ wtVs l
  | y :: ys, x, h => by
    rw [wtVs]
    rcases List.mem_cons.1 h with rfl | h
    · omega
    · have := s9 h; omega
theorem xy : ∀ {l : List GA} {x : GA}, x ∈ l → x.wt ≤ wtAs l
  | y :: ys, x, h => by
    rw [wtAs]
    rcases List.mem_cons.1 h with rfl | h
    · omega
    · have := xy h; omega
theorem xh : ∀ l : List GV, l.length ≤ wtVs l
  | [] => by simp [wtVs]
  | x :: xs => by rw [wtVs]; have := xh xs; have := x.wt_pos; simp; omega
theorem yv : ∀ l : List GA, l.length ≤ wtAs l
  | [] => by simp [wtAs]
  | x :: xs => by rw [wtAs]; have := yv xs; have := x.wt_pos; simp; omega
theorem GV.ind {P : GV → Prop} (h : ∀ g : GV, (∀ y ∈ g.list, P y) → (∀ a ∈ g.map, P a.val) → P g) (g : GV) : P g := by
  have key : ∀ n, ∀ g : GV, g.wt ≤ n → P g := by
    intro n
    induction n with
    | zero => intro g hg; have := g.wt_pos; omega
    | succ n ih =>
      intro g hg
      have e := g.wt_eq
      refine h g (fun y hy => ih y ?_) (fun a ha => ih a.val ?_)
      · have := s9 hy; omega
      · have := xy ha; have := a.wt_eq; omega
  exact key g.wt g (Nat.le_refl _)
mutual
def GV.ok : GV → Prop
  | .mk k t n b l m => (0 ≤ k ∧ k < 256) ∧ t.size ≤ maxLen ∧ (-9223372036854775808 ≤ n ∧ n < 9223372036854775808) ∧ (0 ≤ b ∧ b < 18446744073709551616) ∧ okVs l ∧ okAs m
def okVs : List GV → Prop
  | [] => True
  | x :: xs => GV.ok x ∧ okVs xs
def GA.ok : GA → Prop
  | .mk k v => k.size ≤ maxLen ∧ GV.ok v
def okAs : List GA → Prop
  | [] => True
  | x :: xs => GA.ok x ∧ okAs xs
end
theorem okVs_iff : ∀ {l : List GV}, okVs l ↔ ∀ x ∈ l, x.ok
  | [] => by simp [okVs]
  | x :: xs => by rw [okVs, okVs_iff]; simp
theorem okAs_iff : ∀ {l : List GA}, okAs l ↔ ∀ x ∈ l, x.ok
  | [] => by simp [okAs]
  | x :: xs => by rw [okAs, okAs_iff]; simp
theorem GV.ok_iff (g : GV) : g.ok ↔ (0 ≤ g.kind ∧ g.kind < 256) ∧ g.text.size ≤ maxLen ∧ (-9223372036854775808 ≤ g.num ∧ g.num < 9223372036854775808) ∧ (0 ≤ g.bits ∧ g.bits < 18446744073709551616) ∧ (∀ x ∈ g.list, x.ok) ∧ ∀ x ∈ g.map, x.ok := by
  cases g with
  | mk k t n b l m => rw [GV.ok, okVs_iff, okAs_iff]; rfl
theorem GA.ok_iff (a : GA) : a.ok ↔ a.key.size ≤ maxLen ∧ a.val.ok := by cases a; rw [GA.ok]; rfl
abbrev Bs := List UInt8
def hexD (n : Nat) : UInt8 := UInt8.ofNat (if n < 10 then 48 + n else 87 + n)
def hexB : Bs → Bs
  | [] => []
  | c :: s => hexD (c.toNat / 16) :: hexD (c.toNat % 16) :: hexB s
theorem rp : ∀ s t : Bs, hexB (s ++ t) = hexB s ++ hexB t
  | [], t => rfl
  | c :: s, t => by simp only [List.cons_append, hexB, rp s t]
theorem yG : ∀ s : Bs, (hexB s).length = 2 * s.length
  | [] => rfl
  | c :: s => by simp only [hexB, List.length_cons, yG s]; omega
def be : Nat → Nat → Bs
  | 0, _ => []
  | n + 1, u => be n (u / 256) ++ [UInt8.ofNat (u % 256)]
theorem wC : ∀ n u, (be n u).length = n
  | 0, _ => rfl
  | n + 1, u => by simp [be, wC n]
def natF : Nat → Nat → Bs
  | 0, _ => []
  | f + 1, n => if n < 10 then [UInt8.ofNat (48 + n)] else natF f (n / 10) ++ [UInt8.ofNat (48 + n % 10)]
def natB (n : Nat) : Bs := natF 20 n
def decB (n : Int) : Bs := if n < 0 then 45 :: natB (-n).toNat else natB n.toNat
theorem sH : ∀ f n, (natF f n).length ≤ f
  | 0, _ => Nat.le_refl _
  | f + 1, n => by
    rw [natF]
    split
    · simp
    · have := sH f (n / 10); simp; omega
theorem tx (n : Int) : (decB n).length ≤ 21 := by
  unfold decB natB
  split
  · have := sH 20 (-n).toNat; simp; omega
  · have := sH 20 n.toNat; omega
theorem natF_more : ∀ f n, n < 10 ^ f → 0 < f → natF (f + 1) n = natF f n
  | 0, _, _, h => by omega
  | f + 1, n, h, _ => by
    rw [natF]
    conv => rhs; rw [natF]
    split
    · rfl
    · rename_i hn
      rcases Nat.eq_zero_or_pos f with rfl | hf
      · simp at h; omega
      · rw [natF_more f (n / 10) (by rw [Nat.pow_succ] at h; omega) hf]
def escB (c : UInt8) : Bs := if c = 34 ∨ c = 92 then [92, c] else if c < 32 then 92 :: 117 :: 48 :: 48 :: hexB [c] else [c]
def escs : Bs → Bs
  | [] => []
  | c :: s => escB c ++ escs s
theorem rX : ∀ s t : Bs, escs (s ++ t) = escs s ++ escs t
  | [], t => rfl
  | c :: s, t => by simp only [List.cons_append, escs, rX s t, List.append_assoc]
theorem escB_length (c : UInt8) : (escB c).length ≤ 6 := by
  unfold escB
  split
  · simp
  · split
    · simp [hexB]
    · simp
theorem tn : ∀ s : Bs, (escs s).length ≤ 6 * s.length
  | [] => Nat.le_refl _
  | c :: s => by simp only [escs, List.length_append, List.length_cons]; have := escB_length c; have := tn s; omega
def vZ (s : Bs) : Bs := 34 :: (escs s ++ [34])
theorem yA (s : Bs) : (vZ s).length ≤ 6 * s.length + 2 := by
  unfold vZ; simp; have := tn s; omega
def lst (s : ByteArray) : Bs := s.data.toList
theorem yE (s : ByteArray) : (lst s).length = s.size := by simp [lst]
theorem yN (l : Bs) : lst (yF l) = l := xU l
theorem jH (s : ByteArray) : yF (lst s) = s := strOf_data s
theorem wR (a b : Bs) : yF a ++ yF b = yF (a ++ b) := by
  apply sZ
  rw [ByteArray.data_append]
  simp [yF]
def wE (v : GV) : Bs :=
  if v.kind = 1 then lst v.text
  else if v.kind = 2 then (if v.num = 0 then [102, 97, 108, 115, 101] else [116, 114, 117, 101])
  else if v.kind = 3 then decB v.num
  else if v.kind = 4 then 48 :: 120 :: hexB (be 8 v.bits.toNat)
  else if v.kind = 5 then hexB (lst v.text)
  else []
def sk (first : Bool) : Bs := if first then [] else [44]
mutual
def xC : GV → Bs
  | .mk k t n b l m =>
    if k = 0 then [110, 117, 108, 108]
    else if k = 1 ∨ k = 4 ∨ k = 5 then vZ (wE (.mk k t n b [] []))
    else if k = 6 then 91 :: (wu true l ++ [93])
    else if k = 7 then 123 :: (vC true m ++ [125])
    else wE (.mk k t n b [] [])
def wu : Bool → List GV → Bs
  | _, [] => []
  | f, x :: xs => sk f ++ xC x ++ wu false xs
def jsonA : GA → Bs
  | .mk k v => vZ (lst k) ++ [58] ++ xC v
def vC : Bool → List GA → Bs
  | _, [] => []
  | f, x :: xs => sk f ++ jsonA x ++ vC false xs
end
theorem simpB_bare (g : GV) : wE (.mk g.kind g.text g.num g.bits [] []) = wE g := by cases g; rfl
theorem sA (g : GV) : xC g = if g.kind = 0 then [110, 117, 108, 108] else if g.kind = 1 ∨ g.kind = 4 ∨ g.kind = 5 then vZ (wE g)
    else if g.kind = 6 then 91 :: (wu true g.list ++ [93]) else if g.kind = 7 then 123 :: (vC true g.map ++ [125]) else wE g := by
  rw [← simpB_bare g]
  cases g with
  | mk k t n b l m => rw [xC]; rfl
theorem s6 (a : GA) : jsonA a = vZ (lst a.key) ++ [58] ++ xC a.val := by cases a; rw [jsonA]; rfl
theorem jsonVs_snoc : ∀ (l : List GV) (f : Bool) (x : GV), wu f (l ++ [x]) = wu f l ++ sk (f && l.isEmpty) ++ xC x
  | [], f, x => by simp [wu]
  | y :: l, f, x => by simp only [List.cons_append, wu, jsonVs_snoc l false x, List.isEmpty_cons, Bool.and_false, Bool.false_and, List.append_assoc]
theorem jsonAs_snoc : ∀ (l : List GA) (f : Bool) (x : GA), vC f (l ++ [x]) = vC f l ++ sk (f && l.isEmpty) ++ jsonA x
  | [], f, x => by simp [vC]
  | y :: l, f, x => by simp only [List.cons_append, vC, jsonAs_snoc l false x, List.isEmpty_cons, Bool.and_false, Bool.false_and, List.append_assoc]
theorem yr (v : GV) : (wE v).length ≤ 21 + 2 * v.text.size := by
  unfold wE
  have := tx v.num
  have := yE v.text
  repeat' split
  all_goals first | omega | (simp only [List.length_cons, List.length_nil, yG, wC, yE]; omega)
theorem yL (f : Bool) : (sk f).length ≤ 1 := by cases f <;> simp [sk]
theorem yb (g : GV) : (xC g).length + 5 ≤ 150 * g.wt := by
  refine GV.ind (P := fun g => (xC g).length + 5 ≤ 150 * g.wt) ?_ g
  intro g h1 h2
  have e := g.wt_eq
  have hv : ∀ (l : List GV) (f : Bool), (∀ y ∈ l, (xC y).length + 5 ≤ 150 * y.wt) → (wu f l).length ≤ 150 * wtVs l := by
    intro l
    induction l with
    | nil => intro f _; simp [wu]
    | cons x xs ih =>
      intro f h
      simp only [wu, wtVs, List.length_append]
      have := h x List.mem_cons_self
      have := ih false (fun y hy => h y (List.mem_cons_of_mem _ hy))
      have := yL f
      omega
  have ha : ∀ (l : List GA) (f : Bool), (∀ y ∈ l, (xC y.val).length + 5 ≤ 150 * y.val.wt) → (vC f l).length ≤ 150 * wtAs l := by
    intro l
    induction l with
    | nil => intro f _; simp [vC]
    | cons x xs ih =>
      intro f h
      simp only [vC, wtAs, List.length_append, s6, List.length_cons, List.length_nil]
      have := h x List.mem_cons_self
      have := ih false (fun y hy => h y (List.mem_cons_of_mem _ hy))
      have := yL f
      have := x.wt_eq
      have := yA (lst x.key)
      have := yE x.key
      omega
  have h3 := hv g.list true h1
  have h4 := ha g.map true h2
  have h5 := yr g
  have h6 := yA (wE g)
  rw [sA]
  repeat' split
  all_goals first | omega | (simp only [List.length_cons, List.length_append, List.length_nil]; omega)
def textB (v : GV) : Bs := if v.kind = 6 ∨ v.kind = 7 then xC v else wE v
def xA (v : GV) : ByteArray := yF (textB v)
theorem u5 (v : GV) : (textB v).length ≤ 150 * v.wt := by
  unfold textB
  have := yb v
  have := yr v
  have := v.wt_eq
  split <;> omega
def vA (v : GV) : GV := .mk 1 (xA v) 0 0 [] []
end Go.Proofs
namespace Go.Proofs
open Go Go.Al
structure GE where
  time : Int
  name : ByteArray
  attrs : List GA
structure GL where
  trace : Bs
  span : Bs
  state : ByteArray
  attrs : List GA
structure GSpan where
  trace : Bs
  id : Bs
  parent : Bs
  state : ByteArray
  name : ByteArray
  kind : Int
  start : Int
  fin : Int
  attrs : List GA
  events : List GE
  links : List GL
  code : Int
  note : ByteArray
structure GScope where
  name : ByteArray
  version : ByteArray
  spans : List GSpan
structure GRes where
  attrs : List GA
  scopes : List GScope
def GE.av (e : GE) : AV := .agg [uv e.time, sv e.name, .sl 7 (e.attrs.map avA)]
def GL.av (e : GL) : AV := .agg [.arr 16 e.trace, .arr 8 e.span, sv e.state, .sl 7 (e.attrs.map avA)]
def GSpan.av (s : GSpan) : AV := .agg [.arr 16 s.trace, .arr 8 s.id, .arr 8 s.parent, sv s.state, sv s.name, iv s.kind, uv s.start, uv s.fin, .sl 7 (s.attrs.map avA), .sl 3 (s.events.map GE.av), .sl 26 (s.links.map GL.av), .agg [iv s.code, sv s.note]]
def GScope.av (s : GScope) : AV := .agg [sv s.name, sv s.version, .sl 42 (s.spans.map GSpan.av)]
def GRes.av (r : GRes) : AV := .agg [.sl 7 (r.attrs.map avA), .sl 3 (r.scopes.map GScope.av)]
def ya (b : List GRes) : AV := .agg [.sl 2 (b.map GRes.av)]
def zg {α : Type} (f : α → Nat) : List α → Nat
  | [] => 0
  | x :: xs => f x + zg f xs
theorem xM {α : Type} (f : α → Nat) : ∀ l m : List α, zg f (l ++ m) = zg f l + zg f m
  | [], m => by simp [zg]
  | x :: xs, m => by simp only [List.cons_append, zg, xM f xs m]; omega
theorem yP {α : Type} (f : α → Nat) : ∀ {l : List α} {x : α}, x ∈ l → f x ≤ zg f l
  | y :: ys, x, h => by
    rw [zg]
    rcases List.mem_cons.1 h with rfl | h
    · omega
    · have := yP f h; omega
theorem yX {α : Type} (f : α → Nat) (hf : ∀ x, 1 ≤ f x) : ∀ l : List α, l.length ≤ zg f l
  | [] => by simp [zg]
  | x :: xs => by rw [zg]; have := yX f hf xs; have := hf x; simp; omega
def GE.wt (e : GE) : Nat := 1 + e.name.size + wtAs e.attrs
def GL.wt (e : GL) : Nat := 1 + e.state.size + wtAs e.attrs
def GSpan.wt (s : GSpan) : Nat := 1 + s.state.size + s.name.size + s.note.size + wtAs s.attrs + zg GE.wt s.events + zg GL.wt s.links
def GScope.wt (s : GScope) : Nat := 1 + s.name.size + s.version.size + zg GSpan.wt s.spans
def GRes.wt (r : GRes) : Nat := 1 + wtAs r.attrs + zg GScope.wt r.scopes
def wtB (b : List GRes) : Nat := zg GRes.wt b
def u64 (n : Int) : Prop := 0 ≤ n ∧ n < 18446744073709551616
def i64 (n : Int) : Prop := -9223372036854775808 ≤ n ∧ n < 9223372036854775808
def GE.ok (e : GE) : Prop := u64 e.time ∧ e.name.size ≤ maxLen ∧ ∀ a ∈ e.attrs, a.ok
def GL.ok (e : GL) : Prop := e.trace.length = 16 ∧ e.span.length = 8 ∧ e.state.size ≤ maxLen ∧ ∀ a ∈ e.attrs, a.ok
def GSpan.ok (s : GSpan) : Prop := (s.trace.length = 16 ∧ s.id.length = 8 ∧ s.parent.length = 8) ∧ (s.state.size ≤ maxLen ∧ s.name.size ≤ maxLen ∧ s.note.size ≤ maxLen) ∧ (i64 s.kind ∧ u64 s.start ∧ u64 s.fin ∧ i64 s.code) ∧ (∀ a ∈ s.attrs, a.ok) ∧ (∀ e ∈ s.events, e.ok) ∧ ∀ e ∈ s.links, e.ok
def GScope.ok (s : GScope) : Prop := s.name.size ≤ maxLen ∧ s.version.size ≤ maxLen ∧ ∀ x ∈ s.spans, x.ok
def GRes.ok (r : GRes) : Prop := (∀ a ∈ r.attrs, a.ok) ∧ ∀ s ∈ r.scopes, s.ok
def okB (b : List GRes) : Prop := ∀ r ∈ b, r.ok
def leftV (v : GV) (left : Int) : Int := if left < 0 then -1 else if (v.wt : Int) ≤ left then left - v.wt else -1
def yS (l : List GA) (left : Int) : Int := if left < 0 then left else if (wtAs l : Int) ≤ left then left - wtAs l else -1
def ltB (a b : ByteArray) : Bool := Op.bytesLess (lst a) (lst b)
def xf : List GA → GA → List GA
  | [], a => [a]
  | x :: xs, a => if ltB x.key a.key then x :: xf xs a else if x.key = a.key then a :: xs else a :: x :: xs
mutual
def rW : GV → GV → Bool
  | .mk k t n b l m, .mk k' t' n' b' l' m' => k == k' && decide (t = t') && n == n' && b == b' && sJ l l' && uj m m'
def sJ : List GV → List GV → Bool
  | [], [] => true
  | x :: xs, y :: ys => rW x y && sJ xs ys
  | _, _ => false
def sameA : GA → GA → Bool
  | .mk k v, .mk k' v' => decide (k = k') && rW v v'
def uj : List GA → List GA → Bool
  | [], [] => true
  | x :: xs, y :: ys => sameA x y && uj xs ys
  | _, _ => false
end
mutual
theorem vV : ∀ (x y : GV), rW x y = true ↔ x = y
  | .mk k t n b l m, .mk k' t' n' b' l' m' => by
    simp only [rW, Bool.and_eq_true, beq_iff_eq, decide_eq_true_eq, vO l l', yy m m', GV.mk.injEq]
    constructor
    · rintro ⟨⟨⟨⟨⟨h1, h2⟩, h3⟩, h4⟩, h5⟩, h6⟩; exact ⟨h1, h2, h3, h4, h5, h6⟩
    · rintro ⟨h1, h2, h3, h4, h5, h6⟩; exact ⟨⟨⟨⟨⟨h1, h2⟩, h3⟩, h4⟩, h5⟩, h6⟩
theorem vO : ∀ (x y : List GV), sJ x y = true ↔ x = y
  | [], [] => by simp [sJ]
  | x :: xs, y :: ys => by simp only [sJ, Bool.and_eq_true, vV x y, vO xs ys, List.cons.injEq]
  | [], y :: ys => by simp [sJ]
  | x :: xs, [] => by simp [sJ]
theorem ui : ∀ (x y : GA), sameA x y = true ↔ x = y
  | .mk k v, .mk k' v' => by simp only [sameA, Bool.and_eq_true, decide_eq_true_eq, vV v v', GA.mk.injEq]
theorem yy : ∀ (x y : List GA), uj x y = true ↔ x = y
  | [], [] => by simp [uj]
  | x :: xs, y :: ys => by simp only [uj, Bool.and_eq_true, ui x y, yy xs ys, List.cons.injEq]
  | [], y :: ys => by simp [uj]
  | x :: xs, [] => by simp [uj]
end
theorem sameV_refl (x : GV) : rW x x = true := (vV x x).2 rfl
theorem sameAs_refl (x : List GA) : uj x x = true := (yy x x).2 rfl
end Go.Proofs
namespace Go.Proofs
open Go Go.Al
def w64 (n : Int) : Int := IntKind.i64.wrap n
def xi (c : Int) : Int := if c < 128 then 1 else if c < 194 then 0 else if c < 224 then 2 else if c < 240 then 3 else if c < 245 then 4 else 0
def leastM (k : Int) : Int := if k = 2 then 128 else if k = 3 then 2048 else if k = 4 then 65536 else 0
def jb (r : Int) : Int := if r < 128 then 1 else if r < 2048 then 2 else if r < 65536 then 3 else 4
def isM (r : Int) : Bool := decide ((r ≥ 0 ∧ r < 55296) ∨ (r ≥ 57344 ∧ r < 1114112))
def isR (r : Int) : Bool := decide (r ≥ 0 ∧ r ≤ 1114111 ∧ (r < 55296 ∨ r > 57343))
def stepM (r b : Int) : Int := vd (· ||| ·) .i32 (IntKind.i32.wrap (r * 2 ^ (min (6 : Int).toNat (IntKind.bits .i32)))) (IntKind.i32.wrap (vd (· &&& ·) .u8 b 63))
def r0M (c k : Int) : Int := vd (· &&& ·) .i32 (IntKind.i32.wrap c) ((127 : Int).fdiv (2 ^ (min k.toNat (IntKind.bits .i32))))
def badM (b : Int) : Bool := vd (· &&& ·) .u8 b 192 != 128
def u7 (s : ByteArray) (p : Int) : Nat → Int → Int → Option Int
  | 0, _, r => some r
  | n + 1, i, r => if badM (bAt s (p + i)) = true then none else u7 s p n (i + 1) (stepM r (bAt s (p + i)))
def runeM (s : ByteArray) (p : Int) : Int × Int :=
  if p < 0 ∨ p ≥ s.size then (0, 0) else
  if xi (bAt s p) = 0 ∨ xi (bAt s p) > s.size - p then (0, 0) else
  if xi (bAt s p) = 1 then (IntKind.i32.wrap (bAt s p), 1) else
  match u7 s p (xi (bAt s p) - 1).toNat 1 (r0M (bAt s p) (xi (bAt s p))) with
  | none => (0, 0)
  | some r => if r < leastM (xi (bAt s p)) ∨ isM r = false then (0, 0) else (r, xi (bAt s p))
def goM (f : Int → Int) (n : Int) : Nat → Int → Int → Int × Int
  | 0, p, c => (p, c)
  | m + 1, p, c => if p < n then (if f p = 0 then (p, c) else goM f n m (p + f p) (c + 1)) else (p, c)
def cutG (f : Int → Int) (n lim : Int) : Nat → Int → Int
  | 0, p => p
  | m + 1, p => if p < n then (if f p = 0 ∨ p + f p > lim then p else cutG f n lim m (p + f p)) else p
def fM (s : ByteArray) (p : Int) : Int := (runeM s p).2
def endM (s : ByteArray) : Int × Int := goM (fM s) s.size (s.size + 1) 0 0
def wv (s : ByteArray) : Int := if (endM s).1 < s.size then (endM s).1 else -1
def rS (s : ByteArray) : Int := if (endM s).1 < s.size then -1 else (endM s).2
def cutM (s : ByteArray) (n : Int) : Int := cutG (fM s) s.size n (s.size + 1) 0
def contM (n : Int) : Int := vd (· ||| ·) .u8 128 (vd (· &&& ·) .u8 (IntKind.u8.wrap n) 63)
def headM (r k : Int) : Int := vd (· ||| ·) .u8 (IntKind.u8.wrap (240 * 2 ^ (min (w64 (4 - k)).toNat (IntKind.bits .u8)))) (IntKind.u8.wrap (r.fdiv (2 ^ (min (w64 (6 * w64 (k - 1))).toNat (IntKind.bits .i32)))))
def bytesP (r : Int) : List UInt8 :=
  if jb r = 1 then [ofI (IntKind.u8.wrap r)] else
  if jb r = 2 then [ofI (headM r (jb r)), ofI (contM r)] else
  if jb r = 3 then [ofI (headM r (jb r)), ofI (contM (r.fdiv (2 ^ (min (6 : Int).toNat (IntKind.bits .i32))))), ofI (contM r)] else
  [ofI (headM r (jb r)), ofI (contM (r.fdiv (2 ^ (min (12 : Int).toNat (IntKind.bits .i32))))), ofI (contM (r.fdiv (2 ^ (min (6 : Int).toNat (IntKind.bits .i32))))), ofI (contM r)]
def putM (l : List UInt8) (r : Int) : List UInt8 := if isM r then l ++ bytesP r else l
-- the reference
def xV (s : ByteArray) : Nat → Int → Int → Int
  | 0, _, n => n
  | m + 1, i, n => if i ≥ s.size then -1 else xV s m (i + 1) (64 * n + bAt s i - 128)
def vY (s : ByteArray) : Int :=
  if bAt s 0 < 128 then bAt s 0 else if bAt s 0 ≥ 240 then xV s 3 1 (bAt s 0 - 240) else if bAt s 0 ≥ 224 then xV s 2 1 (bAt s 0 - 224) else xV s 1 1 (bAt s 0 - 192)
def topM (k n d : Int) : UInt8 := ofI (IntKind.u8.wrap (w64 (k + w64 (n.tdiv d))))
def midM (n d : Int) : UInt8 := ofI (IntKind.u8.wrap (w64 (128 + (w64 (n.tdiv d)).tmod 64)))
def lowM (n : Int) : UInt8 := ofI (IntKind.u8.wrap (w64 (128 + n.tmod 64)))
def v8 (r : Int) : List UInt8 :=
  if w64 r < 128 then [ofI (IntKind.u8.wrap (w64 r))] else
  if w64 r < 2048 then [topM 192 (w64 r) 64, lowM (w64 r)] else
  if w64 r < 65536 then [topM 224 (w64 r) 4096, midM (w64 r) 64, lowM (w64 r)] else
  [topM 240 (w64 r) 262144, midM (w64 r) 4096, midM (w64 r) 64, lowM (w64 r)]
def xo (s : ByteArray) (p : Int) : Int × Int :=
  if p < 0 ∨ p ≥ s.size then (0, 0) else
  if vY (s.extract p.toNat s.size) < 0 ∨ vY (s.extract p.toNat s.size) > 1114111 ∨ isR (vY (s.extract p.toNat s.size)) = false then (0, 0) else
  if ((yF (v8 (vY (s.extract p.toNat s.size)))).size : Int) > s.size - p ∨ s.extract p.toNat (p + (yF (v8 (vY (s.extract p.toNat s.size)))).size).toNat ≠ yF (v8 (vY (s.extract p.toNat s.size))) then (0, 0) else
  (vY (s.extract p.toNat s.size), (yF (v8 (vY (s.extract p.toNat s.size)))).size)
def rF (s : ByteArray) (p : Int) : Int := (xo s p).2
def rEnd (s : ByteArray) : Int × Int := goM (rF s) s.size (s.size + 1) 0 0
def ru (s : ByteArray) : Int := if (rEnd s).1 = s.size then -1 else (rEnd s).1
def rCountM (s : ByteArray) : Int := if (rEnd s).1 < s.size then -1 else (rEnd s).2
def rCutLoop (s : ByteArray) : Nat → ByteArray
  | 0 => .empty
  | k + 1 => if ru (s.extract 0 (k + 1)) = -1 then s.extract 0 (k + 1) else rCutLoop s k
def rCutM (s : ByteArray) (n : Int) : ByteArray := rCutLoop s (if s.size < n then (s.size : Int) else n).toNat
end Go.Proofs
namespace Go.Proofs
open Go Go.Al
theorem lengthM_range (c : Int) : 0 ≤ xi c ∧ xi c ≤ 4 := by
  unfold xi
  (repeat' split)
  all_goals omega
end Go.Proofs
namespace Go.Proofs
open Go Go.Al
theorem ex_size (s : ByteArray) (a b : Nat) (h : b ≤ s.size) : (s.extract a b).size = b - a := by
  rw [ByteArray.size_extract]; omega
end Go.Proofs
namespace Go.Proofs
open Go Go.Al
theorem strOf_size_le (r : Int) : 1 ≤ (yF (v8 r)).size ∧ (yF (v8 r)).size ≤ 4 := by
  rw [ze]
  unfold v8
  (repeat' split)
  all_goals simp
def Dec (f : Int → Int) (n : Nat) : Prop := ∀ p : Int, 0 ≤ p → p < n → f p = 0 ∨ (1 ≤ f p ∧ p + f p ≤ n)
theorem dec_fM (s : ByteArray) : Dec (fM s) s.size := by
  intro p h0 h1
  unfold fM runeM
  have := lengthM_range (bAt s p)
  (repeat' split)
  all_goals (dsimp only; omega)
theorem dec_rF (s : ByteArray) : Dec (rF s) s.size := by
  intro p h0 h1
  unfold rF xo
  have := strOf_size_le (vY (s.extract p.toNat s.size))
  (repeat' split)
  all_goals (dsimp only; omega)
end Go.Proofs
namespace Go.Proofs
open Go Go.Al
theorem yQ (l : List UInt8) : (zx l).length = l.length := by simp [zx]
end Go.Proofs
namespace Go.Proofs
open Go Go.Al
theorem bits_and8 (a b : Int) (ha : 0 ≤ a ∧ a < 256) (hb : 0 ≤ b ∧ b < 256) : vd (· &&& ·) .u8 a b = ((a.toNat &&& b.toNat : Nat) : Int) := by
  have h1 : (BitVec.ofInt 8 a).toNat = a.toNat := by rw [BitVec.toNat_ofInt]; omega
  have h2 : (BitVec.ofInt 8 b).toNat = b.toNat := by rw [BitVec.toNat_ofInt]; omega
  show IntKind.u8.wrap ((BitVec.ofInt 8 a &&& BitVec.ofInt 8 b).toNat) = _
  rw [BitVec.toNat_and, h1, h2]
  have := @Nat.and_le_left a.toNat b.toNat
  exact wrap8 (by omega) (by omega)
theorem bits_or8 (a b : Int) (ha : 0 ≤ a ∧ a < 256) (hb : 0 ≤ b ∧ b < 256) : vd (· ||| ·) .u8 a b = ((a.toNat ||| b.toNat : Nat) : Int) := by
  have h1 : (BitVec.ofInt 8 a).toNat = a.toNat := by rw [BitVec.toNat_ofInt]; omega
  have h2 : (BitVec.ofInt 8 b).toNat = b.toNat := by rw [BitVec.toNat_ofInt]; omega
  show IntKind.u8.wrap ((BitVec.ofInt 8 a ||| BitVec.ofInt 8 b).toNat) = _
  rw [BitVec.toNat_or, h1, h2]
  have : a.toNat ||| b.toNat < 2 ^ 8 := Nat.or_lt_two_pow (by omega) (by omega)
  exact wrap8 (by omega) (by omega)
theorem bits_or32 (a b : Int) (ha : 0 ≤ a ∧ a < 1073741824) (hb : 0 ≤ b ∧ b < 1073741824) : vd (· ||| ·) .i32 a b = ((a.toNat ||| b.toNat : Nat) : Int) := by
  have h1 : (BitVec.ofInt 32 a).toNat = a.toNat := by rw [BitVec.toNat_ofInt]; omega
  have h2 : (BitVec.ofInt 32 b).toNat = b.toNat := by rw [BitVec.toNat_ofInt]; omega
  show IntKind.i32.wrap ((BitVec.ofInt 32 a ||| BitVec.ofInt 32 b).toNat) = _
  rw [BitVec.toNat_or, h1, h2]
  have : a.toNat ||| b.toNat < 2 ^ 30 := Nat.or_lt_two_pow (by omega) (by omega)
  exact zi (by omega) (by omega)
theorem bits_and32 (a b : Int) (ha : 0 ≤ a ∧ a < 1073741824) (hb : 0 ≤ b ∧ b < 1073741824) : vd (· &&& ·) .i32 a b = ((a.toNat &&& b.toNat : Nat) : Int) := by
  have h1 : (BitVec.ofInt 32 a).toNat = a.toNat := by rw [BitVec.toNat_ofInt]; omega
  have h2 : (BitVec.ofInt 32 b).toNat = b.toNat := by rw [BitVec.toNat_ofInt]; omega
  show IntKind.i32.wrap ((BitVec.ofInt 32 a &&& BitVec.ofInt 32 b).toNat) = _
  rw [BitVec.toNat_and, h1, h2]
  have := @Nat.and_le_left a.toNat b.toNat
  exact zi (by omega) (by omega)
theorem nat192 : ∀ b, b < 256 → ((b &&& 192) = 128 ↔ 128 ≤ b ∧ b < 192) := by decide +kernel
theorem nat63 (b : Nat) : (b &&& 63) = b % 64 := Nat.and_two_pow_sub_one_eq_mod b 6
theorem nator64 (a b : Nat) (h : b < 64) : a * 64 ||| b = a * 64 + b := by
  have := Nat.two_pow_add_eq_or_of_lt (i := 6) h a
  rw [Nat.mul_comm a 64]; exact this.symm
def isC (b : Int) : Prop := 128 ≤ b ∧ b < 192
theorem bad_iff (b : Int) (h : 0 ≤ b ∧ b < 256) : badM b = true ↔ ¬ isC b := by
  have := nat192 b.toNat (by omega)
  unfold badM isC
  rw [bits_and8 b 192 h (by omega), bne_iff_ne, ne_eq, show (192 : Int).toNat = 192 from rfl]
  constructor
  · intro h1 h2; exact h1 (by have := this.2 (by omega); omega)
  · intro h1 h2; exact h1 (by have := this.1 (by omega); omega)
theorem step_eq (r b : Int) (hr : 0 ≤ r ∧ r < 1000000) (hb : isC b) : stepM r b = 64 * r + (b - 128) := by
  unfold isC at hb
  unfold stepM
  have e1 : IntKind.i32.wrap (r * 2 ^ (min (6 : Int).toNat (IntKind.bits .i32))) = r * 64 := zi (n := r * 64) (by omega) (by omega)
  have e2 : vd (· &&& ·) .u8 b 63 = b - 128 := by
    rw [bits_and8 b 63 (by omega) (by omega), show (63 : Int).toNat = 63 from rfl, nat63]; omega
  rw [e1, e2, zi (by omega) (by omega), bits_or32 _ _ (by omega) (by omega)]
  have : (r * 64).toNat = r.toNat * 64 := by omega
  rw [this, nator64 _ _ (by omega)]
  omega
theorem r0_2 (c : Int) (h : 192 ≤ c ∧ c < 224) : r0M c 2 = c - 192 := by
  unfold r0M
  rw [zi (by omega) (by omega)]
  have e : ((127 : Int).fdiv (2 ^ (min (2 : Int).toNat (IntKind.bits .i32)))) = 31 := by decide
  rw [e, bits_and32 _ _ (by omega) (by omega), show (31 : Int).toNat = 31 from rfl, Nat.and_two_pow_sub_one_eq_mod c.toNat 5]
  omega
theorem r0_3 (c : Int) (h : 224 ≤ c ∧ c < 240) : r0M c 3 = c - 224 := by
  unfold r0M
  rw [zi (by omega) (by omega)]
  have e : ((127 : Int).fdiv (2 ^ (min (3 : Int).toNat (IntKind.bits .i32)))) = 15 := by decide
  rw [e, bits_and32 _ _ (by omega) (by omega), show (15 : Int).toNat = 15 from rfl, Nat.and_two_pow_sub_one_eq_mod c.toNat 4]
  omega
theorem r0_4 (c : Int) (h : 240 ≤ c ∧ c < 248) : r0M c 4 = c - 240 := by
  unfold r0M
  rw [zi (by omega) (by omega)]
  have e : ((127 : Int).fdiv (2 ^ (min (4 : Int).toNat (IntKind.bits .i32)))) = 7 := by decide
  rw [e, bits_and32 _ _ (by omega) (by omega), show (7 : Int).toNat = 7 from rfl, Nat.and_two_pow_sub_one_eq_mod c.toNat 3]
  omega
end Go.Proofs
namespace Go.Proofs
open Go Go.Al
instance (b : Int) : Decidable (isC b) := by unfold isC; infer_instance
def r3 (b0 b1 b2 : Int) : Int := 64 * (64 * (b0 - 224) + (b1 - 128)) + (b2 - 128)
def r4 (b0 b1 b2 b3 : Int) : Int := 64 * (64 * (64 * (b0 - 240) + (b1 - 128)) + (b2 - 128)) + (b3 - 128)
def ok2 (n b0 b1 : Int) : Prop := 194 ≤ b0 ∧ b0 < 224 ∧ 2 ≤ n ∧ isC b1
def ok3 (n b0 b1 b2 : Int) : Prop := 224 ≤ b0 ∧ b0 < 240 ∧ 3 ≤ n ∧ isC b1 ∧ isC b2 ∧ 2048 ≤ r3 b0 b1 b2 ∧ (r3 b0 b1 b2 < 55296 ∨ 57344 ≤ r3 b0 b1 b2)
def ok4 (n b0 b1 b2 b3 : Int) : Prop := 240 ≤ b0 ∧ b0 < 245 ∧ 4 ≤ n ∧ isC b1 ∧ isC b2 ∧ isC b3 ∧ 65536 ≤ r4 b0 b1 b2 b3 ∧ r4 b0 b1 b2 b3 < 1114112
instance (n b0 b1 : Int) : Decidable (ok2 n b0 b1) := by unfold ok2; infer_instance
instance (n b0 b1 b2 : Int) : Decidable (ok3 n b0 b1 b2) := by unfold ok3; infer_instance
instance (n b0 b1 b2 b3 : Int) : Decidable (ok4 n b0 b1 b2 b3) := by unfold ok4; infer_instance
def D4 (n b0 b1 b2 b3 : Int) : Int × Int :=
  if n < 1 then (0, 0) else if b0 < 128 then (b0, 1) else
  if ok2 n b0 b1 then (64 * (b0 - 192) + (b1 - 128), 2) else
  if ok3 n b0 b1 b2 then (r3 b0 b1 b2, 3) else
  if ok4 n b0 b1 b2 b3 then (r4 b0 b1 b2 b3, 4) else (0, 0)
def DS (s : ByteArray) (p : Int) : Int × Int := D4 (s.size - p) (bAt s p) (bAt s (p + 1)) (bAt s (p + 2)) (bAt s (p + 3))
theorem isM_iff (r : Int) : isM r = true ↔ (0 ≤ r ∧ r < 55296) ∨ (57344 ≤ r ∧ r < 1114112) := by simp [isM]
theorem isR_iff (r : Int) : isR r = true ↔ (0 ≤ r ∧ r < 55296) ∨ (57344 ≤ r ∧ r < 1114112) := by simp [isR]; omega
theorem isM_false {r : Int} (h : ¬ ((0 ≤ r ∧ r < 55296) ∨ (57344 ≤ r ∧ r < 1114112))) : isM r = false := by
  cases k : isM r
  · rfl
  · exact absurd ((isM_iff r).1 k) h
theorem len0 {c : Int} (h : 128 ≤ c ∧ c < 194 ∨ 245 ≤ c) : xi c = 0 := by unfold xi; (repeat' split) <;> omega
theorem len1 {c : Int} (h : c < 128) : xi c = 1 := by unfold xi; (repeat' split) <;> omega
theorem len2 {c : Int} (h : 194 ≤ c ∧ c < 224) : xi c = 2 := by unfold xi; (repeat' split) <;> omega
theorem len3 {c : Int} (h : 224 ≤ c ∧ c < 240) : xi c = 3 := by unfold xi; (repeat' split) <;> omega
theorem len4 {c : Int} (h : 240 ≤ c ∧ c < 245) : xi c = 4 := by unfold xi; (repeat' split) <;> omega
theorem loop1 (s : ByteArray) (p r : Int) (h : 0 ≤ r ∧ r < 1000000) (i : Int) (n : Nat) : u7 s p (n + 1) i r = if isC (bAt s (p + i)) then u7 s p n (i + 1) (64 * r + (bAt s (p + i) - 128)) else none := by
  have hb := vD s (p + i)
  have h1 := bad_iff _ hb
  rw [u7]
  by_cases hc : isC (bAt s (p + i))
  · rw [if_neg (by rw [h1]; exact fun h => h hc), if_pos hc, step_eq r _ h hc]
  · rw [if_pos (h1.2 hc), if_neg hc]
theorem rune_neg (s : ByteArray) (p : Int) (h : p < 0 ∨ s.size ≤ p) : runeM s p = (0, 0) := by unfold runeM; rw [if_pos (by omega)]
theorem rrune_neg (s : ByteArray) (p : Int) (h : p < 0 ∨ s.size ≤ p) : xo s p = (0, 0) := by unfold xo; rw [if_pos (by omega)]
theorem sS {n b0 b1 : Int} (h : ¬ (194 ≤ b0 ∧ b0 < 224 ∧ 2 ≤ n)) : ¬ ok2 n b0 b1 := fun ⟨a, b, c, _⟩ => h ⟨a, b, c⟩
theorem rz {n b0 b1 b2 : Int} (h : ¬ (224 ≤ b0 ∧ b0 < 240 ∧ 3 ≤ n)) : ¬ ok3 n b0 b1 b2 := fun ⟨a, b, c, _⟩ => h ⟨a, b, c⟩
theorem tl {n b0 b1 b2 b3 : Int} (h : ¬ (240 ≤ b0 ∧ b0 < 245 ∧ 4 ≤ n)) : ¬ ok4 n b0 b1 b2 b3 := fun ⟨a, b, c, _⟩ => h ⟨a, b, c⟩
theorem rune_D (s : ByteArray) (p : Int) (hp : 0 ≤ p) : runeM s p = DS s p := by
  unfold DS
  generalize hn : (s.size : Int) - p = n
  by_cases h1 : n < 1
  · rw [rune_neg s p (by omega)]; unfold D4; rw [if_pos h1]
  have hb := vD s p
  unfold runeM
  rw [if_neg (by omega), hn]
  unfold D4
  rw [if_neg h1]
  generalize hb0 : bAt s p = b0 at hb ⊢
  by_cases a1 : b0 < 128
  · rw [len1 a1, if_neg (by omega), if_pos rfl, if_pos a1, zi (by omega) (by omega)]
  rw [if_neg a1]
  by_cases a2 : b0 < 194
  · rw [len0 (by omega), if_pos (.inl rfl), if_neg (sS (by omega)), if_neg (rz (by omega)), if_neg (tl (by omega))]
  by_cases a3 : b0 < 224
  · rw [len2 (by omega)]
    by_cases c : n < 2
    · rw [if_pos (by omega), if_neg (sS (by omega)), if_neg (rz (by omega)), if_neg (tl (by omega))]
    rw [if_neg (by omega), if_neg (by decide), r0_2 _ (by omega), show ((2 : Int) - 1).toNat = 0 + 1 from rfl, loop1 _ _ _ (by omega)]
    by_cases c1 : isC (bAt s (p + 1))
    · have c1' := c1; unfold isC at c1'
      rw [if_pos c1]
      simp only [u7]
      rw [if_neg, if_pos ⟨by omega, by omega, by omega, c1⟩]
      have e1 : leastM 2 = 128 := rfl
      rw [e1]
      rintro (h | h)
      · omega
      · have := (isM_iff (64 * (b0 - 192) + (bAt s (p + 1) - 128))).2 (by omega); rw [this] at h; cases h
    · rw [if_neg c1, if_neg (fun h => c1 h.2.2.2), if_neg (rz (by omega)), if_neg (tl (by omega))]
  by_cases a4 : b0 < 240
  · rw [len3 (by omega), if_neg (sS (by omega))]
    by_cases c : n < 3
    · rw [if_pos (by omega), if_neg (rz (by omega)), if_neg (tl (by omega))]
    rw [if_neg (by omega), if_neg (by decide), r0_3 _ (by omega), show ((3 : Int) - 1).toNat = 0 + 1 + 1 from rfl, loop1 _ _ _ (by omega)]
    by_cases c1 : isC (bAt s (p + 1))
    · have c1' := c1; unfold isC at c1'
      rw [if_pos c1, loop1 _ _ _ (by omega), show p + (1 + 1) = p + 2 by omega]
      by_cases c2 : isC (bAt s (p + 2))
      · have c2' := c2; unfold isC at c2'
        rw [if_pos c2]
        simp only [u7]
        rw [show 64 * (64 * (b0 - 224) + (bAt s (p + 1) - 128)) + (bAt s (p + 2) - 128) = r3 b0 (bAt s (p + 1)) (bAt s (p + 2)) from rfl]
        have hr : r3 b0 (bAt s (p + 1)) (bAt s (p + 2)) = 64 * (64 * (b0 - 224) + (bAt s (p + 1) - 128)) + (bAt s (p + 2) - 128) := rfl
        have hm := isM_iff (r3 b0 (bAt s (p + 1)) (bAt s (p + 2)))
        have e1 : leastM 3 = 2048 := rfl
        rw [e1, if_neg (tl (by omega))]
        by_cases d : 2048 ≤ r3 b0 (bAt s (p + 1)) (bAt s (p + 2)) ∧ (r3 b0 (bAt s (p + 1)) (bAt s (p + 2)) < 55296 ∨ 57344 ≤ r3 b0 (bAt s (p + 1)) (bAt s (p + 2)))
        · rw [if_neg, if_pos (show ok3 _ _ _ _ from ⟨by omega, by omega, by omega, c1, c2, d⟩)]
          rintro (h | h)
          · omega
          · rw [hm.2 (by omega)] at h; cases h
        · rw [if_pos, if_neg (fun h => d h.2.2.2.2.2)]
          by_cases e : r3 b0 (bAt s (p + 1)) (bAt s (p + 2)) < 2048
          · exact .inl e
          · exact .inr (isM_false (by omega))
      · rw [if_neg c2, if_neg (fun h => c2 h.2.2.2.2.1), if_neg (tl (by omega))]
    · rw [if_neg c1, if_neg (fun h => c1 h.2.2.2.1), if_neg (tl (by omega))]
  rw [if_neg (sS (by omega)), if_neg (rz (by omega))]
  by_cases a5 : b0 < 245
  · rw [len4 (by omega)]
    by_cases c : n < 4
    · rw [if_pos (by omega), if_neg (tl (by omega))]
    rw [if_neg (by omega), if_neg (by decide), r0_4 _ (by omega), show ((4 : Int) - 1).toNat = 0 + 1 + 1 + 1 from rfl, loop1 _ _ _ (by omega)]
    by_cases c1 : isC (bAt s (p + 1))
    · have c1' := c1; unfold isC at c1'
      rw [if_pos c1, loop1 _ _ _ (by omega), show p + (1 + 1) = p + 2 by omega]
      by_cases c2 : isC (bAt s (p + 2))
      · have c2' := c2; unfold isC at c2'
        rw [if_pos c2, loop1 _ _ _ (by omega), show p + (1 + 1 + 1) = p + 3 by omega]
        by_cases c3 : isC (bAt s (p + 3))
        · have c3' := c3; unfold isC at c3'
          rw [if_pos c3]
          simp only [u7]
          rw [show 64 * (64 * (64 * (b0 - 240) + (bAt s (p + 1) - 128)) + (bAt s (p + 2) - 128)) + (bAt s (p + 3) - 128) = r4 b0 (bAt s (p + 1)) (bAt s (p + 2)) (bAt s (p + 3)) from rfl]
          have hr : r4 b0 (bAt s (p + 1)) (bAt s (p + 2)) (bAt s (p + 3)) = 64 * (64 * (64 * (b0 - 240) + (bAt s (p + 1) - 128)) + (bAt s (p + 2) - 128)) + (bAt s (p + 3) - 128) := rfl
          have hm := isM_iff (r4 b0 (bAt s (p + 1)) (bAt s (p + 2)) (bAt s (p + 3)))
          have e1 : leastM 4 = 65536 := rfl
          rw [e1]
          by_cases d : 65536 ≤ r4 b0 (bAt s (p + 1)) (bAt s (p + 2)) (bAt s (p + 3)) ∧ r4 b0 (bAt s (p + 1)) (bAt s (p + 2)) (bAt s (p + 3)) < 1114112
          · rw [if_neg, if_pos (show ok4 _ _ _ _ _ from ⟨by omega, by omega, by omega, c1, c2, c3, d⟩)]
            rintro (h | h)
            · omega
            · rw [hm.2 (by omega)] at h; cases h
          · rw [if_pos, if_neg (fun h => d h.2.2.2.2.2.2)]
            by_cases e : r4 b0 (bAt s (p + 1)) (bAt s (p + 2)) (bAt s (p + 3)) < 65536
            · exact .inl e
            · exact .inr (isM_false (by omega))
        · rw [if_neg c3, if_neg (fun h => c3 h.2.2.2.2.2.1)]
      · rw [if_neg c2, if_neg (fun h => c2 h.2.2.2.2.1)]
    · rw [if_neg c1, if_neg (fun h => c1 h.2.2.2.1)]
  · rw [len0 (by omega), if_pos (.inl rfl), if_neg (tl (by omega))]
end Go.Proofs
namespace Go.Proofs
open Go Go.Al
def valid (r : Int) : Prop := (0 ≤ r ∧ r < 55296) ∨ (57344 ≤ r ∧ r < 1114112)
def pb (n : Int) : List Int :=
  if n < 128 then [n] else
  if n < 2048 then [192 + n / 64, 128 + n % 64] else
  if n < 65536 then [224 + n / 4096, 128 + n / 64 % 64, 128 + n % 64] else
  [240 + n / 262144, 128 + n / 4096 % 64, 128 + n / 64 % 64, 128 + n % 64]
def Mat (s : ByteArray) : Int → List Int → Prop
  | _, [] => True
  | p, x :: xs => bAt s p = x ∧ Mat s (p + 1) xs
theorem enc_D4 {s : ByteArray} {p g : Int} (hv : valid g) (hm : Mat s p (pb g)) (hl : ((pb g).length : Int) ≤ s.size - p) : DS s p = (g, ((pb g).length : Int)) := by
  unfold valid at hv
  unfold pb at hm hl ⊢
  unfold DS D4
  by_cases a1 : g < 128
  · rw [if_pos a1] at *
    simp only [Mat, and_true] at hm
    simp only [List.length_cons, List.length_nil] at *
    rw [if_neg (by omega), if_pos (by omega), hm]; rfl
  rw [if_neg a1] at *
  by_cases a2 : g < 2048
  · rw [if_pos a2] at *
    simp only [Mat, and_true] at hm
    simp only [List.length_cons, List.length_nil] at *
    obtain ⟨m1, m2⟩ := hm
    rw [if_neg (by omega), if_neg (by omega), if_pos]
    · rw [m1, m2]; congr 1; omega
    · exact ⟨by omega, by omega, by omega, by unfold isC; omega⟩
  rw [if_neg a2] at *
  by_cases a3 : g < 65536
  · rw [if_pos a3] at *
    simp only [Mat, and_true] at hm
    simp only [List.length_cons, List.length_nil, show p + 1 + 1 = p + 2 by omega] at *
    obtain ⟨m1, m2, m3⟩ := hm
    have e : r3 (bAt s p) (bAt s (p + 1)) (bAt s (p + 2)) = g := by unfold r3; rw [m1, m2, m3]; omega
    rw [if_neg (by omega), if_neg (by omega), if_neg (sS (by omega)), if_pos]
    · rw [e]; rfl
    · exact ⟨by omega, by omega, by omega, by unfold isC; omega, by unfold isC; omega, by omega, by omega⟩
  rw [if_neg a3] at *
  simp only [Mat, and_true] at hm
  simp only [List.length_cons, List.length_nil, show p + 1 + 1 = p + 2 by omega, show p + 2 + 1 = p + 3 by omega] at *
  obtain ⟨m1, m2, m3, m4⟩ := hm
  have e : r4 (bAt s p) (bAt s (p + 1)) (bAt s (p + 2)) (bAt s (p + 3)) = g := by unfold r4; rw [m1, m2, m3, m4]; omega
  rw [if_neg (by omega), if_neg (by omega), if_neg (sS (by omega)), if_neg (rz (by omega)), if_pos]
  · rw [e]; rfl
  · exact ⟨by omega, by omega, by omega, by unfold isC; omega, by unfold isC; omega, by unfold isC; omega, by omega, by omega⟩
def gu (n b0 b1 b2 b3 : Int) : Int :=
  if b0 < 128 then b0 else
  if 240 ≤ b0 then (if n < 4 then -1 else r4 b0 b1 b2 b3) else
  if 224 ≤ b0 then (if n < 3 then -1 else r3 b0 b1 b2) else
  if n < 2 then -1 else 64 * (b0 - 192) + (b1 - 128)
theorem D4_enc {s : ByteArray} {p r k : Int} (hd : DS s p = (r, k)) (hk : k ≠ 0) :
    valid r ∧ Mat s p (pb r) ∧ k = (pb r).length ∧ k ≤ s.size - p ∧ gu (s.size - p) (bAt s p) (bAt s (p + 1)) (bAt s (p + 2)) (bAt s (p + 3)) = r := by
  have hb := vD s p
  unfold DS D4 at hd
  unfold gu valid
  split at hd
  · cases hd; exact absurd rfl hk
  rename_i h0
  split at hd
  · rename_i a1
    cases hd
    have e : pb (bAt s p) = [bAt s p] := by unfold pb; rw [if_pos a1]
    rw [e, if_pos a1]
    exact ⟨by omega, ⟨rfl, trivial⟩, rfl, by omega, rfl⟩
  rename_i a1
  split at hd
  · rename_i o
    obtain ⟨o1, o2, o3, o4⟩ := o
    unfold isC at o4
    cases hd
    have e : pb (64 * (bAt s p - 192) + (bAt s (p + 1) - 128)) = [bAt s p, bAt s (p + 1)] := by
      unfold pb; rw [if_neg (by omega), if_pos (by omega)]; congr 1
      · omega
      · congr 1; omega
    rw [e, if_neg a1, if_neg (by omega), if_neg (by omega), if_neg (by omega)]
    exact ⟨by omega, ⟨rfl, rfl, trivial⟩, rfl, by omega, rfl⟩
  split at hd
  · rename_i o
    obtain ⟨o1, o2, o3, o4, o5, o6, o7⟩ := o
    unfold isC at o4 o5
    cases hd
    have hr : r3 (bAt s p) (bAt s (p + 1)) (bAt s (p + 2)) = 64 * (64 * (bAt s p - 224) + (bAt s (p + 1) - 128)) + (bAt s (p + 2) - 128) := rfl
    have e : pb (r3 (bAt s p) (bAt s (p + 1)) (bAt s (p + 2))) = [bAt s p, bAt s (p + 1), bAt s (p + 2)] := by
      unfold pb; rw [if_neg (by omega), if_neg (by omega), if_pos (by omega)]; congr 1
      · omega
      · congr 1
        · omega
        · congr 1; omega
    rw [e, if_neg a1, if_neg (by omega), if_pos (by omega), if_neg (by omega)]
    exact ⟨by omega, ⟨rfl, rfl, by rw [show p + 1 + 1 = p + 2 by omega], trivial⟩, rfl, by omega, rfl⟩
  split at hd
  · rename_i o
    obtain ⟨o1, o2, o3, o4, o5, o6, o7, o8⟩ := o
    unfold isC at o4 o5 o6
    cases hd
    have hr : r4 (bAt s p) (bAt s (p + 1)) (bAt s (p + 2)) (bAt s (p + 3)) = 64 * (64 * (64 * (bAt s p - 240) + (bAt s (p + 1) - 128)) + (bAt s (p + 2) - 128)) + (bAt s (p + 3) - 128) := rfl
    have e : pb (r4 (bAt s p) (bAt s (p + 1)) (bAt s (p + 2)) (bAt s (p + 3))) = [bAt s p, bAt s (p + 1), bAt s (p + 2), bAt s (p + 3)] := by
      unfold pb; rw [if_neg (by omega), if_neg (by omega), if_neg (by omega)]; congr 1
      · omega
      · congr 1
        · omega
        · congr 1
          · omega
          · congr 1; omega
    rw [e, if_neg a1, if_pos (by omega), if_neg (by omega)]
    exact ⟨by omega, ⟨rfl, rfl, by rw [show p + 1 + 1 = p + 2 by omega], by rw [show p + 1 + 1 + 1 = p + 3 by omega], trivial⟩, rfl, by omega, rfl⟩
  · cases hd; exact absurd rfl hk
theorem DS_pos (s : ByteArray) (p : Int) : DS s p = (0, 0) ∨ (DS s p).2 ≠ 0 := by
  unfold DS D4
  (repeat' split)
  all_goals first | exact .inl rfl | exact .inr (by dsimp only; omega)
end Go.Proofs
namespace Go.Proofs
open Go Go.Al
theorem rC {n : Int} (h : 0 ≤ n ∧ n < 256) : IntKind.u8.wrap n = n := wrap8 h.1 h.2
theorem jM {r : Int} (h : 0 ≤ r ∧ r < 1114112) : v8 r = (pb r).map ofI := by
  have hw : w64 r = r := zO (by omega) (by omega)
  have q1 : ∀ d : Int, 0 < d → r.tdiv d = r / d := fun d _ => Int.tdiv_eq_ediv_of_nonneg h.1
  have m1 : ∀ x : Int, 0 ≤ x → x.tmod 64 = x % 64 := fun x hx => Int.tmod_eq_emod_of_nonneg hx
  have top : ∀ (k d : Int), 0 < d → 0 ≤ k → k + r / d < 256 → topM k r d = ofI (k + r / d) := by
    intro k d hd hk hlt
    have hq : 0 ≤ r / d := Int.ediv_nonneg h.1 (by omega)
    unfold topM w64
    rw [q1 d hd, zO (n := r / d) (by omega) (by omega), zO (by omega) (by omega), rC (by omega)]
  have mid : ∀ d : Int, 0 < d → midM r d = ofI (128 + r / d % 64) := by
    intro d hd
    have hq : 0 ≤ r / d := Int.ediv_nonneg h.1 (by omega)
    have hle : r / d ≤ r := Int.ediv_le_self _ h.1
    unfold midM w64
    rw [q1 d hd, zO (n := r / d) (by omega) (by omega), m1 _ hq, zO (by omega) (by omega), rC (by omega)]
  have low : lowM r = ofI (128 + r % 64) := by
    unfold lowM w64
    rw [m1 _ h.1, zO (by omega) (by omega), rC (by omega)]
  unfold v8 pb
  rw [hw]
  by_cases a1 : r < 128
  · rw [if_pos a1, if_pos a1, rC (by omega)]; rfl
  rw [if_neg a1, if_neg a1]
  by_cases a2 : r < 2048
  · rw [if_pos a2, if_pos a2, top 192 64 (by omega) (by omega) (by omega), low]; rfl
  rw [if_neg a2, if_neg a2]
  by_cases a3 : r < 65536
  · rw [if_pos a3, if_pos a3, top 224 4096 (by omega) (by omega) (by omega), low, mid 64 (by omega)]; rfl
  rw [if_neg a3, if_neg a3, top 240 262144 (by omega) (by omega) (by omega), low, mid 64 (by omega), mid 4096 (by omega)]; rfl
theorem pb_range {r : Int} (h : 0 ≤ r ∧ r < 1114112) : ∀ x ∈ pb r, 0 ≤ x ∧ x < 256 := by
  intro x hx
  unfold pb at hx
  (repeat' split at hx) <;> simp only [List.mem_cons, List.not_mem_nil, or_false] at hx <;> omega
theorem pb_len (r : Int) : 1 ≤ (pb r).length ∧ (pb r).length ≤ 4 := by
  unfold pb
  (repeat' split) <;> simp
theorem drop_bAt (s : ByteArray) (p : Int) (h0 : 0 ≤ p) (h1 : p < s.size) : s.data.toList.drop p.toNat = s.data.toList.getD p.toNat 0 :: s.data.toList.drop (p + 1).toNat := by
  have hl : p.toNat < s.data.toList.length := by
    have : s.data.toList.length = s.size := by simp
    omega
  rw [List.drop_eq_getElem_cons hl, show (p + 1).toNat = p.toNat + 1 by omega, List.getD_eq_getElem?_getD, List.getElem?_eq_getElem hl, Option.getD_some]
theorem mat_iff (s : ByteArray) : ∀ (l : List Int) (p : Int), 0 ≤ p → p + l.length ≤ s.size → (∀ x ∈ l, 0 ≤ x ∧ x < 256) →
    ((s.data.toList.drop p.toNat).take l.length = l.map ofI ↔ Mat s p l)
  | [], p, _, _, _ => by simp [Mat]
  | x :: l, p, h0, h1, hr => by
    simp only [List.length_cons] at h1
    have ih := mat_iff s l (p + 1) (by omega) (by omega) (fun y hy => hr y (List.mem_cons_of_mem _ hy))
    rw [drop_bAt s p h0 (by omega), List.length_cons, List.take_succ_cons, List.map_cons, List.cons.injEq, ih]
    simp only [Mat]
    have hx := hr x List.mem_cons_self
    refine and_congr_left fun _ => ?_
    unfold bAt
    constructor
    · intro e; rw [e]; exact ofI_toNat hx
    · intro e; unfold ofI; rw [← e, Int.toNat_natCast, UInt8.ofNat_toNat]
theorem ex_list (s : ByteArray) (a b : Nat) : (s.extract a b).data.toList = (s.data.toList.take b).drop a := by
  rw [ByteArray.data_extract, Array.toList_extract]
  simp [List.extract_eq_take_drop, List.drop_take]
theorem ex_strOf (s : ByteArray) (p : Int) (l : List Int) (h0 : 0 ≤ p) (h1 : p + l.length ≤ s.size) (hr : ∀ x ∈ l, 0 ≤ x ∧ x < 256) :
    s.extract p.toNat (p + l.length).toNat = yF (l.map ofI) ↔ Mat s p l := by
  rw [← mat_iff s l p h0 h1 hr]
  have e : (s.extract p.toNat (p + l.length).toNat).data.toList = (s.data.toList.drop p.toNat).take l.length := by
    rw [ex_list, List.drop_take, show (p + (l.length : Int)).toNat - p.toNat = l.length by omega]
  constructor
  · intro h; rw [← e, h, xU]
  · intro h; exact sZ (by rw [e, h, xU])
theorem bAt_ex (s : ByteArray) (p i : Int) (h0 : 0 ≤ p) (h1 : p < s.size) (hi : 0 ≤ i) : bAt (s.extract p.toNat s.size) i = bAt s (p + i) := by
  unfold bAt
  rw [ex_list, List.take_of_length_le (by simp)]
  simp only [List.getD_eq_getElem?_getD, List.getElem?_drop]
  rw [show p.toNat + i.toNat = (p + i).toNat by omega]
theorem guess_gu (s : ByteArray) (p : Int) (h0 : 0 ≤ p) (h1 : p < s.size) : vY (s.extract p.toNat s.size) = gu (s.size - p) (bAt s p) (bAt s (p + 1)) (bAt s (p + 2)) (bAt s (p + 3)) := by
  have b0 := bAt_ex s p 0 h0 h1 (by omega)
  have b1 := bAt_ex s p 1 h0 h1 (by omega)
  have b2 := bAt_ex s p (1 + 1) h0 h1 (by omega)
  have b3 := bAt_ex s p (1 + 1 + 1) h0 h1 (by omega)
  rw [Int.add_zero] at b0
  rw [show p + (1 + 1) = p + 2 by omega] at b2
  rw [show p + (1 + 1 + 1) = p + 3 by omega] at b3
  have hs : ((s.extract p.toNat s.size).size : Int) = s.size - p := by rw [ex_size _ _ _ (Nat.le_refl _)]; omega
  unfold vY gu
  simp only [xV, b0, b1, b2, b3, hs, ge_iff_le]
  generalize (s.size : Int) - p = n
  by_cases a1 : bAt s p < 128
  · rw [if_pos a1, if_pos a1]
  rw [if_neg a1, if_neg a1]
  by_cases a2 : 240 ≤ bAt s p
  · rw [if_pos a2, if_pos a2]
    by_cases c1 : n ≤ 1
    · rw [if_pos c1, if_pos (by omega)]
    rw [if_neg c1]
    by_cases c2 : n ≤ 1 + 1
    · rw [if_pos c2, if_pos (by omega)]
    rw [if_neg c2]
    by_cases c3 : n ≤ 1 + 1 + 1
    · rw [if_pos c3, if_pos (by omega)]
    rw [if_neg c3, if_neg (by omega)]
    unfold r4; omega
  rw [if_neg a2, if_neg a2]
  by_cases a3 : 224 ≤ bAt s p
  · rw [if_pos a3, if_pos a3]
    by_cases c1 : n ≤ 1
    · rw [if_pos c1, if_pos (by omega)]
    rw [if_neg c1]
    by_cases c2 : n ≤ 1 + 1
    · rw [if_pos c2, if_pos (by omega)]
    rw [if_neg c2, if_neg (by omega)]
    unfold r3; omega
  rw [if_neg a3, if_neg a3]
  by_cases c1 : n ≤ 1
  · rw [if_pos c1, if_pos (by omega)]
  rw [if_neg c1, if_neg (by omega)]
  omega
theorem sp (l : List Int) : (yF (l.map ofI)).size = l.length := by rw [ze, List.length_map]
theorem rrune_D (s : ByteArray) (p : Int) (hp : 0 ≤ p) : xo s p = DS s p := by
  by_cases h1 : (s.size : Int) ≤ p
  · rw [rrune_neg s p (.inr h1)]; unfold DS D4; rw [if_pos (by omega)]
  have hg := guess_gu s p hp (by omega)
  unfold xo
  rw [if_neg (by omega), hg]
  rcases DS_pos s p with h0 | h0
  · rw [h0]
    generalize gu (s.size - p) (bAt s p) (bAt s (p + 1)) (bAt s (p + 2)) (bAt s (p + 3)) = g
    by_cases v : g < 0 ∨ g > 1114111 ∨ isR g = false
    · rw [if_pos v]
    rw [if_neg v]
    have hv : valid g := by
      refine (isR_iff g).1 ?_
      cases h : isR g
      · exact absurd (.inr (.inr h)) v
      · rfl
    have hr : 0 ≤ g ∧ g < 1114112 := by unfold valid at hv; omega
    rw [jM hr, sp]
    refine if_pos ?_
    by_cases hl : ((pb g).length : Int) > s.size - p
    · exact .inl hl
    · refine .inr fun he => ?_
      have := enc_D4 hv ((ex_strOf s p (pb g) hp (by omega) (pb_range hr)).1 he) (by omega)
      rw [h0] at this
      have h2 := pb_len g
      have h3 := congrArg Prod.snd this
      dsimp only at h3
      omega
  · obtain ⟨hv, hm, hk, hl, hu⟩ := D4_enc (s := s) (p := p) (r := (DS s p).1) (k := (DS s p).2) rfl h0
    rw [hu]
    have hr : 0 ≤ (DS s p).1 ∧ (DS s p).1 < 1114112 := by unfold valid at hv; omega
    rw [if_neg (by
      rintro (h | h | h)
      · omega
      · omega
      · rw [(isR_iff _).2 hv] at h; cases h), jM hr, sp, if_neg (by
      rintro (h | h)
      · omega
      · exact h ((ex_strOf s p _ hp (by omega) (pb_range hr)).2 hm)), ← hk]
theorem rune_eq (s : ByteArray) (p : Int) : xo s p = runeM s p := by
  by_cases hp : 0 ≤ p
  · rw [rrune_D s p hp, rune_D s p hp]
  · rw [rune_neg s p (.inl (by omega)), rrune_neg s p (.inl (by omega))]
theorem rF_eq (s : ByteArray) : rF s = fM s := by funext p; unfold rF fM; rw [rune_eq]
end Go.Proofs
namespace Go.Proofs
open Go Go.Al
theorem f_out (s : ByteArray) (p : Int) (h : p < 0 ∨ s.size ≤ p) : fM s p = 0 := by unfold fM; rw [rune_neg s p h]
theorem f_pos (s : ByteArray) (p : Int) (h : fM s p ≠ 0) : 0 ≤ p ∧ p < s.size ∧ 1 ≤ fM s p ∧ p + fM s p ≤ s.size := by
  by_cases hp : p < 0 ∨ s.size ≤ p
  · exact absurd (f_out s p hp) h
  · have := dec_fM s p (by omega) (by omega)
    omega
inductive Path (f : Int → Int) : Int → Int → Int → Prop
  | refl (p : Int) : Path f p p 0
  | step {p q c : Int} (h : f p ≠ 0) (k : Path f (p + f p) q c) : Path f p q (c + 1)
theorem Path.trans {f : Int → Int} {p q r c d : Int} (h : Path f p q c) (k : Path f q r d) : Path f p r (c + d) := by
  induction h with
  | refl => rw [Int.zero_add]; exact k
  | @step p q c h _ ih => have := Path.step h (ih k); rw [show c + 1 + d = c + d + 1 by omega]; exact this
theorem Path.first {f : Int → Int} {p q c : Int} (h : Path f p q c) (hn : p ≠ q) : f p ≠ 0 ∧ ∃ d, Path f (p + f p) q d := by
  cases h with
  | refl => exact absurd rfl hn
  | step h k => exact ⟨h, _, k⟩
theorem goM_path (s : ByteArray) : ∀ (m : Nat) (p c : Int), 0 ≤ p → p ≤ s.size → (s.size : Int) < p + m → ∃ d, Path (fM s) p (goM (fM s) s.size m p c).1 d ∧ (goM (fM s) s.size m p c).2 = c + d ∧ fM s (goM (fM s) s.size m p c).1 = 0 ∧ p ≤ (goM (fM s) s.size m p c).1 ∧ (goM (fM s) s.size m p c).1 ≤ s.size
  | 0, p, c, h0, h1, h2 => by omega
  | m + 1, p, c, h0, h1, h2 => by
    rw [goM]
    split
    · split
      · rename_i hf
        exact ⟨0, .refl p, by dsimp only; omega, hf, Int.le_refl _, h1⟩
      · rename_i hf
        have := f_pos s p hf
        obtain ⟨d, a1, a2, a3, a4, a5⟩ := goM_path s m (p + fM s p) (c + 1) (by omega) (by omega) (by omega)
        exact ⟨d + 1, .step hf a1, by omega, a3, by omega, a5⟩
    · exact ⟨0, .refl p, by dsimp only; omega, f_out s p (by omega), Int.le_refl _, h1⟩
theorem Path.uniq {f : Int → Int} {p q r c d : Int} (h : Path f p q c) (k : Path f p r d) (hq : f q = 0) (hr : f r = 0) : q = r ∧ c = d := by
  induction h generalizing d with
  | refl p => cases k with
    | refl => exact ⟨rfl, rfl⟩
    | step h _ => exact absurd hq h
  | step h _ ih => cases k with
    | refl => exact absurd hr h
    | step _ k => obtain ⟨a, b⟩ := ih k hq; exact ⟨a, by rw [b]⟩
theorem u3 (s : ByteArray) : Path (fM s) 0 (endM s).1 (endM s).2 ∧ fM s (endM s).1 = 0 ∧ 0 ≤ (endM s).1 ∧ (endM s).1 ≤ s.size := by
  obtain ⟨d, a1, a2, a3, a4, a5⟩ := goM_path s (s.size + 1) 0 0 (by omega) (by omega) (by omega)
  have : (endM s).2 = d := by unfold endM; omega
  rw [this]
  exact ⟨a1, a3, a4, a5⟩
theorem end_iff (s : ByteArray) (c : Int) : Path (fM s) 0 s.size c → (endM s) = ((s.size : Int), c) := by
  intro h
  obtain ⟨a, b⟩ := Path.uniq h (u3 s).1 (f_out s _ (by omega)) (u3 s).2.1
  exact Prod.ext a.symm b.symm
theorem rEnd_eq (s : ByteArray) : rEnd s = endM s := by unfold rEnd endM; rw [rF_eq]
theorem check_eq (s : ByteArray) : wv s = ru s := by
  have := u3 s
  unfold wv ru
  rw [rEnd_eq]
  split <;> split <;> omega
theorem sd (s : ByteArray) : wv s = -1 ↔ (endM s).1 = s.size := by
  have := u3 s
  unfold wv
  split <;> omega
theorem D4_same {n n' b0 b1 b2 b3 c1 c2 c3 : Int} (h : (D4 n b0 b1 b2 b3).2 ≠ 0) (hn : (D4 n b0 b1 b2 b3).2 ≤ n') (h1 : 1 < (D4 n b0 b1 b2 b3).2 → b1 = c1) (h2 : 2 < (D4 n b0 b1 b2 b3).2 → b2 = c2) (h3 : 3 < (D4 n b0 b1 b2 b3).2 → b3 = c3) :
    D4 n' b0 c1 c2 c3 = D4 n b0 b1 b2 b3 := by
  unfold D4 at h hn h1 h2 h3 ⊢
  by_cases a0 : n < 1
  · rw [if_pos a0] at h; exact absurd rfl h
  rw [if_neg a0] at *
  by_cases a1 : b0 < 128
  · rw [if_pos a1] at *; dsimp only at hn; rw [if_neg (by omega), if_pos a1]
  rw [if_neg a1] at *
  by_cases a2 : ok2 n b0 b1
  · rw [if_pos a2] at *
    dsimp only at hn h1
    obtain ⟨o1, o2, o3, o4⟩ := a2
    rw [if_neg (by omega), if_neg a1, ← h1 (by omega), if_pos ⟨o1, o2, hn, o4⟩]
  rw [if_neg a2] at *
  by_cases a3 : ok3 n b0 b1 b2
  · rw [if_pos a3] at *
    dsimp only at hn h1 h2
    obtain ⟨o1, o2, o3, o4⟩ := a3
    rw [if_neg (by omega), if_neg a1, ← h1 (by omega), ← h2 (by omega), if_neg (sS (by omega)), if_pos ⟨o1, o2, hn, o4⟩]
  rw [if_neg a3] at *
  by_cases a4 : ok4 n b0 b1 b2 b3
  · rw [if_pos a4] at *
    dsimp only at hn h1 h2 h3
    obtain ⟨o1, o2, o3, o4⟩ := a4
    rw [if_neg (by omega), if_neg a1, ← h1 (by omega), ← h2 (by omega), ← h3 (by omega), if_neg (sS (by omega)), if_neg (rz (by omega)), if_pos ⟨o1, o2, hn, o4⟩]
  · rw [if_neg a4] at h; exact absurd rfl h
theorem DS_same {s t : ByteArray} {p q : Int} (h : (DS s p).2 ≠ 0) (hn : (DS s p).2 ≤ t.size - q) (hb : ∀ i, 0 ≤ i → i < (DS s p).2 → bAt s (p + i) = bAt t (q + i)) : DS t q = DS s p := by
  have hk : 1 ≤ (DS s p).2 := by
    rcases DS_pos s p with e | e
    · rw [e] at h; exact absurd rfl h
    · have := (D4_enc (s := s) (p := p) (r := (DS s p).1) (k := (DS s p).2) rfl e).2.2.1
      have := (pb_len (DS s p).1).1; omega
  have e0 := hb 0 (by omega) (by omega)
  rw [Int.add_zero, Int.add_zero] at e0
  unfold DS at *
  rw [← e0]
  exact D4_same h hn (fun h => hb 1 (by omega) h) (fun h => hb 2 (by omega) h) (fun h => hb 3 (by omega) h)
theorem fM_DS (s : ByteArray) (p : Int) (h : 0 ≤ p) : fM s p = (DS s p).2 := by unfold fM; rw [rune_D s p h]
theorem f_same {s t : ByteArray} {p q : Int} (h0 : 0 ≤ p) (h1 : 0 ≤ q) (h : fM s p ≠ 0) (hn : fM s p ≤ t.size - q) (hb : ∀ i, 0 ≤ i → i < fM s p → bAt s (p + i) = bAt t (q + i)) : fM t q = fM s p := by
  rw [fM_DS s p h0] at *
  rw [fM_DS t q h1, DS_same h hn hb]
theorem path_le {s : ByteArray} {p q c : Int} (h : Path (fM s) p q c) : p ≤ q ∧ 0 ≤ c := by
  induction h with
  | refl => exact ⟨Int.le_refl _, Int.le_refl _⟩
  | step h _ ih => have := f_pos s _ h; omega
theorem Path.comp {s : ByteArray} {p q r c d : Int} (h : Path (fM s) p q c) (k : Path (fM s) p r d) (hle : q ≤ r) : ∃ e, Path (fM s) q r e := by
  induction h generalizing d with
  | refl p => exact ⟨d, k⟩
  | step h k' ih =>
    cases k with
    | refl => have := f_pos s _ h; have := path_le k'; omega
    | step _ k => exact ih k hle
end Go.Proofs
namespace Go.Proofs
open Go Go.Al
theorem zo (s t : ByteArray) : (s ++ t).size = s.size + t.size := ByteArray.size_append
theorem sy (s t : ByteArray) : (s ++ t).data.toList = s.data.toList ++ t.data.toList := ByteArray.toList_data_append
theorem len_list (s : ByteArray) : s.data.toList.length = s.size := by simp
theorem bAt_app1 (s t : ByteArray) (i : Int) (h : i < s.size) (h0 : 0 ≤ i) : bAt (s ++ t) i = bAt s i := by
  unfold bAt
  rw [sy]
  have := len_list s
  simp only [List.getD_eq_getElem?_getD]
  rw [List.getElem?_append_left (by omega)]
theorem bAt_app2 (s t : ByteArray) (i : Int) (h0 : 0 ≤ i) : bAt (s ++ t) (s.size + i) = bAt t i := by
  unfold bAt
  rw [sy]
  have := len_list s
  simp only [List.getD_eq_getElem?_getD]
  rw [List.getElem?_append_right (by omega)]
  congr 4; omega
theorem path_app1 {s t : ByteArray} {p q c : Int} (h : Path (fM s) p q c) : Path (fM (s ++ t)) p q c := by
  induction h with
  | refl p => exact .refl p
  | @step p q c h k ih =>
    have h2 := f_pos s _ h
    have := zo s t
    have e := f_same (s := s) (t := s ++ t) (p := p) (q := p) h2.1 h2.1 h (by omega) (fun i a b => (bAt_app1 s t _ (by omega) (by omega)).symm)
    refine .step (by rw [e]; exact h) ?_
    rw [e]; exact ih
theorem path_app2 {s t : ByteArray} {p q c : Int} (h : Path (fM t) p q c) : Path (fM (s ++ t)) (s.size + p) (s.size + q) c := by
  induction h with
  | refl p => exact .refl _
  | @step p q c h k ih =>
    have h2 := f_pos t _ h
    have := zo s t
    have e := f_same (s := t) (t := s ++ t) (p := p) (q := s.size + p) h2.1 (by omega) h (by omega) (fun i a b => by rw [Int.add_assoc]; exact (bAt_app2 s t _ (by omega)).symm)
    refine .step (by rw [e]; exact h) ?_
    rw [e, Int.add_assoc]; exact ih
theorem joins1 (s t : ByteArray) (hs : wv s = -1) (ht : wv t = -1) : wv (s ++ t) = -1 ∧ rS (s ++ t) = rS s + rS t ∧ 0 ≤ rS s ∧ rS s ≤ s.size ∧ 0 ≤ rS t ∧ rS t ≤ t.size := by
  have a1 := (sd s).1 hs
  have a2 := (sd t).1 ht
  have p1 := (u3 s).1
  have p2 := (u3 t).1
  rw [a1] at p1
  rw [a2] at p2
  have h3 := (path_app1 (t := t) p1).trans (by have := path_app2 (s := s) p2; rwa [Int.add_zero] at this)
  have hz : ((s ++ t).size : Int) = s.size + t.size := by rw [zo]; omega
  rw [← hz] at h3
  have he := end_iff _ _ h3
  have cnt : ∀ u : ByteArray, (endM u).1 = u.size → rS u = (endM u).2 := fun u h => by unfold rS; rw [if_neg (by omega)]
  have e1 : (endM (s ++ t)).1 = (s ++ t).size := by rw [he]
  have bound : ∀ {u : ByteArray} {p q c : Int}, Path (fM u) p q c → 0 ≤ c ∧ c ≤ q - p := by
    intro u p q c h
    induction h with
    | refl => omega
    | step h _ ih => have := f_pos u _ h; omega
  have b1 := bound p1
  have b2 := bound p2
  refine ⟨(sd _).2 e1, ?_, ?_, ?_, ?_, ?_⟩
  · rw [cnt _ e1, cnt _ a1, cnt _ a2, he]
  · rw [cnt _ a1]; omega
  · rw [cnt _ a1]; omega
  · rw [cnt _ a2]; omega
  · rw [cnt _ a2]; omega
theorem nator (i a b : Nat) (h : b < 2 ^ i) : 2 ^ i * a ||| b = 2 ^ i * a + b := (Nat.two_pow_add_eq_or_of_lt h a).symm
theorem contM_eq (n : Int) (h : 0 ≤ n) : contM n = 128 + n % 64 := by
  unfold contM
  have hw : IntKind.u8.wrap n = n % 256 := by
    simp only [IntKind.wrap, IntKind.bits, IntKind.signed, Bool.false_and, Bool.false_eq_true, if_false]; rfl
  have e2 : vd (· &&& ·) .u8 (IntKind.u8.wrap n) 63 = n % 64 := by
    rw [hw, bits_and8 _ 63 (by omega) (by omega), show (63 : Int).toNat = 63 from rfl, nat63]; omega
  rw [e2, bits_or8 _ _ (by omega) (by omega), show (128 : Int).toNat = 2 ^ 6 * 2 from rfl, nator 6 2 _ (by omega)]
  omega
theorem fdiv_pos (a b : Int) (h : 0 < b) : a.fdiv b = a / b := Int.fdiv_eq_ediv_of_nonneg a (by omega)
theorem sz1 {r : Int} (h : r < 128) : jb r = 1 := by unfold jb; rw [if_pos h]
theorem sz2 {r : Int} (h : 128 ≤ r ∧ r < 2048) : jb r = 2 := by unfold jb; rw [if_neg (by omega), if_pos (by omega)]
theorem sz3 {r : Int} (h : 2048 ≤ r ∧ r < 65536) : jb r = 3 := by unfold jb; rw [if_neg (by omega), if_neg (by omega), if_pos (by omega)]
theorem sz4 {r : Int} (h : 65536 ≤ r) : jb r = 4 := by unfold jb; rw [if_neg (by omega), if_neg (by omega), if_neg (by omega)]
theorem head_eq (r k top : Int) (d : Nat) (m i : Nat) (h : 0 ≤ r) (h1 : IntKind.u8.wrap (240 * 2 ^ (min (w64 (4 - k)).toNat (IntKind.bits .u8))) = top) (h2 : min (w64 (6 * w64 (k - 1))).toNat (IntKind.bits .i32) = d) (ht : top = ((2 ^ i * m : Nat) : Int)) (hlt : r / 2 ^ d < 2 ^ i) (hi : 2 ^ i ≤ 64) (hm : 2 ^ i * m < 192 + 64) :
    headM r k = top + r / 2 ^ d := by
  unfold headM
  have hp : (0 : Int) < 2 ^ d := by have := Nat.two_pow_pos d; exact_mod_cast this
  have hq : 0 ≤ r / 2 ^ d := Int.ediv_nonneg h (by omega)
  have hc : ((2 : Int) ^ i) = ((2 ^ i : Nat) : Int) := by simp
  rw [hc] at hlt
  rw [h1, h2, fdiv_pos _ _ hp, rC (by omega), bits_or8 _ _ (by omega) (by omega), ht, Int.toNat_natCast, nator i m _ (by omega)]
  omega
theorem bytesP_pb {r : Int} (hv : valid r) : bytesP r = (pb r).map ofI := by
  unfold valid at hv
  unfold bytesP pb
  have c := contM_eq r (by omega)
  have c6 : contM (r.fdiv (2 ^ (min (6 : Int).toNat (IntKind.bits .i32)))) = 128 + r / 64 % 64 := by
    rw [show ((2 : Int) ^ (min (6 : Int).toNat (IntKind.bits .i32))) = 64 from rfl, fdiv_pos _ _ (by omega), contM_eq _ (by omega)]
  have c12 : contM (r.fdiv (2 ^ (min (12 : Int).toNat (IntKind.bits .i32)))) = 128 + r / 4096 % 64 := by
    rw [show ((2 : Int) ^ (min (12 : Int).toNat (IntKind.bits .i32))) = 4096 from rfl, fdiv_pos _ _ (by omega), contM_eq _ (by omega)]
  by_cases a1 : r < 128
  · rw [sz1 a1, if_pos rfl, if_pos a1, rC (by omega)]; rfl
  rw [if_neg a1]
  by_cases a2 : r < 2048
  · rw [sz2 (by omega), if_neg (by decide), if_pos rfl, if_pos a2, c, head_eq r 2 192 6 3 6 (by omega) (by decide) (by decide) (by decide) (by omega) (by decide) (by decide)]; rfl
  rw [if_neg a2]
  by_cases a3 : r < 65536
  · rw [sz3 (by omega), if_neg (by decide), if_neg (by decide), if_pos rfl, if_pos a3, c, c6, head_eq r 3 224 12 7 5 (by omega) (by decide) (by decide) (by decide) (by omega) (by decide) (by decide)]; rfl
  rw [if_neg a3, sz4 (by omega), if_neg (by decide), if_neg (by decide), if_neg (by decide), c, c6, c12, head_eq r 4 240 18 15 4 (by omega) (by decide) (by decide) (by decide) (by omega) (by decide) (by decide)]; rfl
theorem mat_app (s : ByteArray) : ∀ (l : List Int) (p : Int) (t u : ByteArray), s = t ++ yF (l.map ofI) ++ u → p = t.size → (∀ x ∈ l, 0 ≤ x ∧ x < 256) → Mat s p l := by
  intro l p t u hs hp hr
  have hz : s.size = t.size + l.length + u.size := by rw [hs, zo, zo, sp]
  refine (mat_iff s l p (by omega) (by omega) hr).1 ?_
  rw [hs, sy, sy, xU, hp, Int.toNat_natCast, List.append_assoc, List.drop_append, List.drop_eq_nil_of_le (by rw [len_list]; omega), len_list]
  simp
theorem back (p : ByteArray) (r : Int) (u : ByteArray) (hv : isM r = true) :
    yF (putM p.data.toList r) = p ++ yF (v8 r) ∧ runeM (yF (putM p.data.toList r) ++ u) p.size = (r, ((yF (putM p.data.toList r)).size : Int) - p.size) := by
  have hv' := (isM_iff r).1 hv
  have h1 : yF (putM p.data.toList r) = p ++ yF (v8 r) := by
    refine sZ ?_
    rw [xU, sy, xU]
    unfold putM
    rw [if_pos hv, bytesP_pb hv', jM (by omega)]
  refine ⟨h1, ?_⟩
  rw [h1, rune_D _ _ (by omega), jM (by omega)]
  have hz : ((p ++ yF ((pb r).map ofI)).size : Int) - p.size = (pb r).length := by rw [zo, sp]; omega
  rw [hz]
  refine enc_D4 hv' (mat_app _ (pb r) _ p u rfl rfl (pb_range (by omega))) ?_
  rw [zo, zo, sp]; omega
end Go.Proofs
namespace Go.Proofs
open Go Go.Al
def uJ (v : GV) : Bool :=
  (v.kind == 1 || v.kind == 5 || decide (v.text.size = 0)) && (v.kind == 2 || v.kind == 3 || v.num == 0) && (v.kind == 4 || v.bits == 0) && (v.kind == 6 || v.list.isEmpty) && (v.kind == 7 || v.map.isEmpty)
def keyC (k : ByteArray) : Int := if k.size = 0 then 9 else if wv k ≠ -1 then 5 else if 64 < k.size then 35 else 0
def orC (a b : Int) : Int := if a ≠ 0 then a else b
def sE (prev : Option ByteArray) (k : ByteArray) : Bool := match prev with | some p => !(ltB p k) | none => false
mutual
def y9 (d : Int) : GV → Int
  | .mk k t n b l m =>
    if 7 < k then 7
    else if uJ (.mk k t n b l m) = false then 3
    else if 6 ≤ k ∧ 16 ≤ d then 33
    else if k = 1 ∧ wv t ≠ -1 then 5
    else if k = 2 ∧ n ≠ 0 ∧ n ≠ 1 then 4
    else orC (vo (d + 1) l) (entC (d + 1) none m)
def vo (d : Int) : List GV → Int
  | [] => 0
  | x :: xs => orC (y9 d x) (vo d xs)
def checkA (d : Int) : GA → Int
  | .mk _ v => y9 d v
def entC (d : Int) (prev : Option ByteArray) : List GA → Int
  | [] => 0
  | x :: xs => orC (keyC x.key) (if sE prev x.key then 12 else orC (checkA d x) (entC d (some x.key) xs))
end
theorem z8 (d : Int) (g : GV) : y9 d g = if 7 < g.kind then 7 else if uJ g = false then 3 else if 6 ≤ g.kind ∧ 16 ≤ d then 33 else if g.kind = 1 ∧ wv g.text ≠ -1 then 5
    else if g.kind = 2 ∧ g.num ≠ 0 ∧ g.num ≠ 1 then 4 else orC (vo (d + 1) g.list) (entC (d + 1) none g.map) := by
  cases g with
  | mk k t n b l m => rw [y9]; rfl
theorem checkA_eq (d : Int) (a : GA) : checkA d a = y9 d a.val := by cases a; rw [checkA]; rfl
def ym (l : List GA) : Int := if 32 < l.length then 34 else orC (entC 0 none l) (if l.any (fun a => decide (1024 < (xA a.val).size)) then 35 else 0)
def getA : List GA → ByteArray → Option GV
  | [], _ => none
  | x :: xs, k => if x.key = k then some x.val else getA xs k
def xG (keys : List ByteArray) : List GA → List GA
  | [] => []
  | x :: xs => if keys.any (fun k => decide (k = x.key)) then xG keys xs else x :: xG keys xs
def yZ (kinds : List Int) (a : GA) : GA := if kinds.any (fun k => k == a.val.kind) then .mk a.key (vA a.val) else a
def zeroV : GV := .mk 0 ⟨#[]⟩ 0 0 [] []
def un (l : List GA) (k : ByteArray) : ByteArray := xA ((getA l k).getD zeroV)
def risA (prev : Option ByteArray) : List GA → Prop
  | [] => True
  | x :: xs => (match prev with | some p => ltB p x.key = true | none => True) ∧ risA (some x.key) xs
def xE (s : ByteArray) : Int := if wv s ≠ -1 then 5 else if 256 < s.size then 35 else 0
def xg (l : Bs) : Bool := l.all (· == 0)
def evC : List GE → Int
  | [] => 0
  | e :: es => if 9223372036854775807 < e.time then 11 else orC (orC (xE e.name) (ym e.attrs)) (evC es)
def evsC (l : List GE) : Int := if 16 < l.length then 34 else evC l
def lkC : List GL → Int
  | [] => 0
  | x :: xs => if xg x.trace || xg x.span then 10 else orC (orC (xE x.state) (ym x.attrs)) (lkC xs)
def lksC (l : List GL) : Int := if 16 < l.length then 34 else lkC l
def yM : List GA → Nat
  | [] => 0
  | x :: xs => 64 + 6 * x.key.size + 12 * (xA x.val).size + yM xs
def wL (s : GSpan) (service : ByteArray) : Nat :=
  512 + 6 * (service.size + s.state.size + s.name.size + s.note.size) + yM s.attrs + zg (fun e : GE => 64 + 6 * e.name.size + yM e.attrs) s.events + zg (fun e : GL => 64 + 6 * e.state.size + yM e.attrs) s.links
def xn (s : GScope) (service : ByteArray) : Nat := 64 + 6 * (s.name.size + s.version.size) + zg (fun x => wL x service) s.spans
def skey : ByteArray := ⟨#[115, 101, 114, 118, 105, 99, 101, 46, 110, 97, 109, 101]⟩
def zu (r : GRes) : ByteArray := un r.attrs skey
def resW (r : GRes) : Nat := 64 + yM r.attrs + zg (fun s => xn s (zu r)) r.scopes
def vJ (b : List GRes) : Nat := 16 + zg resW b
theorem tG : ∀ l : List GA, yM l ≤ 2000 * wtAs l
  | [] => by simp [yM]
  | x :: xs => by
    rw [yM, wtAs]
    have := tG xs
    have h1 : (xA x.val).size ≤ 150 * x.val.wt := by rw [xA, ze]; exact u5 _
    have := x.wt_eq
    have := x.val.wt_pos
    omega
end Go.Proofs
namespace Go.Proofs
open Go Go.Al
theorem bl_irrefl : ∀ a : Bs, Op.bytesLess a a = false
  | [] => rfl
  | x :: a => by
    simp only [Op.bytesLess, bl_irrefl a, Bool.and_false, Bool.or_false]
    simp
theorem bl_trans : ∀ a b c : Bs, Op.bytesLess a b = true → Op.bytesLess b c = true → Op.bytesLess a c = true
  | _, [], _, h, _ => by simp [Op.bytesLess] at h
  | _, _ :: _, [], _, h => by simp [Op.bytesLess] at h
  | [], _ :: _, _ :: _, _, _ => by simp [Op.bytesLess]
  | x :: a, y :: b, z :: c, h, k => by
    simp only [Op.bytesLess, Bool.or_eq_true, Bool.and_eq_true, decide_eq_true_eq, beq_iff_eq] at h k ⊢
    rcases h with h | ⟨rfl, h⟩ <;> rcases k with k | ⟨rfl, k⟩
    · left; exact UInt8.lt_trans h k
    · left; exact h
    · left; exact k
    · right; exact ⟨rfl, bl_trans a b c h k⟩
theorem bl_tri : ∀ a b : Bs, Op.bytesLess a b = false → Op.bytesLess b a = false → a = b
  | [], [], _, _ => rfl
  | [], _ :: _, h, _ => by simp [Op.bytesLess] at h
  | _ :: _, [], _, h => by simp [Op.bytesLess] at h
  | x :: a, y :: b, h, k => by
    simp only [Op.bytesLess, Bool.or_eq_false_iff, decide_eq_false_iff_not, Bool.and_eq_false_imp, beq_iff_eq] at h k
    have : x = y := by
      have h1 := h.1; have k1 := k.1
      simp only [UInt8.lt_iff_toNat_lt] at h1 k1
      exact UInt8.toNat_inj.1 (by omega)
    subst this
    rw [bl_tri a b (h.2 rfl) (k.2 rfl)]
theorem xT (a : ByteArray) : ltB a a = false := bl_irrefl _
theorem tU {a b c : ByteArray} (h : ltB a b = true) (k : ltB b c = true) : ltB a c = true := bl_trans _ _ _ h k
theorem ltB_tri {a b : ByteArray} (h : ltB a b = false) (k : ltB b a = false) : a = b := sZ (bl_tri _ _ h k)
theorem ltB_asymm {a b : ByteArray} (h : ltB a b = true) : ltB b a = false := by
  cases hb : ltB b a
  · rfl
  · have := tU h hb; rw [xT] at this; cases this
theorem risA_mem : ∀ {l : List GA} {p : ByteArray}, risA (some p) l → ∀ x ∈ l, ltB p x.key = true
  | y :: l, p, h, x, hx => by
    rcases List.mem_cons.1 hx with rfl | hx
    · exact h.1
    · exact tU h.1 (risA_mem h.2 x hx)
theorem risA_none {l : List GA} {p : Option ByteArray} (h : risA p l) : risA none l := by
  cases l with
  | nil => trivial
  | cons x l => exact ⟨trivial, h.2⟩
theorem jW : ∀ {l : List GA} {a x : GA}, x ∈ xf l a → x = a ∨ x ∈ l
  | [], a, x, h => by simp [xf] at h; exact .inl h
  | y :: l, a, x, h => by
    rw [xf] at h
    split at h
    · rcases List.mem_cons.1 h with rfl | h
      · exact .inr List.mem_cons_self
      · rcases jW h with h | h
        · exact .inl h
        · exact .inr (List.mem_cons_of_mem _ h)
    · split at h
      · rcases List.mem_cons.1 h with rfl | h
        · exact .inl rfl
        · exact .inr (List.mem_cons_of_mem _ h)
      · rcases List.mem_cons.1 h with rfl | h
        · exact .inl rfl
        · exact .inr h
theorem wt_intoA : ∀ (l : List GA) (a : GA), wtAs (xf l a) ≤ wtAs l + a.wt
  | [], a => by simp [xf, wtAs]
  | y :: l, a => by
    rw [xf]
    have := wt_intoA l a
    split
    · simp only [wtAs]; omega
    · split <;> simp only [wtAs] <;> omega
theorem ris_intoA : ∀ (l : List GA) (a : GA) (p : Option ByteArray), risA p l → (match p with | some p => ltB p a.key = true | none => True) → risA p (xf l a)
  | [], a, p, _, h => ⟨h, trivial⟩
  | y :: l, a, p, hr, h => by
    rw [xf]
    split
    · rename_i hl
      exact ⟨hr.1, ris_intoA l a (some y.key) hr.2 hl⟩
    · rename_i hl
      split
      · rename_i he
        exact ⟨h, he ▸ hr.2⟩
      · rename_i he
        refine ⟨h, ?_, hr.2⟩
        cases hb : ltB a.key y.key
        · exact absurd (ltB_tri (by simpa using hl) hb) he
        · exact hb
end Go.Proofs
namespace Go.Proofs
open Go Go.Al
def digs : ByteArray := ⟨#[48, 49, 50, 51, 52, 53, 54, 55, 56, 57, 97, 98, 99, 100, 101, 102]⟩
def digs10 : ByteArray := ⟨#[48, 49, 50, 51, 52, 53, 54, 55, 56, 57]⟩
theorem hexD_bAt (n : Int) (h : 0 ≤ n ∧ n < 16) : bAt digs n = (hexD n.toNat).toNat := by
  have key : ∀ k : Fin 16, bAt digs ((k.val : Nat) : Int) = (hexD k.val).toNat := by decide
  have := key ⟨n.toNat, by omega⟩
  simp only at this
  rw [show ((n.toNat : Nat) : Int) = n by omega] at this
  exact this
theorem and15 (n : Int) (h : 0 ≤ n ∧ n < 256) : vd (· &&& ·) .u8 n 15 = n % 16 := by
  have key : ∀ k : Fin 256, vd (· &&& ·) .u8 ((k.val : Nat) : Int) 15 = ((k.val : Nat) : Int) % 16 := by decide +kernel
  have := key ⟨n.toNat, by omega⟩
  simp only at this
  rw [show ((n.toNat : Nat) : Int) = n by omega] at this
  exact this
theorem shr4 (n : Int) (h : 0 ≤ n ∧ n < 256) : n.fdiv (2 ^ (min (4 : Int).toNat IntKind.u8.bits)) = n / 16 := by
  have : min (4 : Int).toNat IntKind.u8.bits = 4 := by decide
  rw [this, Int.fdiv_eq_ediv_of_nonneg _ (by decide)]
  rfl
theorem vj (s : ByteArray) (i : Nat) (h : i < s.size) : ∃ c : UInt8, (lst s)[i]? = some c ∧ bAt s (i : Int) = c.toNat := by
  have hl : i < (lst s).length := by rw [yE]; exact h
  refine ⟨(lst s)[i], List.getElem?_eq_getElem hl, ?_⟩
  unfold bAt
  show (((lst s).getD (Int.toNat (i : Int)) 0).toNat : Int) = _
  rw [Int.toNat_natCast, List.getD_eq_getElem?_getD, List.getElem?_eq_getElem hl]
  rfl
theorem yO {α : Type} {l : List α} {i : Nat} {c : α} (h : l[i]? = some c) : l.take (i + 1) = l.take i ++ [c] := by
  rw [List.take_add_one, h]; rfl
theorem uu (s : ByteArray) (i : Nat) (c : UInt8) (h : (lst s)[i]? = some c) : lst (s.extract i (i + 1)) = [c] := by
  have hl : i < (lst s).length := (List.getElem?_eq_some_iff.1 h).1
  have hs : i < s.size := by rw [← yE]; exact hl
  unfold lst at h ⊢
  rw [ByteArray.data_extract, Array.toList_extract, List.extract_eq_take_drop]
  rw [show i + 1 - i = 1 from by omega, List.drop_eq_getElem_cons (by simpa using hs)]
  rw [List.getElem?_eq_getElem (by simpa using hs)] at h
  cases h
  rfl
theorem x_ (s t : ByteArray) : lst (s ++ t) = lst s ++ lst t := sy s t
theorem uS (n : Int) (k : Int) (h : 0 ≤ n) (hk : 0 < k) : n.tdiv k = n / k := Int.tdiv_eq_ediv_of_nonneg h
theorem uQ (n : Int) (k : Int) (h : 0 ≤ n) : n.tmod k = n % k := Int.tmod_eq_emod_of_nonneg h
theorem natF_stop {i : Nat} {u : Int} (h0 : 0 ≤ u) (h : u < 10) : natF (i + 1) u.toNat = [UInt8.ofNat (48 + (u % 10).toNat)] := by
  rw [natF, if_pos (by omega)]
  rw [show u.toNat = (u % 10).toNat by omega]
theorem natF_step {i : Nat} {u : Int} (h0 : 0 ≤ u) (h : 10 ≤ u) : natF (i + 1) u.toNat = natF i (u / 10).toNat ++ [UInt8.ofNat (48 + (u % 10).toNat)] := by
  rw [natF, if_neg (by omega)]
  rw [show u.toNat / 10 = (u / 10).toNat by omega, show u.toNat % 10 = (u % 10).toNat by omega]
theorem dig_av {u : Int} (h0 : 0 ≤ u) : ofI (IntKind.u8.wrap (48 + IntKind.u8.wrap (u % 10))) = UInt8.ofNat (48 + (u % 10).toNat) := by
  rw [wrap8 (n := u % 10) (by omega) (by omega), wrap8 (by omega) (by omega)]
  unfold ofI
  congr 1
  omega
theorem set_drop {l : Bs} {i : Nat} {c : UInt8} (h : i < l.length) : (l.set i c).drop i = c :: l.drop (i + 1) := by
  rw [List.drop_eq_getElem_cons (by simpa using h), List.getElem_set_self, List.drop_set_of_lt (by omega)]
theorem natB_one {u : Int} (h0 : 0 ≤ u) (h : u < 10) : natB u.toNat = [UInt8.ofNat (48 + (u % 10).toNat)] := natF_stop h0 h
theorem natB_more {u : Int} (h0 : 10 ≤ u) (h : u < 18446744073709551616) : natB u.toNat = natB (u / 10).toNat ++ [UInt8.ofNat (48 + (u % 10).toNat)] := by
  unfold natB
  rw [natF_step (i := 19) (by omega) h0]
  congr 1
  have : (u / 10).toNat < 10 ^ 19 := by omega
  exact (natF_more 19 _ this (by omega)).symm
def beI (u : Nat) (i : Nat) : UInt8 := UInt8.ofNat (u / 2 ^ (56 - 8 * i) % 256)
theorem be8 (u : Nat) : be 8 u = (List.range 8).map (beI u) := by
  simp only [be, List.range, List.range.loop, List.map_cons, List.map_nil, beI, List.nil_append, List.cons_append, Nat.div_div_eq_div_mul]
  simp
theorem be8_take (u i : Nat) (h : i < 8) : (be 8 u).take (i + 1) = (be 8 u).take i ++ [beI u i] := by
  refine yO ?_
  rw [be8, List.getElem?_map, List.getElem?_range h]; rfl
def highs : Bs := [56, 48, 40, 32, 24, 16, 8, 0]
theorem highs_at (i : Nat) (h : i < 8) : bA highs (i : Int) = 56 - 8 * (i : Int) := by
  have key : ∀ k : Fin 8, bA highs ((k.val : Nat) : Int) = 56 - 8 * ((k.val : Nat) : Int) := by decide
  exact key ⟨i, h⟩
theorem high_av (u : Int) (i : Nat) (h0 : 0 ≤ u) (h : i < 8) : AV.v (.int .u8 (IntKind.u8.wrap (u.fdiv (2 ^ (min (bA highs (i : Int)).toNat IntKind.u64.bits))))) = .v (wr (beI u.toNat i)) := by
  rw [highs_at i h]
  have e : min (56 - 8 * (i : Int)).toNat IntKind.u64.bits = 56 - 8 * i := by
    have : IntKind.u64.bits = 64 := by decide
    omega
  rw [e, Int.fdiv_eq_ediv_of_nonneg _ (Int.pow_nonneg (by decide))]
  have e2 : IntKind.u8.wrap (u / 2 ^ (56 - 8 * i)) = ((u.toNat / 2 ^ (56 - 8 * i) % 256 : Nat) : Int) := by
    have h1 : u / 2 ^ (56 - 8 * i) = ((u.toNat / 2 ^ (56 - 8 * i) : Nat) : Int) := by
      rw [Int.natCast_ediv, Int.natCast_pow, Int.toNat_of_nonneg h0]; rfl
    rw [h1]
    generalize u.toNat / 2 ^ (56 - 8 * i) = q
    simp [IntKind.wrap, IntKind.bits, IntKind.signed]
  rw [e2]
  refine byte_av ?_
  unfold beI
  rw [UInt8.toNat_ofNat']
  omega
theorem wx (s : Bs) (c : UInt8) : escs (s ++ [c]) = escs s ++ escB c := by rw [rX]; simp [escs]
theorem esc_quote {c : UInt8} (h : (c.toNat : Int) = 34 ∨ (c.toNat : Int) = 92) : escB c = [92, c] := by
  unfold escB
  rw [if_pos]
  rcases h with h | h
  · left; exact UInt8.toNat_inj.1 (by simpa using (by omega : c.toNat = 34))
  · right; exact UInt8.toNat_inj.1 (by simpa using (by omega : c.toNat = 92))
theorem esc_low {c : UInt8} (h1 : (c.toNat : Int) ≠ 34) (h2 : (c.toNat : Int) ≠ 92) (h : (c.toNat : Int) < 32) : escB c = 92 :: 117 :: 48 :: 48 :: hexB [c] := by
  unfold escB
  rw [if_neg, if_pos]
  · exact UInt8.lt_iff_toNat_lt.2 (by simpa using (by omega : c.toNat < 32))
  · rintro (rfl | rfl) <;> simp at h1 h2
theorem esc_plain {c : UInt8} (h1 : (c.toNat : Int) ≠ 34) (h2 : (c.toNat : Int) ≠ 92) (h : ¬ (c.toNat : Int) < 32) : escB c = [c] := by
  unfold escB
  rw [if_neg, if_neg]
  · intro h3; have := UInt8.lt_iff_toNat_lt.1 h3; simp at this; omega
  · rintro (rfl | rfl) <;> simp at h1 h2
theorem ex1_size {s : ByteArray} {i : Nat} (h : i < s.size) : (s.extract i (i + 1)).size = 1 := by
  obtain ⟨c, h1, _⟩ := vj s i h
  have := uu s i c h1
  rw [← yE, this]; rfl
theorem esc1 {ys : List AV} {s : ByteArray} {i : Nat} {c : UInt8} (h : (lst s)[i]? = some c) (hq : (c.toNat : Int) = 34 ∨ (c.toNat : Int) = 92) : ys ++ zx (ByteArray.append ⟨#[92]⟩ (s.extract i (i + 1))).data.toList = ys ++ zx (escB c) := by
  have e : (ByteArray.append ⟨#[92]⟩ (s.extract i (i + 1))).data.toList = escB c := by
    have := x_ ⟨#[92]⟩ (s.extract i (i + 1))
    rw [uu s i c h] at this
    rw [esc_quote hq]; exact this
  rw [e]
theorem esc2 {ys : List AV} {s : ByteArray} {i : Nat} {c : UInt8} (h : (lst s)[i]? = some c) (h1 : (c.toNat : Int) ≠ 34) (h2 : (c.toNat : Int) ≠ 92) (h3 : (c.toNat : Int) < 32) : ys ++ zx (ByteArray.append ⟨#[92, 117, 48, 48]⟩ (yF (hexB (lst (s.extract i (i + 1)))))).data.toList = ys ++ zx (escB c) := by
  have e : (ByteArray.append ⟨#[92, 117, 48, 48]⟩ (yF (hexB (lst (s.extract i (i + 1)))))).data.toList = escB c := by
    have := x_ ⟨#[92, 117, 48, 48]⟩ (yF (hexB (lst (s.extract i (i + 1)))))
    rw [uu s i c h, yN] at this
    rw [esc_low h1 h2 h3, uu s i c h]; exact this
  rw [e]
theorem esc3 {ys : List AV} {s : ByteArray} {i : Nat} {c : UInt8} (h : (lst s)[i]? = some c) (h1 : (c.toNat : Int) ≠ 34) (h2 : (c.toNat : Int) ≠ 92) (h3 : ¬ (c.toNat : Int) < 32) : ys ++ zx (s.extract i (i + 1)).data.toList = ys ++ zx (escB c) := by
  have e : (s.extract i (i + 1)).data.toList = escB c := by rw [esc_plain h1 h2 h3]; exact uu s i c h
  rw [e]
theorem lst_digs (n : Nat) (h : n < 16) : lst (digs.extract n (n + 1)) = [hexD n] := by
  have key : ∀ k : Fin 16, lst (digs.extract k.val (k.val + 1)) = [hexD k.val] := by decide
  exact key ⟨n, h⟩
theorem lst_digs10 (n : Nat) (h : n < 10) : lst (digs10.extract n (n + 1)) = [UInt8.ofNat (48 + n)] := by
  have key : ∀ k : Fin 10, lst (digs10.extract k.val (k.val + 1)) = [UInt8.ofNat (48 + k.val)] := by decide
  exact key ⟨n, h⟩
theorem lst_inj {s t : ByteArray} (h : lst s = lst t) : s = t := sZ h
theorem uw {s : ByteArray} {l : Bs} (h : lst s = l) : s = yF l := lst_inj (by rw [h, yN])
theorem dig10 (u : Int) (h : 0 ≤ u) : digs10.extract (u.tmod 10).toNat (IntKind.u64.wrap (u.tmod 10 + 1)).toNat = yF [UInt8.ofNat (48 + (u % 10).toNat)] := by
  rw [uQ u 10 h, xb (by omega) (by omega)]
  refine uw ?_
  rw [show (u % 10 + 1).toNat = (u % 10).toNat + 1 by omega]
  exact lst_digs10 _ (by omega)
theorem dig16a (n : Int) (h : 0 ≤ n ∧ n < 256) : digs.extract (IntKind.u8.wrap (n.tdiv 16)).toNat (IntKind.u8.wrap (IntKind.u8.wrap (n.tdiv 16) + 1)).toNat = yF [hexD (n.toNat / 16)] := by
  rw [uS n 16 h.1 (by decide), wrap8 (n := n / 16) (by omega) (by omega), wrap8 (by omega) (by omega)]
  refine uw ?_
  rw [show (n / 16 + 1).toNat = n.toNat / 16 + 1 by omega, show (n / 16).toNat = n.toNat / 16 by omega]
  exact lst_digs _ (by omega)
theorem dig16b (n : Int) (h : 0 ≤ n ∧ n < 256) : digs.extract (n.tmod 16).toNat (IntKind.u8.wrap (n.tmod 16 + 1)).toNat = yF [hexD (n.toNat % 16)] := by
  rw [uQ n 16 h.1, wrap8 (by omega) (by omega)]
  refine uw ?_
  rw [show (n % 16 + 1).toNat = n.toNat % 16 + 1 by omega, show (n % 16).toNat = n.toNat % 16 by omega]
  exact lst_digs _ (by omega)
theorem q16 (n : Int) (h : 0 ≤ n ∧ n < 256) : 0 ≤ IntKind.u8.wrap (n.tdiv 16) ∧ IntKind.u8.wrap (n.tdiv 16) ≤ IntKind.u8.wrap (IntKind.u8.wrap (n.tdiv 16) + 1) ∧ IntKind.u8.wrap (IntKind.u8.wrap (n.tdiv 16) + 1) ≤ 16 := by
  rw [uS n 16 h.1 (by decide), wrap8 (n := n / 16) (by omega) (by omega), wrap8 (by omega) (by omega)]; omega
theorem r16 (n : Int) (h : 0 ≤ n ∧ n < 256) : 0 ≤ n.tmod 16 ∧ n.tmod 16 ≤ IntKind.u8.wrap (n.tmod 16 + 1) ∧ IntKind.u8.wrap (n.tmod 16 + 1) ≤ 16 := by
  rw [uQ n 16 h.1, wrap8 (by omega) (by omega)]; omega
theorem byte_ofI (u : Int) (h : 0 ≤ u) : ofI (IntKind.u8.wrap (u.tmod 256)) = UInt8.ofNat (u.toNat % 256) := by
  rw [uQ u 256 h, wrap8 (by omega) (by omega)]
  unfold ofI
  congr 1
  omega
theorem be_next (n : Nat) (u : Int) (h : 0 ≤ u) : be (n + 1) u.toNat = be n (u / 256).toNat ++ [UInt8.ofNat (u.toNat % 256)] := by
  rw [be, show u.toNat / 256 = (u / 256).toNat by omega]
theorem dec_more (n : Int) (h : n ≤ -10) (h2 : -9223372036854775808 ≤ n) : decB n = decB (n.tdiv 10) ++ natB (-(n.tmod 10)).toNat := by
  have e1 : n.tdiv 10 = -((-n) / 10) := by
    have := Int.neg_tdiv (-n) 10
    rw [Int.neg_neg] at this
    rw [this, uS (-n) 10 (by omega) (by decide)]
  have e2 : n.tmod 10 = -((-n) % 10) := by
    have := Int.neg_tmod (-n) 10
    rw [Int.neg_neg] at this
    rw [this, uQ (-n) 10 (by omega)]
  rw [e1, e2]
  unfold decB
  rw [if_pos (by omega), if_pos (by omega)]
  simp only [Int.neg_neg]
  rw [natB_more (u := -n) (by omega) (by omega), natB_one (u := -n % 10) (by omega) (by omega)]
  rw [show (-n % 10 % 10) = -n % 10 by omega]
  rfl
theorem dec_small (n : Int) (h : n < 0) : decB n = [45] ++ natB (-n).toNat := by unfold decB; rw [if_pos h]; rfl
theorem dec_pos (n : Int) (h : 0 ≤ n) : decB n = natB n.toNat := by unfold decB; rw [if_neg (by omega)]
theorem natB_length (n : Nat) : (natB n).length ≤ 20 := sH 20 n
theorem re {v : GV} (h : v.kind = 1) : yF (wE v) = v.text := by unfold wE; rw [if_pos h, jH]
theorem simp2 {v : GV} (h : v.kind = 2) (hn : v.num = 0) : wE v = [102, 97, 108, 115, 101] := by unfold wE; rw [if_neg (by omega), if_pos h, if_pos hn]
theorem tO {v : GV} (h : v.kind = 2) (hn : v.num ≠ 0) : wE v = [116, 114, 117, 101] := by unfold wE; rw [if_neg (by omega), if_pos h, if_neg hn]
theorem simp3 {v : GV} (h : v.kind = 3) : wE v = decB v.num := by unfold wE; rw [if_neg (by omega), if_neg (by omega), if_pos h]
theorem simp4 {v : GV} (h : v.kind = 4) : wE v = 48 :: 120 :: hexB (be 8 v.bits.toNat) := by unfold wE; rw [if_neg (by omega), if_neg (by omega), if_neg (by omega), if_pos h]
theorem simp5 {v : GV} (h : v.kind = 5) : wE v = hexB (lst v.text) := by unfold wE; rw [if_neg (by omega), if_neg (by omega), if_neg (by omega), if_neg (by omega), if_pos h]
theorem r6 {v : GV} (h : v.kind ≠ 1 ∧ v.kind ≠ 2 ∧ v.kind ≠ 3 ∧ v.kind ≠ 4 ∧ v.kind ≠ 5) : wE v = [] := by unfold wE; rw [if_neg (by omega), if_neg (by omega), if_neg (by omega), if_neg (by omega), if_neg (by omega)]
theorem json0 {v : GV} (h : v.kind = 0) : xC v = [110, 117, 108, 108] := by rw [sA, if_pos h]
theorem jsonS {v : GV} (h : v.kind = 1 ∨ v.kind = 4 ∨ v.kind = 5) : xC v = vZ (wE v) := by rw [sA, if_neg (by omega), if_pos h]
theorem json6 {v : GV} (h : v.kind = 6) : xC v = 91 :: (wu true v.list ++ [93]) := by rw [sA, if_neg (by omega), if_neg (by omega), if_pos h]
theorem json7 {v : GV} (h : v.kind = 7) : xC v = 123 :: (vC true v.map ++ [125]) := by rw [sA, if_neg (by omega), if_neg (by omega), if_neg (by omega), if_pos h]
theorem jsonE {v : GV} (h : v.kind ≠ 0 ∧ ¬ (v.kind = 1 ∨ v.kind = 4 ∨ v.kind = 5) ∧ v.kind ≠ 6 ∧ v.kind ≠ 7) : xC v = wE v := by rw [sA, if_neg h.1, if_neg h.2.1, if_neg h.2.2.1, if_neg h.2.2.2]
theorem text6 {v : GV} (h : v.kind = 6 ∨ v.kind = 7) : xA v = yF (xC v) := by unfold xA textB; rw [if_pos h]
theorem textE {v : GV} (h : ¬ (v.kind = 6 ∨ v.kind = 7)) : xA v = yF (wE v) := by unfold xA textB; rw [if_neg h]
def nth {α : Type} (l : List α) (i : Nat) (d : α) : α := l.getD i d
theorem y6 {α : Type} {l : List α} {i : Nat} {d : α} (h : i < l.length) : l[i]? = some (nth l i d) := by
  unfold nth
  rw [List.getD_eq_getElem?_getD, List.getElem?_eq_getElem h]; rfl
theorem tz {α : Type} {l : List α} {i : Nat} {d : α} (h : i < l.length) : nth l i d ∈ l := List.mem_of_getElem? (y6 h)
theorem wq {α β : Type} {l : List α} {i : Nat} {d : α} {f : α → β} (h : i < l.length) : (l.map f)[((i : Nat) : Int).toNat]? = some (f (nth l i d)) := by
  rw [Int.toNat_natCast, List.getElem?_map, y6 h]; rfl
def v0 : GV := .mk 0 ⟨#[]⟩ 0 0 [] []
def a0 : GA := .mk ⟨#[]⟩ v0
def nthV (l : List GV) (i : Nat) : GV := nth l i v0
def nthA (l : List GA) (i : Nat) : GA := nth l i a0
theorem ixV {l : List GV} {i : Nat} (h : i < l.length) : (l.map avV)[((i : Nat) : Int).toNat]? = some (nthV l i).av := by rw [wq (d := v0) h, avV_eq]; rfl
theorem ixA {l : List GA} {i : Nat} (h : i < l.length) : (l.map avA)[((i : Nat) : Int).toNat]? = some (nthA l i).av := by rw [wq (d := a0) h, avA_eq]; rfl
theorem uy {l : List GV} {i : Nat} (h : i < l.length) : nthV l i ∈ l := tz h
theorem xY {l : List GA} {i : Nat} (h : i < l.length) : nthA l i ∈ l := tz h
theorem ro {l : List GV} {i : Nat} (h : i < l.length) : wu true (l.take (i + 1)) = wu true (l.take i) ++ sk (i == 0) ++ xC (nthV l i) := by
  rw [yO (y6 (d := v0) h), jsonVs_snoc]
  congr 3
  cases i with
  | zero => rfl
  | succ i => cases l with
    | nil => simp at h
    | cons x xs => simp
theorem rm {l : List GA} {i : Nat} (h : i < l.length) : vC true (l.take (i + 1)) = vC true (l.take i) ++ sk (i == 0) ++ jsonA (nthA l i) := by
  rw [yO (y6 (d := a0) h), jsonAs_snoc]
  congr 3
  cases i with
  | zero => rfl
  | succ i => cases l with
    | nil => simp at h
    | cons x xs => simp
theorem jsonVs_len : ∀ (l : List GV) (f : Bool), (wu f l).length ≤ 150 * wtVs l
  | [], f => by simp [wu]
  | x :: xs, f => by
    simp only [wu, wtVs, List.length_append]
    have := yb x; have := jsonVs_len xs false; have := yL f; omega
theorem wT (a : GA) : (jsonA a).length + 1 ≤ 150 * a.wt := by
  have := yb a.val; have := a.wt_eq; have := yA (lst a.key); have := yE a.key
  rw [s6]; simp only [List.length_append, List.length_cons, List.length_nil]; omega
theorem jsonAs_len : ∀ (l : List GA) (f : Bool), (vC f l).length ≤ 150 * wtAs l
  | [], f => by simp [vC]
  | x :: xs, f => by
    simp only [vC, wtAs, List.length_append]
    have := wT x; have := jsonAs_len xs false; have := yL f; omega
theorem jB (l : List GV) (i : Nat) : wtVs (l.take i) ≤ wtVs l := by
  have := tk (l.take i) (l.drop i); rw [List.take_append_drop] at this; omega
theorem sr (l : List GA) (i : Nat) : wtAs (l.take i) ≤ wtAs l := by
  have := sI (l.take i) (l.drop i); rw [List.take_append_drop] at this; omega
theorem vF {l : List GV} {i : Nat} (h : i < l.length) : wtVs (l.take i) + (nthV l i).wt ≤ wtVs l := by
  have := jB l (i + 1); rw [yO (y6 (d := v0) h), tk] at this; simp only [wtVs, Nat.add_zero] at this; exact this
theorem yn {l : List GA} {i : Nat} (h : i < l.length) : wtAs (l.take i) + (nthA l i).wt ≤ wtAs l := by
  have := sr l (i + 1); rw [yO (y6 (d := a0) h), sI] at this; simp only [wtAs, Nat.add_zero] at this; exact this
theorem resc1 {t s : ByteArray} {i : Nat} {c : UInt8} (h : (lst s)[i]? = some c) (hq : (c.toNat : Int) = 34 ∨ (c.toNat : Int) = 92) : lst (t ++ ⟨#[92]⟩ ++ s.extract i (i + 1)) = lst t ++ escB c := by
  rw [esc_quote hq, x_, x_, uu s i c h, List.append_assoc]; rfl
theorem resc2 {t s : ByteArray} {i : Nat} {c : UInt8} (h : (lst s)[i]? = some c) (h1 : (c.toNat : Int) ≠ 34) (h2 : (c.toNat : Int) ≠ 92) (h3 : (c.toNat : Int) < 32) : lst (t ++ ⟨#[92, 117, 48, 48]⟩ ++ yF (hexB (lst (s.extract i (i + 1))))) = lst t ++ escB c := by
  rw [esc_low h1 h2 h3, x_, x_, uu s i c h, yN, List.append_assoc]; rfl
theorem resc3 {t s : ByteArray} {i : Nat} {c : UInt8} (h : (lst s)[i]? = some c) (h1 : (c.toNat : Int) ≠ 34) (h2 : (c.toNat : Int) ≠ 92) (h3 : ¬ (c.toNat : Int) < 32) : lst (t ++ s.extract i (i + 1)) = lst t ++ escB c := by
  rw [esc_plain h1 h2 h3, x_, uu s i c h]
end Go.Proofs
namespace Go.Proofs
open Go Go.Al
def v9 (L : Int) (k : Nat) : Int := if (k : Int) ≤ L then L - k else -1
theorem leftF_bd {L : Int} (h : -1 ≤ L) (k : Nat) : -1 ≤ v9 L k ∧ v9 L k ≤ L := by unfold v9; split <;> omega
theorem leftV_F (v : GV) (n : Int) : leftV v n = if n < 0 then -1 else v9 n v.wt := rfl
theorem vp (l : List GA) (n : Int) : yS l n = if n < 0 then n else v9 n (wtAs l) := rfl
theorem leftF_zero {L : Int} (h : -1 ≤ L) : v9 L 0 = L := by unfold v9; split <;> omega
theorem leftV_step {l : List GV} {L : Int} {i : Nat} (hi : i < l.length) (h : 0 ≤ v9 L (wtVs (l.take i))) : leftV (nthV l i) (v9 L (wtVs (l.take i))) = v9 L (wtVs (l.take (i + 1))) := by
  have e : wtVs (l.take (i + 1)) = wtVs (l.take i) + (nthV l i).wt := by
    rw [yO (y6 (d := v0) hi), tk]; simp only [wtVs, Nat.add_zero]; rfl
  rw [leftV_F, e]
  unfold v9 at *
  split <;> (try split) <;> (try split) <;> (try split) <;> omega
theorem leftV_fin {v : GV} {n : Int} {i : Nat} (hn : ¬ n < 0) (ht : ¬ (v.text.size : Int) > n) (hi : i = v.list.length ∨ v9 (n - 1 - v.text.size) (wtVs (v.list.take i)) < 0) : yS v.map (v9 (n - 1 - v.text.size) (wtVs (v.list.take i))) = leftV v n := by
  have h1 := jB v.list i
  have e := v.wt_eq
  rw [vp, leftV_F, if_neg hn]
  have h2 : i = v.list.length → wtVs (v.list.take i) = wtVs v.list := fun h => by rw [h, List.take_length]
  unfold v9 at *
  split <;> (try split) <;> (try split) <;> (try split) <;> omega
theorem leftAs_zero (l : List GA) {n : Int} : yS (l.take 0) n = n := by rw [vp]; split; rfl; exact leftF_zero (by omega)
theorem wa (l : List GA) (n : Int) : yS l n ≤ n ∧ (n < 0 → yS l n = n) ∧ (0 ≤ n → -1 ≤ yS l n) := by rw [vp]; unfold v9; split <;> (try split) <;> omega
theorem leftAs_step {l : List GA} {n : Int} {i : Nat} (hi : i < l.length) (h : 0 ≤ yS (l.take i) n) (hk : ¬ ((nthA l i).key.size : Int) > yS (l.take i) n) : leftV (nthA l i).val (yS (l.take i) n - (nthA l i).key.size) = yS (l.take (i + 1)) n := by
  have e : wtAs (l.take (i + 1)) = wtAs (l.take i) + (nthA l i).wt := by
    rw [yO (y6 (d := a0) hi), sI]; simp only [wtAs, Nat.add_zero]; rfl
  have e2 := (nthA l i).wt_eq
  rw [leftV_F, vp, vp, e] at *
  unfold v9 at *
  split <;> (try split) <;> (try split) <;> (try split) <;> (try split) <;> omega
theorem leftAs_out {l : List GA} {n : Int} {i : Nat} (hi : i < l.length) (h : 0 ≤ yS (l.take i) n) (hk : ((nthA l i).key.size : Int) > yS (l.take i) n) : (-1 : Int) = yS l n := by
  have q := yn hi
  have e2 := (nthA l i).wt_eq
  have q2 := sr l i
  rw [vp] at *
  unfold v9 at *
  split <;> (try split) <;> (try split) <;> (try split) <;> omega
theorem leftAs_fin {l : List GA} {n : Int} {i : Nat} (hi : i = l.length ∨ yS (l.take i) n < 0) : yS (l.take i) n = yS l n := by
  rcases hi with rfl | h
  · rw [List.take_length]
  · have q2 := sr l i
    rw [vp] at *
    rw [vp]
    unfold v9 at *
    split <;> (try split) <;> (try split) <;> (try split) <;> omega
theorem leftF_le {L : Int} {k : Nat} (h : 0 ≤ v9 L k) : (k : Int) ≤ L := by unfold v9 at h; split at h <;> omega
theorem leftV_len {l : List GV} {L : Int} {i : Nat} (h : 0 ≤ v9 L (wtVs (l.take i))) (hi : i ≤ l.length) : (i : Int) ≤ L := by
  have := leftF_le h
  have := xh (l.take i)
  rw [List.length_take] at this
  omega
theorem leftAs_len {l : List GA} {n : Int} {i : Nat} (h : 0 ≤ yS (l.take i) n) (hi : i ≤ l.length) : (i : Int) ≤ n := by
  rw [vp] at h
  have := yv (l.take i)
  rw [List.length_take] at this
  split at h
  · omega
  · have := leftF_le h; omega
end Go.Proofs
namespace Go.Proofs
open Go Go.Al
def ge0 : GE := ⟨0, ⟨#[]⟩, []⟩
def gl0 : GL := ⟨[], [], ⟨#[]⟩, []⟩
def gs0 : GSpan := ⟨[], [], [], ⟨#[]⟩, ⟨#[]⟩, 0, 0, 0, [], [], [], 0, ⟨#[]⟩⟩
def gc0 : GScope := ⟨⟨#[]⟩, ⟨#[]⟩, []⟩
def gr0 : GRes := ⟨[], []⟩
def nthE (l : List GE) (i : Nat) : GE := nth l i ge0
def nthL (l : List GL) (i : Nat) : GL := nth l i gl0
def nthS (l : List GSpan) (i : Nat) : GSpan := nth l i gs0
def nthC (l : List GScope) (i : Nat) : GScope := nth l i gc0
def nthR (l : List GRes) (i : Nat) : GRes := nth l i gr0
theorem ixE {l : List GE} {i : Nat} (h : i < l.length) : (l.map GE.av)[((i : Nat) : Int).toNat]? = some (nthE l i).av := wq h
theorem ixL {l : List GL} {i : Nat} (h : i < l.length) : (l.map GL.av)[((i : Nat) : Int).toNat]? = some (nthL l i).av := wq h
theorem ixS {l : List GSpan} {i : Nat} (h : i < l.length) : (l.map GSpan.av)[((i : Nat) : Int).toNat]? = some (nthS l i).av := wq h
theorem ixC {l : List GScope} {i : Nat} (h : i < l.length) : (l.map GScope.av)[((i : Nat) : Int).toNat]? = some (nthC l i).av := wq h
theorem ixR {l : List GRes} {i : Nat} (h : i < l.length) : (l.map GRes.av)[((i : Nat) : Int).toNat]? = some (nthR l i).av := wq h
theorem v_ {l : List GE} {i : Nat} (h : i < l.length) : nthE l i ∈ l := tz h
theorem jC {l : List GL} {i : Nat} (h : i < l.length) : nthL l i ∈ l := tz h
theorem uO {l : List GSpan} {i : Nat} (h : i < l.length) : nthS l i ∈ l := tz h
theorem vy {l : List GScope} {i : Nat} (h : i < l.length) : nthC l i ∈ l := tz h
theorem w_ {l : List GRes} {i : Nat} (h : i < l.length) : nthR l i ∈ l := tz h
theorem wZ {α : Type} (F : α → Nat) (l : List α) (i : Nat) : zg F (l.take i) ≤ zg F l := by
  have := xM F (l.take i) (l.drop i); rw [List.take_append_drop] at this; omega
theorem uc {α : Type} {F : α → Nat} {l : List α} {i : Nat} {d : α} (h : i < l.length) : zg F (l.take (i + 1)) = zg F (l.take i) + F (nth l i d) := by
  rw [yO (y6 (d := d) h), xM]; simp [zg]
theorem xp {α : Type} {F : α → Nat} {l : List α} {i : Nat} {d : α} (h : i < l.length) : zg F (l.take i) + F (nth l i d) ≤ zg F l := by
  rw [← uc h]; exact wZ F l _
def attrW (a : GA) : Nat := 64 + 6 * a.key.size + 12 * (xA a.val).size
def evW (e : GE) : Nat := 64 + 6 * e.name.size + yM e.attrs
def lkW (e : GL) : Nat := 64 + 6 * e.state.size + yM e.attrs
theorem attrsW_sum : ∀ l : List GA, yM l = zg attrW l
  | [] => rfl
  | x :: xs => by rw [yM, zg, attrsW_sum xs]; rfl
theorem spanW_eq (s : GSpan) (t : ByteArray) : wL s t = 512 + 6 * (t.size + s.state.size + s.name.size + s.note.size) + yM s.attrs + zg evW s.events + zg lkW s.links := rfl
theorem evW_le (e : GE) : evW e ≤ 2000 * e.wt := by
  unfold evW GE.wt; have := tG e.attrs; omega
theorem lkW_le (e : GL) : lkW e ≤ 2000 * e.wt := by
  unfold lkW GL.wt; have := tG e.attrs; omega
theorem sW {α : Type} {F G : α → Nat} {k : Nat} (h : ∀ x, F x ≤ k * G x) : ∀ l : List α, zg F l ≤ k * zg G l
  | [] => by simp [zg]
  | x :: xs => by simp only [zg, Nat.mul_add]; have := h x; have := sW h xs; omega
theorem spanW_le (s : GSpan) (t : ByteArray) (h : t.size ≤ 10000000) : wL s t ≤ 100000000 * s.wt := by
  rw [spanW_eq]
  unfold GSpan.wt
  have := tG s.attrs
  have := sW evW_le s.events
  have := sW lkW_le s.links
  omega
theorem scopeW_le (s : GScope) (t : ByteArray) (h : t.size ≤ 10000000) : xn s t ≤ 100000000 * s.wt := by
  unfold xn GScope.wt
  have := sW (k := 100000000) (fun x => spanW_le x t h) s.spans
  omega
theorem resW_le (r : GRes) (h : (zu r).size ≤ 10000000) : resW r ≤ 100000000 * r.wt := by
  unfold resW GRes.wt
  have := tG r.attrs
  have := sW (k := 100000000) (fun x => scopeW_le x (zu r) h) r.scopes
  omega
theorem getA_mem : ∀ {l : List GA} {k : ByteArray} {v : GV}, getA l k = some v → ∃ a ∈ l, a.val = v ∧ a.key = k
  | x :: xs, k, v, h => by
    rw [getA] at h
    split at h
    · rename_i hk; cases h; exact ⟨x, List.mem_cons_self, rfl, hk⟩
    · obtain ⟨a, h1, h2⟩ := getA_mem h; exact ⟨a, List.mem_cons_of_mem _ h1, h2⟩
theorem textA_le (l : List GA) (k : ByteArray) : (un l k).size ≤ 150 * wtAs l := by
  unfold un
  cases h : getA l k with
  | none => exact Nat.zero_le _
  | some v =>
    obtain ⟨a, h1, rfl, _⟩ := getA_mem h
    have := xy h1
    have := a.wt_eq
    have : (xA a.val).size ≤ 150 * a.val.wt := by rw [xA, ze]; exact u5 _
    simp only [Option.getD_some]; omega
theorem textM_le (v : GV) : (xA v).size ≤ 150 * v.wt := by rw [xA, ze]; exact u5 _
theorem ub (r : GRes) : (zu r).size ≤ 150 * r.wt := by
  have := textA_le r.attrs skey
  unfold zu GRes.wt; omega
theorem wh {X : AV} {n : Nat} (h : X.width = n) (ha : (SV.imm X).isAgg = true) : getS 8 (.imm X) 0 n true = some (.imm X) := by
  unfold getS
  exact if_pos ⟨rfl, by rw [SV.width]; exact h, ha⟩
theorem ur {X Y : AV} (h : X.width = Y.width) (ha : (SV.imm X).isAgg = (SV.imm Y).isAgg) : setS 8 (.imm X) 0 (.imm Y) = some (.imm Y) := by
  unfold setS
  exact if_pos ⟨rfl, by rw [SV.width, SV.width]; exact h, ha⟩
theorem beqW {a b : Nat} (h : a = b) : Nat.beq a b = true := by subst h; exact Nat.beq_refl a
theorem GSpan.width (s : GSpan) : s.av.width = 42 := by
  simp only [GSpan.av, AV.width, AV.widths, sv, iv, uv]; rfl
theorem GL.width (s : GL) : s.av.width = 26 := by
  simp only [GL.av, AV.width, AV.widths, sv, iv, uv]; rfl
end Go.Proofs
namespace Go.Al
open Go.RowKit
section
variable {P : Program}
def AVTs (P : Program) (n : Nat) : List TypeId → List AV → Prop
  | [], [] => True
  | t :: ts, x :: xs => AVT P n t x ∧ AVTs P n ts xs
  | _, _ => False
theorem avts_of {n : Nat} : ∀ {tys : List TypeId} {l : List AV}, l.length = tys.length → (∀ (j : Nat) t x, tys[j]? = some t → l[j]? = some x → AVT P n t x) → AVTs P n tys l
  | [], [], _, _ => trivial
  | [], _ :: _, h, _ => by simp at h
  | _ :: _, [], h, _ => by simp at h
  | t :: ts, x :: xs, h, k => ⟨k 0 t x rfl rfl, avts_of (by simpa using h) fun j t' x' h1 h2 => k (j + 1) t' x' (by simpa using h1) (by simpa using h2)⟩
theorem AVT.struct {n : Nat} {T : TypeId} {X : AV} {fs : Array Field} {tys : List TypeId} (h : AVT P n T X) (hu : P.underlying T = some (.struct fs)) (ht : fs.toList.map (·.type) = tys) : ∃ m l, n = m + 1 ∧ X = .agg l ∧ AVTs P m tys l := by
  cases n with
  | zero => exact h.elim
  | succ n =>
    simp only [AVT, hu] at h
    obtain ⟨l, h1, h2, h3⟩ := h
    refine ⟨n, l, rfl, h1, avts_of (by rw [h2, ← ht]; simp) fun j t x hj hx => ?_⟩
    rw [← ht, List.getElem?_map] at hj
    cases hf : fs.toList[j]? with
    | none => rw [hf] at hj; cases hj
    | some fl => rw [hf] at hj; cases hj; exact h3 j fl x hf hx
theorem AVT.sl {n w : Nat} {T e : TypeId} {X : AV} (h : AVT P n T X) (hu : P.underlying T = some (.slice e)) (hw : P.cellsOf e = w) : ∃ m l, n = m + 1 ∧ X = .sl w l ∧ ∀ x ∈ l, AVT P m e x := by
  cases n with
  | zero => exact h.elim
  | succ n =>
    simp only [AVT, hu] at h
    obtain ⟨l, h1, h2⟩ := h
    exact ⟨n, l, rfl, by rw [← hw]; exact h1, h2⟩
theorem AVT.int {n : Nat} {T : TypeId} {X : AV} {k : IntKind} (h : AVT P n T X) (hu : P.underlying T = some (.int k)) : ∃ i, X = .v (.int k i) ∧ (Lit.int k i).wf = true := by
  cases n with
  | zero => exact h.elim
  | succ n => simp only [AVT, hu] at h; exact h
theorem AVT.str {n : Nat} {T : TypeId} {X : AV} (h : AVT P n T X) (hu : P.underlying T = some .string) : ∃ s : ByteArray, X = .v (.string s) ∧ s.size ≤ maxLen := by
  cases n with
  | zero => exact h.elim
  | succ n => simp only [AVT, hu] at h; exact h
theorem AVT.bool {n : Nat} {T : TypeId} {X : AV} (h : AVT P n T X) (hu : P.underlying T = some .bool) : ∃ b, X = .v (.bool b) := by
  cases n with
  | zero => exact h.elim
  | succ n => simp only [AVT, hu] at h; exact h
theorem AVT.arr {n m : Nat} {T e : TypeId} {X : AV} (h : AVT P n T X) (hu : P.underlying T = some (.array m e)) (he : P.underlying e = some (.int .u8)) : ∃ l : List UInt8, X = .arr m l ∧ l.length = m := by
  cases n with
  | zero => exact h.elim
  | succ n => simp only [AVT, hu, he] at h; exact h
theorem vx {α : Type} {f : α → AV} {Q : α → Prop} : ∀ {l : List AV}, (∀ x ∈ l, ∃ g, x = f g ∧ Q g) → ∃ gs : List α, l = gs.map f ∧ ∀ g ∈ gs, Q g
  | [], _ => ⟨[], rfl, fun g h => by cases h⟩
  | x :: l, h => by
    obtain ⟨g, h1, h2⟩ := h x List.mem_cons_self
    obtain ⟨gs, h3, h4⟩ := vx (l := l) fun y hy => h y (List.mem_cons_of_mem _ hy)
    refine ⟨g :: gs, by rw [h1, h3]; rfl, fun y hy => ?_⟩
    rcases List.mem_cons.1 hy with rfl | hy
    · exact h2
    · exact h4 y hy
theorem wf_u8 {i : Int} (h : (Lit.int .u8 i).wf = true) : 0 ≤ i ∧ i < 256 := by
  have : 0 ≤ i ∧ i ≤ 255 := by simpa [Lit.wf, IntKind.min, IntKind.max, IntKind.signed, IntKind.bits] using h
  omega
theorem wf_i64 {i : Int} (h : (Lit.int .i64 i).wf = true) : -9223372036854775808 ≤ i ∧ i < 9223372036854775808 := by
  have : -9223372036854775808 ≤ i ∧ i ≤ 9223372036854775807 := by simpa [Lit.wf, IntKind.min, IntKind.max, IntKind.signed, IntKind.bits] using h
  omega
theorem wf_u64 {i : Int} (h : (Lit.int .u64 i).wf = true) : 0 ≤ i ∧ i < 18446744073709551616 := by
  have : 0 ≤ i ∧ i ≤ 18446744073709551615 := by simpa [Lit.wf, IntKind.min, IntKind.max, IntKind.signed, IntKind.bits] using h
  omega
theorem glob_bytes {w : World} {g : Nat} {l : List UInt8} (h : ∀ i, i < l.length → w.cell? ⟨g, i, none⟩ = some (wr (l.getD i 0))) (h0 : 0 < l.length) :
    Glob [(g, .arr l.length l)] w (fun b _ => b < w.heap.size) := by
  intro p hp
  cases List.mem_singleton.1 hp
  refine ⟨l.map wr, by simp only [RepC]; exact ⟨trivial, trivial⟩, fun j hj => ?_⟩
  simp only [List.length_map] at hj
  have hc := h j hj
  refine ⟨?_, ?_⟩
  · rw [Nat.zero_add, hc]
    simp [List.getD, hj]
  · show g < w.heap.size
    have : w.heap.size ≤ g → False := by
      intro hle
      simp only [World.cell?] at hc
      rw [Array.getElem?_eq_none hle] at hc
      cases hc
    exact Nat.lt_of_not_le this
end
end Go.Al
namespace Go.Al
open Go.RowKit
end Go.Al
namespace Go.Proofs
open Go Go.Al
set_option maxRecDepth 10000
def dtys : List TypeId := [3, 4, 5, 9, 22, 24, 26, 27, 42, 44, 45, 47, 49, 51, 54, 56, 57, 58, 59, 61, 63, 68, 70, 72, 92, 94, 98]
theorem dtys_ok : dataTys Tryz.prog dtys = true := by kernel_rfl
theorem kids : Kids Tryz.prog (· < Tryz.prog.types.size) := kids_rows (by kernel_rfl) (by kernel_rfl)
theorem full : ∀ t e, t < Tryz.prog.types.size → Tryz.prog.underlying t = some (.slice e) → 0 < Tryz.prog.cellsOf e := slices_full_of _ (by kernel_rfl)
theorem co22 : Tryz.prog.cellsOf 47 = 2 := by kernel_rfl
theorem ft24 : (Program.fieldsOf Tryz.prog 24).toList.map (·.type) = [22] := by kernel_rfl
theorem co42 : Tryz.prog.cellsOf 5 = 1 := by kernel_rfl
theorem co44 : Tryz.prog.cellsOf 72 = 7 := by kernel_rfl
theorem co45 : Tryz.prog.cellsOf 51 = 3 := by kernel_rfl
theorem ft47 : (Program.fieldsOf Tryz.prog 47).toList.map (·.type) = [44, 45] := by kernel_rfl
theorem co49 : Tryz.prog.cellsOf 63 = 42 := by kernel_rfl
theorem ft51 : (Program.fieldsOf Tryz.prog 51).toList.map (·.type) = [9, 9, 49] := by kernel_rfl
theorem co58 : Tryz.prog.cellsOf 92 = 3 := by kernel_rfl
theorem co59 : Tryz.prog.cellsOf 94 = 26 := by kernel_rfl
theorem ft61 : (Program.fieldsOf Tryz.prog 61).toList.map (·.type) = [3, 9] := by kernel_rfl
theorem ft63 : (Program.fieldsOf Tryz.prog 63).toList.map (·.type) = [54, 56, 56, 9, 9, 3, 57, 57, 44, 58, 59, 61] := by kernel_rfl
theorem co68 : Tryz.prog.cellsOf 70 = 6 := by kernel_rfl
theorem ft70 : (Program.fieldsOf Tryz.prog 70).toList.map (·.type) = [5, 9, 3, 57, 68, 44] := by kernel_rfl
theorem ft72 : (Program.fieldsOf Tryz.prog 72).toList.map (·.type) = [9, 70] := by kernel_rfl
theorem ft92 : (Program.fieldsOf Tryz.prog 92).toList.map (·.type) = [57, 9, 44] := by kernel_rfl
theorem ft94 : (Program.fieldsOf Tryz.prog 94).toList.map (·.type) = [54, 56, 9, 44] := by kernel_rfl
theorem yK {n : Nat} {t : TypeId} {ts : List TypeId} {l : List AV} (h : AVTs Tryz.prog n (t :: ts) l) : ∃ x xs, l = x :: xs ∧ AVT Tryz.prog n t x ∧ AVTs Tryz.prog n ts xs := by
  cases l with
  | nil => exact h.elim
  | cons x xs => exact ⟨x, xs, rfl, h.1, h.2⟩
theorem vv {n : Nat} {l : List AV} (h : AVTs Tryz.prog n [] l) : l = [] := by
  cases l with
  | nil => rfl
  | cons x xs => exact h.elim
theorem in_V : ∀ n X, AVT Tryz.prog n 70 X → ∃ v : GV, X = avV v ∧ v.ok := by
  intro n
  induction n using Nat.strongRecOn with
  | _ n ih =>
  intro X h
  obtain ⟨m, l, rfl, rfl, q⟩ := AVT.struct h us70 ft70
  obtain ⟨x0, l0, rfl, h0, q0⟩ := yK q
  obtain ⟨x1, l1, rfl, h1, q1⟩ := yK q0
  obtain ⟨x2, l2, rfl, h2, q2⟩ := yK q1
  obtain ⟨x3, l3, rfl, h3, q3⟩ := yK q2
  obtain ⟨x4, l4, rfl, h4, q4⟩ := yK q3
  obtain ⟨x5, l5, rfl, h5, q5⟩ := yK q4
  obtain rfl := vv q5
  obtain ⟨k, rfl, wk⟩ := AVT.int h0 Tryz.underlying5
  obtain ⟨t, rfl, wt⟩ := AVT.str h1 Tryz.underlying9
  obtain ⟨i, rfl, wi⟩ := AVT.int h2 Tryz.underlying3
  obtain ⟨b, rfl, wb⟩ := AVT.int h3 Tryz.underlying57
  obtain ⟨m4, l4', rfl, rfl, e4⟩ := AVT.sl h4 Tryz.underlying68 co68
  obtain ⟨m5, l5', e5, rfl, e6⟩ := AVT.sl h5 Tryz.underlying44 co44
  obtain ⟨vs, rfl, ovs⟩ := vx (f := avV) (Q := GV.ok) fun x hx => ih m4 (by omega) x (e4 x hx)
  obtain ⟨az, rfl, oas⟩ := vx (f := avA) (Q := GA.ok) fun x hx => by
    have h := e6 x hx
    clear h0 h1 h2 h3 h4 h5 e4 e6
    obtain ⟨m', l, e7, rfl, q⟩ := AVT.struct h us72 ft72
    obtain ⟨x0, l0, rfl, h0, q0⟩ := yK q
    obtain ⟨x1, l1, rfl, h1, q1⟩ := yK q0
    obtain rfl := vv q1
    obtain ⟨key, rfl, wkey⟩ := AVT.str h0 Tryz.underlying9
    obtain ⟨v, rfl, ov⟩ := ih m' (by omega) x1 h1
    exact ⟨.mk key v, by rw [avA], by rw [GA.ok]; exact ⟨wkey, ov⟩⟩
  refine ⟨.mk k t i b vs az, by rw [avV_eq]; rfl, ?_⟩
  rw [GV.ok, okVs_iff, okAs_iff]
  exact ⟨wf_u8 wk, wt, wf_i64 wi, wf_u64 wb, ovs, oas⟩
theorem in_A {n : Nat} {X : AV} (h : AVT Tryz.prog n 72 X) : ∃ a : GA, X = avA a ∧ a.ok := by
  obtain ⟨m, l, rfl, rfl, q⟩ := AVT.struct h us72 ft72
  obtain ⟨x0, l0, rfl, h0, q0⟩ := yK q
  obtain ⟨x1, l1, rfl, h1, q1⟩ := yK q0
  obtain rfl := vv q1
  obtain ⟨key, rfl, wkey⟩ := AVT.str h0 Tryz.underlying9
  obtain ⟨v, rfl, ov⟩ := in_V _ _ h1
  exact ⟨.mk key v, by rw [avA], by rw [GA.ok]; exact ⟨wkey, ov⟩⟩
theorem in_As {n : Nat} {X : AV} (h : AVT Tryz.prog n 44 X) : ∃ l : List GA, X = .sl 7 (l.map avA) ∧ ∀ a ∈ l, a.ok := by
  obtain ⟨m, l, rfl, rfl, e⟩ := AVT.sl h Tryz.underlying44 co44
  obtain ⟨az, rfl, oas⟩ := vx (f := avA) (Q := GA.ok) fun x hx => in_A (e x hx)
  exact ⟨az, rfl, oas⟩
theorem in_E {n : Nat} {X : AV} (h : AVT Tryz.prog n 92 X) : ∃ e : GE, X = e.av ∧ e.ok := by
  obtain ⟨m, l, rfl, rfl, q⟩ := AVT.struct h us92 ft92
  obtain ⟨x0, l0, rfl, h0, q0⟩ := yK q
  obtain ⟨x1, l1, rfl, h1, q1⟩ := yK q0
  obtain ⟨x2, l2, rfl, h2, q2⟩ := yK q1
  obtain rfl := vv q2
  obtain ⟨t, rfl, wt⟩ := AVT.int h0 Tryz.underlying57
  obtain ⟨s, rfl, ws⟩ := AVT.str h1 Tryz.underlying9
  obtain ⟨az, rfl, oas⟩ := in_As h2
  exact ⟨⟨t, s, az⟩, rfl, wf_u64 wt, ws, oas⟩
theorem in_L {n : Nat} {X : AV} (h : AVT Tryz.prog n 94 X) : ∃ e : GL, X = e.av ∧ e.ok := by
  obtain ⟨m, l, rfl, rfl, q⟩ := AVT.struct h us94 ft94
  obtain ⟨x0, l0, rfl, h0, q0⟩ := yK q
  obtain ⟨x1, l1, rfl, h1, q1⟩ := yK q0
  obtain ⟨x2, l2, rfl, h2, q2⟩ := yK q1
  obtain ⟨x3, l3, rfl, h3, q3⟩ := yK q2
  obtain rfl := vv q3
  obtain ⟨t, rfl, wt⟩ := AVT.arr h0 Tryz.underlying54 Tryz.underlying5
  obtain ⟨s, rfl, ws⟩ := AVT.arr h1 Tryz.underlying56 Tryz.underlying5
  obtain ⟨z, rfl, wz⟩ := AVT.str h2 Tryz.underlying9
  obtain ⟨az, rfl, oas⟩ := in_As h3
  exact ⟨⟨t, s, z, az⟩, rfl, wt, ws, wz, oas⟩
theorem in_S {n : Nat} {X : AV} (h : AVT Tryz.prog n 63 X) : ∃ s : GSpan, X = s.av ∧ s.ok := by
  obtain ⟨m, l, rfl, rfl, q⟩ := AVT.struct h us63 ft63
  obtain ⟨x0, l0, rfl, h0, q0⟩ := yK q
  obtain ⟨x1, l1, rfl, h1, q1⟩ := yK q0
  obtain ⟨x2, l2, rfl, h2, q2⟩ := yK q1
  obtain ⟨x3, l3, rfl, h3, q3⟩ := yK q2
  obtain ⟨x4, l4, rfl, h4, q4⟩ := yK q3
  obtain ⟨x5, l5, rfl, h5, q5⟩ := yK q4
  obtain ⟨x6, l6, rfl, h6, q6⟩ := yK q5
  obtain ⟨x7, l7, rfl, h7, q7⟩ := yK q6
  obtain ⟨x8, l8, rfl, h8, q8⟩ := yK q7
  obtain ⟨x9, l9, rfl, h9, q9⟩ := yK q8
  obtain ⟨x10, l10, rfl, h10, q10⟩ := yK q9
  obtain ⟨x11, l11, rfl, h11, q11⟩ := yK q10
  obtain rfl := vv q11
  obtain ⟨tr, rfl, w0⟩ := AVT.arr h0 Tryz.underlying54 Tryz.underlying5
  obtain ⟨id, rfl, w1⟩ := AVT.arr h1 Tryz.underlying56 Tryz.underlying5
  obtain ⟨pa, rfl, w2⟩ := AVT.arr h2 Tryz.underlying56 Tryz.underlying5
  obtain ⟨s3, rfl, w3⟩ := AVT.str h3 Tryz.underlying9
  obtain ⟨s4, rfl, w4⟩ := AVT.str h4 Tryz.underlying9
  obtain ⟨i5, rfl, w5⟩ := AVT.int h5 Tryz.underlying3
  obtain ⟨i6, rfl, w6⟩ := AVT.int h6 Tryz.underlying57
  obtain ⟨i7, rfl, w7⟩ := AVT.int h7 Tryz.underlying57
  obtain ⟨az, rfl, w8⟩ := in_As h8
  obtain ⟨m9, l9', e9, rfl, k9⟩ := AVT.sl h9 Tryz.underlying58 co58
  obtain ⟨es, rfl, w9⟩ := vx (f := GE.av) (Q := GE.ok) fun x hx => in_E (k9 x hx)
  obtain ⟨m10, l10', e10, rfl, k10⟩ := AVT.sl h10 Tryz.underlying59 co59
  obtain ⟨ls, rfl, w10⟩ := vx (f := GL.av) (Q := GL.ok) fun x hx => in_L (k10 x hx)
  obtain ⟨mm, ll, em, rfl, qq⟩ := AVT.struct h11 us61 ft61
  obtain ⟨y0, ll0, rfl, g0, qq0⟩ := yK qq
  obtain ⟨y1, ll1, rfl, g1, qq1⟩ := yK qq0
  obtain rfl := vv qq1
  obtain ⟨c, rfl, wc⟩ := AVT.int g0 Tryz.underlying3
  obtain ⟨nt, rfl, wn⟩ := AVT.str g1 Tryz.underlying9
  exact ⟨⟨tr, id, pa, s3, s4, i5, i6, i7, az, es, ls, c, nt⟩, rfl, ⟨w0, w1, w2⟩, ⟨w3, w4, wn⟩, ⟨wf_i64 w5, wf_u64 w6, wf_u64 w7, wf_i64 wc⟩, w8, w9, w10⟩
theorem in_C {n : Nat} {X : AV} (h : AVT Tryz.prog n 51 X) : ∃ s : GScope, X = s.av ∧ s.ok := by
  obtain ⟨m, l, rfl, rfl, q⟩ := AVT.struct h us51 ft51
  obtain ⟨x0, l0, rfl, h0, q0⟩ := yK q
  obtain ⟨x1, l1, rfl, h1, q1⟩ := yK q0
  obtain ⟨x2, l2, rfl, h2, q2⟩ := yK q1
  obtain rfl := vv q2
  obtain ⟨s0, rfl, w0⟩ := AVT.str h0 Tryz.underlying9
  obtain ⟨s1, rfl, w1⟩ := AVT.str h1 Tryz.underlying9
  obtain ⟨m2, l2', e2, rfl, k2⟩ := AVT.sl h2 Tryz.underlying49 co49
  obtain ⟨ss, rfl, w2⟩ := vx (f := GSpan.av) (Q := GSpan.ok) fun x hx => in_S (k2 x hx)
  exact ⟨⟨s0, s1, ss⟩, rfl, w0, w1, w2⟩
theorem in_R {n : Nat} {X : AV} (h : AVT Tryz.prog n 47 X) : ∃ r : GRes, X = r.av ∧ r.ok := by
  obtain ⟨m, l, rfl, rfl, q⟩ := AVT.struct h us47 ft47
  obtain ⟨x0, l0, rfl, h0, q0⟩ := yK q
  obtain ⟨x1, l1, rfl, h1, q1⟩ := yK q0
  obtain rfl := vv q1
  obtain ⟨az, rfl, w0⟩ := in_As h0
  obtain ⟨m1, l1', e1, rfl, k1⟩ := AVT.sl h1 Tryz.underlying45 co45
  obtain ⟨ss, rfl, w1⟩ := vx (f := GScope.av) (Q := GScope.ok) fun x hx => in_C (k1 x hx)
  exact ⟨⟨az, ss⟩, rfl, w0, w1⟩
theorem in_B {n : Nat} {X : AV} (h : AVT Tryz.prog n 24 X) : ∃ b : List GRes, X = ya b ∧ okB b := by
  obtain ⟨m, l, rfl, rfl, q⟩ := AVT.struct h us24 ft24
  obtain ⟨x0, l0, rfl, h0, q0⟩ := yK q
  obtain rfl := vv q0
  obtain ⟨m1, l1', e1, rfl, k1⟩ := AVT.sl h0 Tryz.underlying22 co22
  obtain ⟨rs, rfl, w1⟩ := vx (f := GRes.av) (Q := GRes.ok) fun x hx => in_R (k1 x hx)
  exact ⟨rs, rfl, w1⟩
theorem in_u8s {n : Nat} {X : AV} (h : AVT Tryz.prog n 42 X) : ∃ l : List Int, X = .sl 1 (l.map fun x => cv x) ∧ ∀ x ∈ l, 0 ≤ x ∧ x < 256 := by
  obtain ⟨m, l, rfl, rfl, e⟩ := AVT.sl h Tryz.underlying42 co42
  obtain ⟨az, rfl, o⟩ := vx (f := fun x => cv x) (Q := fun x : Int => 0 ≤ x ∧ x < 256) fun x hx => by obtain ⟨s, rfl, w⟩ := AVT.int (e x hx) Tryz.underlying5; exact ⟨s, rfl, wf_u8 w⟩
  exact ⟨az, rfl, o⟩
end Go.Proofs
namespace Go.Proofs
open Go Go.Al
theorem cmp_bl : ∀ a b : Bs, (Lib.compareBytes a b < 0 ↔ Op.bytesLess a b = true) ∧ (Lib.compareBytes a b = 0 ↔ a = b)
  | [], [] => by simp [Lib.compareBytes, Op.bytesLess]
  | [], _ :: _ => by simp [Lib.compareBytes, Op.bytesLess]
  | _ :: _, [] => by simp [Lib.compareBytes, Op.bytesLess]
  | x :: a, y :: b => by
    have ih := cmp_bl a b
    simp only [Lib.compareBytes, Op.bytesLess]
    by_cases h : x < y
    · have : ¬ x = y := by rintro rfl; exact absurd h (UInt8.lt_irrefl _)
      simp [h, this]
    · by_cases h2 : y < x
      · have : ¬ x = y := by rintro rfl; exact absurd h2 (UInt8.lt_irrefl _)
        simp [h, h2, this]
      · have : x = y := UInt8.le_antisymm (UInt8.not_lt.1 h2) (UInt8.not_lt.1 h)
        subst this
        simp [h, ih.1, ih.2]
def cmpK (s t : ByteArray) : Int := Lib.compareBytes s.data.toList t.data.toList
theorem cmpK_lt (s t : ByteArray) : cmpK s t < 0 ↔ ltB s t = true := (cmp_bl _ _).1
theorem cmpK_eq (s t : ByteArray) : cmpK s t = 0 ↔ s = t := (cmp_bl _ _).2.trans ⟨sZ, fun h => by rw [h]⟩
def posA : List GA → ByteArray → Nat
  | [], _ => 0
  | x :: xs, k => if ltB x.key k then posA xs k + 1 else 0
theorem posA_le : ∀ (l : List GA) (k : ByteArray), posA l k ≤ l.length
  | [], _ => Nat.le_refl _
  | x :: xs, k => by rw [posA]; split; (have := posA_le xs k; simp; omega); simp
theorem posA_spec : ∀ (l : List GA) (k : ByteArray) (lo : Nat), lo ≤ l.length → (∀ i, i < lo → ltB (nthA l i).key k = true) → (∀ i, lo ≤ i → i < l.length → ltB (nthA l i).key k = false) → lo = posA l k
  | [], k, lo, h1, _, _ => by simpa [posA] using h1
  | x :: xs, k, 0, h1, h2, h3 => by
    have := h3 0 (Nat.le_refl _) (by simp)
    rw [posA, if_neg (by simpa [nthA, nth] using this)]
  | x :: xs, k, lo + 1, h1, h2, h3 => by
    have h4 := h2 0 (by omega)
    rw [posA, if_pos (by simpa [nthA, nth] using h4)]
    rw [posA_spec xs k lo (by simpa using h1) (fun i hi => by have := h2 (i + 1) (by omega); simpa [nthA, nth] using this) (fun i hi hl => by have := h3 (i + 1) (by omega) (by simp; omega); simpa [nthA, nth] using this)]
theorem ris_nth : ∀ {l : List GA} {p : Option ByteArray}, risA p l → ∀ {i j : Nat}, i < j → j < l.length → ltB (nthA l i).key (nthA l j).key = true
  | x :: xs, p, h, 0, j + 1, _, hj => by
    have := risA_mem h.2 (nthA xs j) (xY (by simpa using hj))
    simpa [nthA, nth] using this
  | x :: xs, p, h, i + 1, j + 1, hij, hj => by
    have := ris_nth h.2 (i := i) (j := j) (by omega) (by simpa using hj)
    simpa [nthA, nth] using this
theorem ris_left {l : List GA} (h : risA none l) {k : ByteArray} {m i : Nat} (hm : m < l.length) (hk : ltB (nthA l m).key k = true) (hi : i ≤ m) : ltB (nthA l i).key k = true := by
  rcases Nat.lt_or_ge i m with h1 | h1
  · exact tU (ris_nth h h1 hm) hk
  · rw [show i = m by omega]; exact hk
theorem ris_right {l : List GA} (h : risA none l) {k : ByteArray} {m i : Nat} (hk : ltB (nthA l m).key k = false) (hi : m ≤ i) (hl : i < l.length) : ltB (nthA l i).key k = false := by
  rcases Nat.lt_or_ge m i with h1 | h1
  · cases hq : ltB (nthA l i).key k with
    | false => rfl
    | true => rw [tU (ris_nth h h1 hl) hq] at hk; cases hk
  · rw [show i = m by omega]; exact hk
def hasA (l : List GA) (k : ByteArray) : Bool := decide (posA l k < l.length) && decide ((nthA l (posA l k)).key = k)
theorem jD : ∀ {l : List GA} {p : Option ByteArray} (h : risA p l) (k : ByteArray), getA l k = if hasA l k then some (nthA l (posA l k)).val else none
  | [], _, _, k => by simp [getA, hasA, posA]
  | x :: xs, p, h, k => by
    rw [getA, hasA, posA]
    by_cases hx : ltB x.key k = true
    · have hne : ¬ x.key = k := by intro e; rw [e, xT] at hx; cases hx
      rw [if_neg hne, jD h.2 k, hasA]
      simp only [hx, if_true]
      simp [nthA, nth]
    · simp only [hx]
      by_cases he : x.key = k
      · simp [he, nthA, nth]
      · have hno : getA xs k = none := by
          cases hg : getA xs k with
          | none => rfl
          | some v =>
            obtain ⟨a, ha, _, hk⟩ := getA_mem hg
            have := risA_mem h.2 a ha
            rw [hk] at this
            exact absurd this hx
        simp [he, hno, nthA, nth]
theorem getA_drop {l : List GA} {k : ByteArray} {i : Nat} (h : i < l.length) : getA (l.drop i) k = if (nthA l i).key = k then some (nthA l i).val else getA (l.drop (i + 1)) k := by
  have e : nthA l i = l[i] := by unfold nthA nth; rw [List.getD_eq_getElem?_getD, List.getElem?_eq_getElem h]; rfl
  rw [List.drop_eq_getElem_cons h, getA, e]
theorem toList_lst (s : ByteArray) : s.toList = lst s := strList s
theorem less_eq (s t : ByteArray) : Op.bytesLess s.toList t.toList = ltB s t := by rw [toList_lst, toList_lst]; rfl
theorem intoA_pos : ∀ (l : List GA) (a : GA), xf l a = l.take (posA l a.key) ++ [a] ++ (if hasA l a.key then l.drop (posA l a.key + 1) else l.drop (posA l a.key))
  | [], a => by simp [xf, posA, hasA]
  | x :: xs, a => by
    rw [xf, hasA, posA]
    by_cases hx : ltB x.key a.key = true
    · rw [if_pos hx, intoA_pos xs a, hasA]
      simp only [hx, if_true]
      simp [nthA, nth]
    · rw [if_neg hx]
      simp only [hx]
      by_cases he : x.key = a.key
      · simp [he, nthA, nth]
      · simp [he, nthA, nth]
end Go.Proofs
namespace Go.Proofs
open Go Go.Al
def uB : List GE → Int → Int
  | [], m => m
  | e :: es, m => if m < 0 then m else if (e.name.size : Int) > m then -1 else uB es (yS e.attrs (m - 1 - e.name.size))
def v6 : List GL → Int → Int
  | [], m => m
  | e :: es, m => if m < 0 then m else if (e.state.size : Int) > m then -1 else v6 es (yS e.attrs (m - 1 - e.state.size))
def uP (s : GSpan) (n : Int) : Int :=
  if n < 0 ∨ (s.state.size : Int) > n ∨ (s.name.size : Int) > n ∨ (s.note.size : Int) > n then -1
  else v6 s.links (uB s.events (yS s.attrs (n - 1 - s.state.size - s.name.size - s.note.size)))
def wo : List GSpan → Int → Int
  | [], m => m
  | x :: xs, m => if m < 0 then m else wo xs (uP x m)
def uZ : List GScope → Int → Int
  | [], m => m
  | c :: cs, m => if m < 0 then m else if (c.name.size : Int) > m ∨ (c.version.size : Int) > m then -1 else uZ cs (wo c.spans (m - 1 - c.name.size - c.version.size))
def sL : List GRes → Int → Int
  | [], m => m
  | r :: rs, m => if m < 0 then m else sL rs (uZ r.scopes (yS r.attrs (m - 1)))
theorem ja {l : List GA} {n : Int} (h : 0 ≤ yS l n) : yS l n + wtAs l ≤ n := by
  rw [vp] at h ⊢
  unfold v9 at h ⊢
  split at h <;> (try split at h) <;> (try split) <;> (try split) <;> omega
theorem leftE_neg : ∀ (es : List GE) {m : Int}, m < 0 → uB es m = m
  | [], _, _ => rfl
  | _ :: _, m, h => by rw [uB, if_pos h]
theorem xN : ∀ (es : List GL) {m : Int}, m < 0 → v6 es m = m
  | [], _, _ => rfl
  | _ :: _, m, h => by rw [v6, if_pos h]
theorem leftSp_neg : ∀ (es : List GSpan) {m : Int}, m < 0 → wo es m = m
  | [], _, _ => rfl
  | _ :: _, m, h => by rw [wo, if_pos h]
theorem leftC_neg : ∀ (es : List GScope) {m : Int}, m < 0 → uZ es m = m
  | [], _, _ => rfl
  | _ :: _, m, h => by rw [uZ, if_pos h]
theorem vT : ∀ (es : List GRes) {m : Int}, m < 0 → sL es m = m
  | [], _, _ => rfl
  | _ :: _, m, h => by rw [sL, if_pos h]
theorem leftE_wt : ∀ (es : List GE) {m : Int}, 0 ≤ uB es m → uB es m + zg GE.wt es ≤ m
  | [], m, h => by simp [uB, zg]
  | e :: es, m, h => by
    rw [uB] at h ⊢
    split at h
    · omega
    split at h
    · omega
    rename_i h1 h2
    rw [if_neg h1, if_neg h2]
    have h3 := leftE_wt es h
    have h4 := ja (l := e.attrs) (n := m - 1 - e.name.size) (by omega)
    simp only [zg, GE.wt]; omega
theorem leftL_wt : ∀ (es : List GL) {m : Int}, 0 ≤ v6 es m → v6 es m + zg GL.wt es ≤ m
  | [], m, h => by simp [v6, zg]
  | e :: es, m, h => by
    rw [v6] at h ⊢
    split at h
    · omega
    split at h
    · omega
    rename_i h1 h2
    rw [if_neg h1, if_neg h2]
    have h3 := leftL_wt es h
    have h4 := ja (l := e.attrs) (n := m - 1 - e.state.size) (by omega)
    simp only [zg, GL.wt]; omega
theorem leftS_wt {s : GSpan} {n : Int} (h : 0 ≤ uP s n) : uP s n + s.wt ≤ n := by
  unfold uP at h ⊢
  split at h
  · omega
  rename_i h1
  rw [if_neg h1]
  have h2 := leftL_wt _ h
  have h3 := leftE_wt s.events (m := yS s.attrs (n - 1 - s.state.size - s.name.size - s.note.size)) (by omega)
  have h4 := ja (l := s.attrs) (n := n - 1 - s.state.size - s.name.size - s.note.size) (by omega)
  unfold GSpan.wt; omega
theorem leftSp_wt : ∀ (es : List GSpan) {m : Int}, 0 ≤ wo es m → wo es m + zg GSpan.wt es ≤ m
  | [], m, h => by simp [wo, zg]
  | e :: es, m, h => by
    rw [wo] at h ⊢
    split at h
    · omega
    rename_i h1
    rw [if_neg h1]
    have h3 := leftSp_wt es h
    have h4 := leftS_wt (s := e) (n := m) (by omega)
    simp only [zg]; omega
theorem leftC_wt : ∀ (es : List GScope) {m : Int}, 0 ≤ uZ es m → uZ es m + zg GScope.wt es ≤ m
  | [], m, h => by simp [uZ, zg]
  | e :: es, m, h => by
    rw [uZ] at h ⊢
    split at h
    · omega
    split at h
    · omega
    rename_i h1 h2
    rw [if_neg h1, if_neg h2]
    have h3 := leftC_wt es h
    have h4 := leftSp_wt e.spans (m := m - 1 - e.name.size - e.version.size) (by omega)
    simp only [zg, GScope.wt]; omega
theorem leftR_wt : ∀ (es : List GRes) {m : Int}, 0 ≤ sL es m → sL es m + wtB es ≤ m
  | [], m, h => by simp [sL, zg, wtB]
  | e :: es, m, h => by
    rw [sL] at h ⊢
    split at h
    · omega
    rename_i h1
    rw [if_neg h1]
    have h3 := leftR_wt es h
    have h4 := leftC_wt e.scopes (m := yS e.attrs (m - 1)) (by omega)
    have h5 := ja (l := e.attrs) (n := m - 1) (by omega)
    simp only [wtB, zg, GRes.wt] at h3 ⊢; omega
theorem xW {α : Type} {l : List α} {i : Nat} {d : α} (h : i < l.length) : l.drop i = nth l i d :: l.drop (i + 1) := by
  rw [List.drop_eq_getElem_cons h]
  congr 1
  unfold nth
  rw [List.getD_eq_getElem?_getD, List.getElem?_eq_getElem h]; rfl
theorem leftE_drop {l : List GE} {i : Nat} {m : Int} (hi : i < l.length) (hm : ¬ m < 0) (hk : ¬ ((nthE l i).name.size : Int) > m) : uB (l.drop i) m = uB (l.drop (i + 1)) (yS (nthE l i).attrs (m - 1 - (nthE l i).name.size)) := by
  rw [xW (d := ge0) hi, uB, if_neg hm]; exact if_neg hk
theorem wV {l : List GE} {i : Nat} {m : Int} (hi : i < l.length) (hm : ¬ m < 0) (hk : ((nthE l i).name.size : Int) > m) : uB (l.drop i) m = -1 := by
  rw [xW (d := ge0) hi, uB, if_neg hm]; exact if_pos hk
theorem leftL_drop {l : List GL} {i : Nat} {m : Int} (hi : i < l.length) (hm : ¬ m < 0) (hk : ¬ ((nthL l i).state.size : Int) > m) : v6 (l.drop i) m = v6 (l.drop (i + 1)) (yS (nthL l i).attrs (m - 1 - (nthL l i).state.size)) := by
  rw [xW (d := gl0) hi, v6, if_neg hm]; exact if_neg hk
theorem wP {l : List GL} {i : Nat} {m : Int} (hi : i < l.length) (hm : ¬ m < 0) (hk : ((nthL l i).state.size : Int) > m) : v6 (l.drop i) m = -1 := by
  rw [xW (d := gl0) hi, v6, if_neg hm]; exact if_pos hk
theorem leftSp_drop {l : List GSpan} {i : Nat} {m : Int} (hi : i < l.length) (hm : ¬ m < 0) : wo (l.drop i) m = wo (l.drop (i + 1)) (uP (nthS l i) m) := by
  rw [xW (d := gs0) hi, wo, if_neg hm]; rfl
theorem leftC_drop {l : List GScope} {i : Nat} {m : Int} (hi : i < l.length) (hm : ¬ m < 0) (h1 : ¬ ((nthC l i).name.size : Int) > m) (h2 : ¬ ((nthC l i).version.size : Int) > m) : uZ (l.drop i) m = uZ (l.drop (i + 1)) (wo (nthC l i).spans (m - 1 - (nthC l i).name.size - (nthC l i).version.size)) := by
  rw [xW (d := gc0) hi, uZ, if_neg hm]; exact if_neg (fun h => h.elim h1 h2)
theorem v5 {l : List GScope} {i : Nat} {m : Int} (hi : i < l.length) (hm : ¬ m < 0) (h1 : ((nthC l i).name.size : Int) > m ∨ ((nthC l i).version.size : Int) > m) : uZ (l.drop i) m = -1 := by
  rw [xW (d := gc0) hi, uZ, if_neg hm]; exact if_pos h1
theorem wH {l : List GRes} {i : Nat} {m : Int} (hi : i < l.length) (hm : ¬ m < 0) : sL (l.drop i) m = sL (l.drop (i + 1)) (uZ (nthR l i).scopes (yS (nthR l i).attrs (m - 1))) := by
  rw [xW (d := gr0) hi, sL, if_neg hm]; rfl
end Go.Proofs
namespace Go.Proofs
open Go Go.Al
set_option maxRecDepth 10000
theorem dgrown_c (xs : List AV) (hw : W1 xs) (hl : xs.length ≤ 1000000000000) : tE Tryz.prog Γ0 157 [.imm (.sl 1 xs)] [] (.slg 3009 1 xs) [(3009, .tok 1 xs)] := by
  refine vE (rs := [.slg 3009 1 xs]) Tryz.func157 rfl Tryz.ntmps157 (by kernel_rfl) rfl rfl rfl rfl rfl fun w0 I0 G0 E => ?_
  refine zD <| zB <| g_u (zE rfl rfl) <| zH <| zA <| zD <| zB <| g_u (zC rfl rfl) <| g_u (z7 rfl rfl Tryz.underlying42) <| g_u (zC rfl rfl) <| g_u (z7 rfl rfl Tryz.underlying42) <| g_u (z0 rfl rfl rfl) ?_
  refine g_uG (uk 1009 (X0 := z5) (len := xs.length) (cap := xs.length + 21) rfl rfl rfl rfl rfl rfl (by ((try simp only [decide_eq_true_eq, decide_eq_false_iff_not, bne_iff_ne, ne_eq, beq_iff_eq, qd, beq_eq_false_iff_ne, Bool.not_eq_true', Bool.not_eq_false', gt_iff_lt, ge_iff_le] at *); (repeat simp (disch := omega) only [zO, zi] at *)); omega) Tryz.underlying42 tS5 tZ5 rfl rfl by5 (by omega) (by omega) (by omega)) rfl ?_
  refine g_u (s_as_osl rfl rfl) <| zH <| zA <| zD <| zB <| g_u (rE rfl rfl) <| g_u (zC rfl rfl) ?_
  refine g_u (sb (el := 5) (el' := 0) (T1 := 0) rfl rfl rfl rfl rfl Tryz.underlying42 tS5 (by intro x hx; rw [List.eq_of_mem_replicate hx]; rfl) (by simp <;> omega)) ?_
  refine zH <| zA ?_
  refine tb 1009 3009 1 (xs) [(0, .imm (.sl 1 xs)), (3, .slg 3009 1 xs)] rfl rfl rfl rfl rfl rfl rfl ⟨.inl rfl, .inr (.inl ⟨rfl, rfl⟩), trivial⟩ (cp_w (hw) rfl) (by rw [← cp_len rfl (by simp <;> omega)]; simp <;> omega) (by omega) (by unfold maxLen; omega) (cp_take rfl (by simp <;> omega)) ?_
  refine zD <| zB <| g_u (yW rfl rfl) <| g_u (yY rfl rfl) <| zH <| zA <| zL ?_
  exact ⟨⟨.inr ⟨_, rfl, (by rfl), rfl⟩, trivial⟩, ⟨rfl, trivial⟩⟩
theorem dlay_c (xs : List AV) (u : Int) (h : 0 ≤ u ∧ u < 18446744073709551616) (hl : xs.length ≤ 1000000000000) : tE Tryz.prog Γ0 158 [.slg 100001 1 xs, .imm (uv u)] [(100001, .tok 1 xs)] (.slg 100001 1 (xs ++ zx (natB u.toNat))) [(100001, .tok 1 (xs ++ zx (natB u.toNat)))] := by
  refine vE (rs := [.slg 100001 1 (xs ++ zx (natB u.toNat))]) Tryz.func158 rfl Tryz.ntmps158 (by kernel_rfl) rfl rfl rfl rfl rfl fun w0 I0 G0 E => ?_
  refine zD <| zB <| g_u (zE rfl rfl) <| zH <| zA <| zD <| zB <| g_uG (zy 1005 rfl rfl rfl tZ198) rfl <| zH <| zA <| zD <| zB <| g_u (zE rfl rfl) <| zH <| zA <| zD <| zU ?_
  refine zw (fun j : Nat × Int × Bs => [(0, .slg 100001 1 xs), (100001, .tok 1 xs), (1, .imm (uv j.2.1)), (5, .ptr 1005 0), (1005, .box 198 (.imm (.arr 20 j.2.2))), (6, .imm (iv (j.1 : Int)))]) (fun j => 1 ≤ j.1 ∧ j.1 ≤ 20 ∧ j.2.2.length = 20 ∧ (0 ≤ j.2.1 ∧ j.2.1 < 18446744073709551616 ∧ j.2.1 < 10 ^ j.1) ∧ natF j.1 j.2.1.toNat ++ j.2.2.drop j.1 = natB u.toNat) (fun j => j.1) (⟨20, u, List.replicate 20 0⟩) ?_ ⟨rfl, rfl, rfl, rfl, rfl, rfl, trivial⟩ ?_
  · exact ⟨by dsimp only; omega, by dsimp only; omega, by simp, ⟨h.1, h.2, by have := h.2; show u < 10 ^ 20; omega⟩, by rw [show (List.replicate 20 (0 : UInt8)).drop 20 = [] from rfl, List.append_nil]; rfl⟩
  · rintro ⟨i, v, l⟩ ⟨h1, h2, h3, h4, h5⟩; dsimp only at h1 h2 h3 h4 h5; obtain ⟨i, rfl⟩ : ∃ k, i = k + 1 := ⟨i - 1, by omega⟩; have e0 : 0 + (IntKind.i64.wrap (((i + 1 : Nat) : Int) - 1)).toNat = i := by rw [zO (by omega) (by omega)]; omega
    refine zU <| zD <| zB <| g_u (zC rfl rfl) <| g_u (vW rfl rfl rfl) <| g_u (zE rfl rfl) <| zH <| zA <| zD <| zB <| g_u (zC rfl rfl) <| g_u (zC rfl rfl) ?_
    refine g_u (r8 rfl rfl rfl (by first | decide | omega | (((try simp only [decide_eq_true_eq, decide_eq_false_iff_not, bne_iff_ne, ne_eq, beq_iff_eq, qd, beq_eq_false_iff_ne, Bool.not_eq_true', Bool.not_eq_false', gt_iff_lt, ge_iff_le] at *); (repeat simp (disch := omega) only [zO, zi] at *)); omega))) ?_
    refine g_u (xL rfl rfl Tryz.underlying57 Tryz.underlying5) <| g_u (z0 rfl rfl rfl) ?_
    refine g_u (s_ixOwn rfl rfl rfl Tryz.underlying198 tS5 (by ((try simp only [decide_eq_true_eq, decide_eq_false_iff_not, bne_iff_ne, ne_eq, beq_iff_eq, qd, beq_eq_false_iff_ne, Bool.not_eq_true', Bool.not_eq_false', gt_iff_lt, ge_iff_le] at *); (repeat simp (disch := omega) only [zO, zi] at *)); omega)) ?_
    refine g_u (s_storeByte rfl rfl rfl tS5 (by ((try simp only [decide_eq_true_eq, decide_eq_false_iff_not, bne_iff_ne, ne_eq, beq_iff_eq, qd, beq_eq_false_iff_ne, Bool.not_eq_true', Bool.not_eq_false', gt_iff_lt, ge_iff_le] at *); (repeat simp (disch := omega) only [zO, zi] at *)); omega) (wrap8_lt _)) ?_
    refine zH <| zA <| zD <| zB <| g_u (zC rfl rfl) ?_
    refine g_u (rN rfl rfl rfl (by first | decide | omega | (((try simp only [decide_eq_true_eq, decide_eq_false_iff_not, bne_iff_ne, ne_eq, beq_iff_eq, qd, beq_eq_false_iff_ne, Bool.not_eq_true', Bool.not_eq_false', gt_iff_lt, ge_iff_le] at *); (repeat simp (disch := omega) only [zO, zi] at *)); omega))) ?_
    refine g_u (zE rfl rfl) <| zH <| zA <| zD <| zB <| g_u (zC rfl rfl) <| g_u (yz rfl rfl rfl) <| zH <| zA ?_
    refine zN rfl (fun hb1 => ?_) (fun hb1 => ?_)
    · refine zz ?_
      refine exit_blk_ne rfl <| zT <| zq <| zA <| zD <| zB <| g_u (yW rfl rfl) <| g_u (zC rfl rfl) ?_
      refine g_u (s_slOwn_l rfl rfl rfl rfl rfl Tryz.underlying198 tS5 rfl (by ((try simp only [decide_eq_true_eq, decide_eq_false_iff_not, bne_iff_ne, ne_eq, beq_iff_eq, qd, beq_eq_false_iff_ne, Bool.not_eq_true', Bool.not_eq_false', gt_iff_lt, ge_iff_le] at *); (repeat simp (disch := omega) only [zO, zi] at *)); omega)) ?_
      refine g_u (yh rfl rfl rfl rfl rfl Tryz.underlying42 Tryz.underlying42 tS5 zv5 rfl (by decide) by5 (by simp only [yQ, List.length_drop, List.length_set]; omega) (by simp only [yQ, List.length_drop, List.length_set]; omega)) ?_
      refine g_u (yY rfl rfl) <| zH <| zA <| zL ?_
      change (IntKind.u64.wrap (v.tdiv 10) == 0) = true at hb1
      have e1 : IntKind.u64.wrap (v.tdiv 10) = v / 10 := by rw [uS v 10 h4.1 (by decide), xb (by omega) (by omega)]
      rw [e1] at hb1
      have hu : v < 10 := by have : v / 10 = 0 := (by simpa using hb1); omega
      have E : zx ((l.set (0 + (IntKind.i64.wrap (((i + 1 : Nat) : Int) - 1)).toNat) (ofI (IntKind.u8.wrap (48 + IntKind.u8.wrap (v.tmod 10))))).drop (IntKind.i64.wrap (((i + 1 : Nat) : Int) - 1)).toNat) = zx (natB u.toNat) := by rw [Nat.zero_add] at e0; rw [Nat.zero_add, e0, uQ v 10 h4.1, dig_av h4.1, set_drop (by omega), ← h5, natF_stop h4.1 hu]; rfl
      exact ⟨⟨.inr ⟨_, rfl, yl rfl (congrArg (xs ++ ·) E), rfl⟩, trivial⟩, ⟨yf rfl (congrArg (xs ++ ·) E), trivial⟩⟩
    · refine zQ ?_
      refine zW <| zA ?_
      have e1 : IntKind.u64.wrap (v.tdiv 10) = v / 10 := by rw [uS v 10 h4.1 (by decide), xb (by omega) (by omega)]
      change (IntKind.u64.wrap (v.tdiv 10) == 0) = false at hb1
      rw [e1] at hb1
      have hu : 10 ≤ v := by have : v / 10 ≠ 0 := (by simpa using hb1); omega
      have hi : 1 ≤ i := by rcases Nat.eq_zero_or_pos i with rfl | hi; (simp at h4; omega); exact hi
      refine ⟨⟨i, IntKind.u64.wrap (v.tdiv 10), l.set (0 + (IntKind.i64.wrap (((i + 1 : Nat) : Int) - 1)).toNat) (ofI (IntKind.u8.wrap (48 + IntKind.u8.wrap (v.tmod 10))))⟩, ⟨hi, by dsimp only; omega, by simpa using h3, ?_, ?_⟩, ⟨rfl, rfl, rfl, rfl, rfl, zX rfl (by rw [zO (by omega) (by omega)]; omega), trivial⟩, Nat.lt_succ_self _⟩
      · dsimp only; rw [e1]; refine ⟨by omega, by omega, ?_⟩; have := h4.2.2; rw [Int.pow_succ] at this; omega
      · dsimp only; rw [e0, e1, uQ v 10 h4.1, dig_av h4.1, set_drop (by omega)]; rw [natF_step h4.1 hu] at h5; simpa using h5
theorem dput_c (l : Bs) (n : Int) (h : -9223372036854775808 ≤ n ∧ n < 9223372036854775808) (hl : l.length ≤ 100000000000) : zn Tryz.prog Γ0 145 [.sl 1 (zx l), iv n] [.sl 1 (zx (l ++ decB n))] := by
  have hb := yQ l
  have u0 : n < 0 → IntKind.u64.wrap (0 - IntKind.u64.wrap n) = -n := fun hn => by simp [IntKind.wrap, IntKind.bits, IntKind.signed]; omega
  have u1 : ¬ n < 0 → IntKind.u64.wrap n = n := fun hn => xb (by omega) (by omega)
  refine z_ Tryz.func145 rfl Tryz.ntmps145 (by kernel_rfl) rfl fun w0 I0 G0 => ?_
  refine zD <| zB <| g_u (zE rfl rfl) <| zH <| zA <| zD <| zB <| g_u (zC rfl rfl) ?_
  refine g_uG (vg [(3009, 20001)] (dgrown_c _ (by first | assumption | exact W1.bytes _) (by first | assumption | omega)) rfl rfl ⟨.inl rfl, trivial⟩ trivial rfl rfl rfl) rfl ?_
  refine g_u (yY rfl rfl) <| zH <| zA <| zD <| zD <| zB <| g_u (zC rfl rfl) <| g_u (ye rfl rfl rfl) <| zH <| zA ?_
  refine zN rfl (fun hb1 => ?_) (fun hb1 => ?_)
  · refine zD ?_
    refine zB <| g_u (yW rfl rfl) <| g_u (zl (X0 := z5) rfl Tryz.underlying42 tS5 tZ5 rfl rfl rfl rfl rfl rfl rfl rfl) ?_
    refine g_u (yh rfl rfl rfl rfl rfl Tryz.underlying42 Tryz.underlying42 tS5 zv5 rfl (by decide) by5 (by simp only [List.length_cons, List.length_nil]; omega) (by simp only [List.length_cons, List.length_nil]; omega)) ?_
    refine g_u (zC rfl rfl) <| g_u (xL rfl rfl Tryz.underlying3 Tryz.underlying57) <| g_u (s_neg rfl rfl) ?_
    refine g_uG (vg [(100001, 20001)] (dlay_c _ _ (by rw [u0 (by simpa using hb1)]; have : n < 0 := (by simpa using hb1); omega) (by simp only [List.length_append, List.length_cons, List.length_nil]; omega)) rfl rfl ⟨.inl rfl, .inl rfl, trivial⟩ ⟨rfl, trivial⟩ rfl rfl rfl) rfl ?_
    refine g_u (yY rfl rfl) <| zH <| zA <| zL <| zK ?_
    exact ⟨⟨(rfl : toAV (Al.look _ _) = some _).trans (congrArg some (by (rw [u0 (by simpa using hb1)]; unfold decB; rw [if_pos (by simpa using hb1)]; rw [List.append_assoc]; simp only [← yo]; rfl))), rfl⟩, trivial⟩
  · refine zQ ?_
    refine zA <| zD <| zB <| g_u (yW rfl rfl) <| g_u (zC rfl rfl) <| g_u (xL rfl rfl Tryz.underlying3 Tryz.underlying57) ?_
    refine g_uG (vg [(100001, 20001)] (dlay_c _ _ (by rw [u1 (by simpa using hb1)]; have : ¬ n < 0 := (by simpa using hb1); omega) (by omega)) rfl rfl ⟨.inl rfl, .inl rfl, trivial⟩ ⟨rfl, trivial⟩ rfl rfl rfl) rfl ?_
    refine g_u (yY rfl rfl) <| zH <| zA <| zL ?_
    exact ⟨⟨(rfl : toAV (Al.look _ _) = some _).trans (congrArg some (by (rw [u1 (by simpa using hb1)]; unfold decB; rw [if_neg (by simpa using hb1)]; rw [yo]))), rfl⟩, trivial⟩
theorem textU_step (u : Int) (h : 0 ≤ u ∧ u < 18446744073709551616) (ih : 10 ≤ u → zn Tryz.prog Γ0 77 [uv (u / 10)] [sv (yF (natB (u / 10).toNat))]) : zn Tryz.prog Γ0 77 [uv u] [sv (yF (natB u.toNat))] := by
  have hd := dig10 u h.1
  have e1 : IntKind.u64.wrap (u.tdiv 10) = u / 10 := by rw [uS u 10 h.1 (by decide), xb (by omega) (by omega)]
  have l1 := natB_length (u / 10).toNat
  refine z_ Tryz.func77 rfl Tryz.ntmps77 (by kernel_rfl) rfl fun w0 I0 G0 => ?_
  refine zD <| zB <| g_u (zE rfl rfl) <| zH <| zA <| zD <| zB <| g_u (zC rfl rfl) ?_
  refine g_u (r8 rfl rfl rfl (by first | decide | omega | (((try simp only [decide_eq_true_eq, decide_eq_false_iff_not, bne_iff_ne, ne_eq, beq_iff_eq, qd, beq_eq_false_iff_ne, Bool.not_eq_true', Bool.not_eq_false', gt_iff_lt, ge_iff_le] at *); (repeat simp (disch := omega) only [zO, zi] at *)); omega))) ?_
  refine g_u (zC rfl rfl) ?_
  refine g_u (r8 rfl rfl rfl (by first | decide | omega | (((try simp only [decide_eq_true_eq, decide_eq_false_iff_not, bne_iff_ne, ne_eq, beq_iff_eq, qd, beq_eq_false_iff_ne, Bool.not_eq_true', Bool.not_eq_false', gt_iff_lt, ge_iff_le] at *); (repeat simp (disch := omega) only [zO, zi] at *)); omega))) ?_
  refine g_u (z0 rfl rfl rfl) ?_
  refine g_u (jc rfl rfl rfl rfl Tryz.underlying9 (by rw [uQ u 10 h.1, xb (by omega) (by omega)]; show 0 ≤ u % 10 ∧ u % 10 ≤ u % 10 + 1 ∧ u % 10 + 1 ≤ 10; omega)) ?_
  refine g_u (zE rfl rfl) <| zH <| zA <| zD <| zD <| zB <| g_u (zC rfl rfl) <| g_u (ye rfl rfl rfl) <| zH <| zA ?_
  refine zN rfl (fun hb1 => ?_) (fun hb1 => ?_)
  · refine zD ?_
    refine zB <| g_u (zC rfl rfl) <| g_u (zE rfl rfl) <| zH <| zA <| zL <| zK ?_
    exact ⟨⟨(rfl : toAV (Al.look _ _) = some _).trans (congrArg some (by (rw [natB_one h.1 (of_decide_eq_true hb1)]; exact congrArg sv hd))), rfl⟩, trivial⟩
  · refine zQ ?_
    refine zA <| zD <| zB <| g_u (zC rfl rfl) ?_
    refine g_u (rN rfl rfl rfl (by first | decide | omega | (((try simp only [decide_eq_true_eq, decide_eq_false_iff_not, bne_iff_ne, ne_eq, beq_iff_eq, qd, beq_eq_false_iff_ne, Bool.not_eq_true', Bool.not_eq_false', gt_iff_lt, ge_iff_le] at *); (repeat simp (disch := omega) only [zO, zi] at *)); omega))) ?_
    refine g_u (zP ((show zn Tryz.prog Γ0 77 [uv (IntKind.u64.wrap (u.tdiv 10))] [sv (yF (natB (u / 10).toNat))] from by rw [e1]; exact ih (Int.not_lt.1 (of_decide_eq_false hb1)))) rfl rfl) ?_
    refine g_u (zC rfl rfl) ?_
    refine g_u (y5 rfl rfl rfl (by show _ ≤ (9223372036854775807 : Int); erw [hd]; simp only [ze, List.length_cons, List.length_nil]; omega)) ?_
    refine g_u (zE rfl rfl) <| zH <| zA <| zL ?_
    exact ⟨⟨(rfl : toAV (Al.look _ _) = some _).trans (congrArg some (by (rw [natB_more (Int.not_lt.1 (of_decide_eq_false hb1)) h.2, ← wR]; erw [hd]))), rfl⟩, trivial⟩
theorem textU_c (u : Int) (h : 0 ≤ u ∧ u < 18446744073709551616) : zn Tryz.prog Γ0 77 [uv u] [sv (yF (natB u.toNat))] := by
  have key : ∀ n : Nat, ∀ u : Int, u.toNat = n → (0 ≤ u ∧ u < 18446744073709551616) → zn Tryz.prog Γ0 77 [uv u] [sv (yF (natB u.toNat))] := by
    intro n
    induction n using Nat.strongRecOn with
    | _ n ih => intro u hn h; exact textU_step u h fun h10 => ih (u / 10).toNat (by omega) (u / 10) rfl (by omega)
  exact key _ u rfl h
theorem rdec_step (n : Int) (h : -9223372036854775808 ≤ n ∧ n < 9223372036854775808) (ih : n ≤ -10 → zn Tryz.prog Γ0 48 [iv (n.tdiv 10)] [sv (yF (decB (n.tdiv 10)))]) : zn Tryz.prog Γ0 48 [iv n] [sv (yF (decB n))] := by
  have t1 : n ≤ -10 → IntKind.i64.wrap (n.tdiv 10) = n.tdiv 10 := fun hn => by have e := Int.neg_tdiv (-n) 10; rw [Int.neg_neg, uS (-n) 10 (by omega) (by decide)] at e; rw [e]; exact zO (by omega) (by omega)
  have t2 : n ≤ -10 → -10 < n.tmod 10 ∧ n.tmod 10 ≤ 0 := fun hn => by have e := Int.neg_tmod (-n) 10; rw [Int.neg_neg, uQ (-n) 10 (by omega)] at e; rw [e]; omega
  have t3 : n ≤ -10 → IntKind.u64.wrap (IntKind.i64.wrap (0 - n.tmod 10)) = -(n.tmod 10) := fun hn => by have := t2 hn; rw [zO (by omega) (by omega), xb (by omega) (by omega)]; omega
  have t4 : -10 < n → n < 0 → IntKind.u64.wrap (IntKind.i64.wrap (0 - n)) = -n := fun h1 h2 => by rw [zO (by omega) (by omega), xb (by omega) (by omega)]; omega
  have t5 : 0 ≤ n → IntKind.u64.wrap n = n := fun h1 => xb (by omega) (by omega)
  have l1 := fun k => natB_length k
  have l2 := tx (n.tdiv 10)
  refine z_ Tryz.func48 rfl Tryz.ntmps48 (by kernel_rfl) rfl fun w0 I0 G0 => ?_
  refine zD <| zB <| g_u (zE rfl rfl) <| zH <| zA <| zD <| zD <| zB <| g_u (zC rfl rfl) <| g_u (tD rfl rfl rfl) <| zH <| zA ?_
  refine zN rfl (fun hb1 => ?_) (fun hb1 => ?_)
  · refine zD ?_
    refine zB <| g_u (zC rfl rfl) <| g_u (xL rfl rfl Tryz.underlying3 Tryz.underlying57) ?_
    refine g_u (zP (textU_c _ (by rw [t5 (of_decide_eq_true hb1)]; have := of_decide_eq_true hb1; omega)) rfl rfl) ?_
    refine g_u (zE rfl rfl) <| zH <| zA <| zL <| zK ?_
    exact ⟨⟨(rfl : toAV (Al.look _ _) = some _).trans (congrArg some (by (have g1 := of_decide_eq_true hb1; rw [t5 g1, dec_pos n g1]))), rfl⟩, trivial⟩
  · refine zQ ?_
    refine zA <| zD <| zD <| zB <| g_u (zC rfl rfl) <| g_u (wD rfl rfl rfl) <| zH <| zA ?_
    refine zN rfl (fun hb2 => ?_) (fun hb2 => ?_)
    · refine zD ?_
      refine zB <| g_u (zC rfl rfl) <| g_u (s_neg rfl rfl) <| g_u (xL rfl rfl Tryz.underlying3 Tryz.underlying57) ?_
      refine g_u (zP (textU_c _ (by have g1 := of_decide_eq_false hb1; have g2 := of_decide_eq_true hb2; rw [t4 g2 (by omega)]; omega)) rfl rfl) ?_
      refine g_u (y5 rfl rfl rfl (by show _ ≤ (9223372036854775807 : Int); simp only [ze]; have := l1 (IntKind.u64.wrap (IntKind.i64.wrap (0 - n))).toNat; have := l1 (IntKind.u64.wrap (IntKind.i64.wrap (0 - n.tmod 10))).toNat; first | omega | (show 1 + _ ≤ _; omega) | (have c1 : (ByteArray.mk #[45]).size = 1 := rfl; omega))) ?_
      refine g_u (zE rfl rfl) <| zH <| zA <| zL <| zK ?_
      exact ⟨⟨(rfl : toAV (Al.look _ _) = some _).trans (congrArg some (by (have g1 := of_decide_eq_false hb1; have g2 := of_decide_eq_true hb2; rw [t4 g2 (by omega), dec_small n (by omega), ← wR]; rfl))), rfl⟩, trivial⟩
    · refine zQ ?_
      refine zA <| zD <| zB <| g_u (zC rfl rfl) ?_
      refine g_u (rN rfl rfl rfl (by first | decide | omega | (((try simp only [decide_eq_true_eq, decide_eq_false_iff_not, bne_iff_ne, ne_eq, beq_iff_eq, qd, beq_eq_false_iff_ne, Bool.not_eq_true', Bool.not_eq_false', gt_iff_lt, ge_iff_le] at *); (repeat simp (disch := omega) only [zO, zi] at *)); omega))) ?_
      refine g_u (zP ((show zn Tryz.prog Γ0 48 [iv (IntKind.i64.wrap (n.tdiv 10))] [sv (yF (decB (n.tdiv 10)))] from by have g2 := of_decide_eq_false hb2; rw [t1 (by omega)]; exact ih (by omega))) rfl rfl) ?_
      refine g_u (zC rfl rfl) ?_
      refine g_u (r8 rfl rfl rfl (by first | decide | omega | (((try simp only [decide_eq_true_eq, decide_eq_false_iff_not, bne_iff_ne, ne_eq, beq_iff_eq, qd, beq_eq_false_iff_ne, Bool.not_eq_true', Bool.not_eq_false', gt_iff_lt, ge_iff_le] at *); (repeat simp (disch := omega) only [zO, zi] at *)); omega))) ?_
      refine g_u (s_neg rfl rfl) <| g_u (xL rfl rfl Tryz.underlying3 Tryz.underlying57) ?_
      refine g_u (zP (textU_c _ (by have g2 := of_decide_eq_false hb2; have := t2 (by omega); rw [t3 (by omega)]; omega)) rfl rfl) ?_
      refine g_u (y5 rfl rfl rfl (by show _ ≤ (9223372036854775807 : Int); simp only [ze]; have := l1 (IntKind.u64.wrap (IntKind.i64.wrap (0 - n))).toNat; have := l1 (IntKind.u64.wrap (IntKind.i64.wrap (0 - n.tmod 10))).toNat; first | omega | (show 1 + _ ≤ _; omega) | (have c1 : (ByteArray.mk #[45]).size = 1 := rfl; omega))) ?_
      refine g_u (zE rfl rfl) <| zH <| zA <| zL ?_
      exact ⟨⟨(rfl : toAV (Al.look _ _) = some _).trans (congrArg some (by (have g2 := of_decide_eq_false hb2; rw [t3 (by omega), dec_more n (by omega) h.1, ← wR]))), rfl⟩, trivial⟩
theorem rdec_c (n : Int) (h : -9223372036854775808 ≤ n ∧ n < 9223372036854775808) : zn Tryz.prog Γ0 48 [iv n] [sv (yF (decB n))] := by
  have key : ∀ k : Nat, ∀ n : Int, (-n).toNat = k → (-9223372036854775808 ≤ n ∧ n < 9223372036854775808) → zn Tryz.prog Γ0 48 [iv n] [sv (yF (decB n))] := by
    intro k
    induction k using Nat.strongRecOn with
    | _ k ih =>
      intro n hn h
      refine rdec_step n h fun h10 => ?_
      have e := Int.neg_tdiv (-n) 10
      rw [Int.neg_neg, uS (-n) 10 (by omega) (by decide)] at e
      exact ih (-(n.tdiv 10)).toNat (by omega) (n.tdiv 10) rfl (by omega)
  exact key _ n rfl h
end Go.Proofs
namespace Go.Proofs
open Go Go.Al
set_option maxRecDepth 10000
theorem wgrown_c (xs : List AV) (m : Int) (hm : 0 ≤ m ∧ m ≤ 1000) (hw : W1 xs) (hl : xs.length ≤ 1000000000000) : tE Tryz.prog Γ0 166 [.imm (.sl 1 xs), .imm (iv m)] [] (.slg 3012 1 xs) [(3012, .tok 1 xs)] := by
  refine vE (rs := [.slg 3012 1 xs]) Tryz.func166 rfl Tryz.ntmps166 (by kernel_rfl) rfl rfl rfl rfl rfl fun w0 I0 G0 E => ?_
  refine zD <| zB <| g_u (zE rfl rfl) <| zH <| zA <| zD <| zB <| g_u (zC rfl rfl) <| g_u (z7 rfl rfl Tryz.underlying42) <| g_u (zC rfl rfl) <| g_u (z7 rfl rfl Tryz.underlying42) <| g_u (zC rfl rfl) <| g_u (z0 rfl rfl rfl) ?_
  refine g_uG (uk 1012 (X0 := z5) (len := xs.length) (cap := xs.length + m.toNat) rfl rfl rfl rfl rfl rfl (by ((try simp only [decide_eq_true_eq, decide_eq_false_iff_not, bne_iff_ne, ne_eq, beq_iff_eq, qd, beq_eq_false_iff_ne, Bool.not_eq_true', Bool.not_eq_false', gt_iff_lt, ge_iff_le] at *); (repeat simp (disch := omega) only [zO, zi] at *)); omega) Tryz.underlying42 tS5 tZ5 rfl rfl by5 (by omega) (by omega) (by omega)) rfl ?_
  refine g_u (s_as_osl rfl rfl) <| zH <| zA <| zD <| zB <| g_u (rE rfl rfl) <| g_u (zC rfl rfl) ?_
  refine g_u (sb (el := 5) (el' := 0) (T1 := 0) rfl rfl rfl rfl rfl Tryz.underlying42 tS5 (by intro x hx; rw [List.eq_of_mem_replicate hx]; rfl) (by simp <;> omega)) ?_
  refine zH <| zA ?_
  refine tb 1012 3012 1 (xs) [(0, .imm (.sl 1 xs)), (5, .slg 3012 1 xs)] rfl rfl rfl rfl rfl rfl rfl ⟨.inl rfl, .inr (.inl ⟨rfl, rfl⟩), trivial⟩ (cp_w (hw) rfl) (by rw [← cp_len rfl (by simp <;> omega)]; simp <;> omega) (by omega) (by unfold maxLen; omega) (cp_take rfl (by simp <;> omega)) ?_
  refine zD <| zB <| g_u (yW rfl rfl) <| g_u (yY rfl rfl) <| zH <| zA <| zL ?_
  exact ⟨⟨.inr ⟨_, rfl, (by rfl), rfl⟩, trivial⟩, ⟨rfl, trivial⟩⟩
theorem high_c (l : Bs) (u : Int) (h : 0 ≤ u ∧ u < 18446744073709551616) (hl : l.length ≤ 100000000000) : zn Tryz.prog Γ0 159 [.sl 1 (zx l), uv u] [.sl 1 (zx (l ++ be 8 u.toNat))] := by
  have hb := yQ l
  refine z_ Tryz.func159 rfl Tryz.ntmps159 (by kernel_rfl) rfl fun w0 I0 G0 => ?_
  refine zD <| zB <| g_u (zE rfl rfl) <| zH <| zA <| zD <| zB <| g_u (zC rfl rfl) ?_
  refine g_uG (vg [(3012, 20001)] (wgrown_c _ _ (by decide) (by first | assumption | exact W1.bytes _) (by first | assumption | omega)) rfl rfl ⟨.inl rfl, .inl rfl, trivial⟩ trivial rfl rfl rfl) rfl ?_
  refine g_u (yY rfl rfl) <| zH <| zA <| zD <| zD <| zB <| g_u (zC rfl rfl) <| zH <| zA <| zU ?_
  refine zw (fun j : Nat × List AV => [(1, .imm (uv u)), (5, .slg 20001 1 j.2), (20001, .tok 1 j.2), (9, .imm (iv (j.1 : Int)))]) (fun j => j.1 ≤ 8 ∧ j.2 = zx l ++ zx ((be 8 u.toNat).take j.1)) (fun j => 8 - j.1) (⟨0, zx l⟩) ?_ ⟨rfl, rfl, rfl, rfl, trivial⟩ ?_
  · exact ⟨Nat.zero_le _, (List.append_nil _).symm⟩
  · rintro ⟨i, ys⟩ ⟨h1, h2⟩; dsimp only at h1 h2; have hlen : ys.length ≤ l.length + 8 := by rw [h2, List.length_append, yQ, yQ, List.length_take, wC]; omega
    refine zD <| zB <| g_u (ye rfl rfl rfl) <| zH <| zA <| zD ?_
    refine zN rfl (fun hb1 => ?_) (fun hb1 => ?_)
    · refine zQ ?_
      refine zA <| zD <| zU <| zD <| zB <| g_u (zC rfl rfl) <| g_u (zE rfl rfl) <| zH <| zA <| zB <| g_u (yW rfl rfl) <| g_u (zC rfl rfl) <| g_u (zC rfl rfl) ?_
      refine g_u (s_ixGlob rfl rfl rfl Tryz.underlying55 tS5 (by ((try simp only [decide_eq_true_eq, decide_eq_false_iff_not, bne_iff_ne, ne_eq, beq_iff_eq, qd, beq_eq_false_iff_ne, Bool.not_eq_true', Bool.not_eq_false', gt_iff_lt, ge_iff_le] at *); (repeat simp (disch := omega) only [zO, zi] at *)); omega)) ?_
      refine g_u (zd rfl rfl tA5 tS5 rfl rfl) ?_
      refine g_u (s_shr rfl rfl rfl (by first | decide | exact (bA_lt _ _).1 | omega)) ?_
      refine g_u (xL rfl rfl Tryz.underlying57 Tryz.underlying5) <| g_u (zl (X0 := z5) rfl Tryz.underlying42 tS5 tZ5 rfl rfl rfl rfl rfl rfl rfl rfl) ?_
      refine g_u (yh rfl rfl rfl rfl rfl Tryz.underlying42 Tryz.underlying42 tS5 zv5 rfl (by decide) by5 (by (try dsimp only); simp only [List.length_cons, List.length_nil]; omega) (by (try dsimp only); simp only [List.length_cons, List.length_nil]; omega)) ?_
      refine g_u (yY rfl rfl) <| zH <| zW <| zA <| zB <| g_u (z0 rfl rfl rfl) <| g_u (zC rfl rfl) <| zH <| zA ?_
      change decide ((i : Int) < 8) = true at hb1
      have hi : i < 8 := by have := of_decide_eq_true hb1; omega
      refine ⟨⟨i + 1, _⟩, ⟨hi, ?_⟩, ⟨rfl, rfl, rfl, zX rfl (by rw [zO (by omega) (by omega)]; rfl), trivial⟩, by dsimp only; omega⟩
      dsimp only
      rw [be8_take _ _ hi, ← yo, bytesL_one, ← List.append_assoc, ← h2]
      exact congrArg (fun z => ys ++ [z]) (high_av u i h.1 hi)
    · refine zz ?_
      refine zT <| zT <| zq <| zA <| zD <| zB <| g_u (yW rfl rfl) <| g_u (yY rfl rfl) <| zH <| zA <| zL ?_
      change decide ((i : Int) < 8) = false at hb1
      have hi : i = 8 := by have := of_decide_eq_false hb1; omega
      exact ⟨⟨(rfl : toAV (Al.look _ _) = some _).trans (congrArg (fun z => some (AV.sl 1 z)) (by rw [h2, hi, yo, List.take_of_length_le (Nat.le_of_eq (wC 8 _))])), rfl⟩, trivial⟩
theorem hput_c (l : Bs) (s : ByteArray) (hs : s.size ≤ 100000000000) (hl : l.length ≤ 100000000000) : zn Tryz.prog Γ0 160 [.sl 1 (zx l), sv s] [.sl 1 (zx (l ++ hexB (lst s)))] := by
  have hb := yQ l
  have hz := yE s
  refine z_ Tryz.func160 rfl Tryz.ntmps160 (by kernel_rfl) rfl fun w0 I0 G0 => ?_
  refine zD <| zB <| g_u (zE rfl rfl) <| zH <| zA <| zD <| zB <| g_u (zC rfl rfl) <| g_u (z7 rfl rfl Tryz.underlying42) <| g_u (zC rfl rfl) <| g_u (z7 rfl rfl Tryz.underlying42) <| g_u (zC rfl rfl) <| g_u (yp rfl rfl Tryz.underlying9) <| g_u (s_mul rfl rfl rfl) <| g_u (z0 rfl rfl rfl) ?_
  refine g_uG (uk 1015 (X0 := z5) (len := (zx l).length) (cap := (zx l).length + 2 * s.size) rfl rfl rfl rfl rfl rfl (by ((try simp only [decide_eq_true_eq, decide_eq_false_iff_not, bne_iff_ne, ne_eq, beq_iff_eq, qd, beq_eq_false_iff_ne, Bool.not_eq_true', Bool.not_eq_false', gt_iff_lt, ge_iff_le] at *); (repeat simp (disch := omega) only [zO, zi] at *)); omega) Tryz.underlying42 tS5 tZ5 rfl rfl by5 (by omega) (by omega) (by omega)) rfl ?_
  refine g_u (s_as_osl rfl rfl) <| zH <| zA <| zD <| zB <| g_u (rE rfl rfl) <| g_u (zC rfl rfl) ?_
  refine g_u (sb (el := 5) (el' := 0) (T1 := 0) rfl rfl rfl rfl rfl Tryz.underlying42 tS5 (by intro x hx; rw [List.eq_of_mem_replicate hx]; rfl) (by simp <;> omega)) ?_
  refine zH <| zA ?_
  refine tb 1015 3015 1 (zx l) [(0, .imm (.sl 1 (zx l))), (1, .imm (sv s)), (5, .slg 3015 1 (zx l))] rfl rfl rfl rfl rfl rfl rfl ⟨.inl rfl, .inl rfl, .inr (.inl ⟨rfl, rfl⟩), trivial⟩ (cp_w (W1.bytes l) rfl) (by rw [← cp_len rfl (by simp <;> omega)]; simp <;> omega) (by omega) (by unfold maxLen; omega) (cp_take rfl (by simp <;> omega)) ?_
  refine zD <| zD <| zB <| g_u (zC rfl rfl) <| g_u (yp rfl rfl Tryz.underlying9) <| g_u (zC rfl rfl) <| zH <| zA <| zU ?_
  refine zw (fun j : Nat × List AV => [(1, .imm (sv s)), (5, .slg 3015 1 j.2), (3015, .tok 1 j.2), (20, .imm (iv (s.size : Int))), (21, .imm (iv (j.1 : Int)))]) (fun j => j.1 ≤ s.size ∧ j.2 = zx l ++ zx (hexB ((lst s).take j.1))) (fun j => s.size - j.1) (⟨0, zx l⟩) ?_ ⟨rfl, rfl, rfl, rfl, rfl, trivial⟩ ?_
  · exact ⟨Nat.zero_le _, (List.append_nil _).symm⟩
  · rintro ⟨i, ys⟩ ⟨h1, h2⟩; dsimp only at h1 h2; have hlen : ys.length ≤ l.length + 2 * s.size := by rw [h2, List.length_append, yQ, yQ, yG, List.length_take]; omega
    refine zD <| zB <| g_u (ye rfl rfl rfl) <| zH <| zA <| zD ?_
    refine zN rfl (fun hb1 => ?_) (fun hb1 => ?_)
    · refine zQ ?_
      refine zA <| zD <| zU <| zD <| zB <| g_u (zC rfl rfl) <| g_u (zE rfl rfl) <| zH <| zA <| y_ xR <| g_u (yW rfl rfl) <| g_u (zC rfl rfl) <| g_u (zC rfl rfl) ?_
      refine g_u (sN rfl rfl rfl Tryz.underlying9 (by ((try simp only [decide_eq_true_eq, decide_eq_false_iff_not, bne_iff_ne, ne_eq, beq_iff_eq, qd, beq_eq_false_iff_ne, Bool.not_eq_true', Bool.not_eq_false', gt_iff_lt, ge_iff_le] at *); (repeat simp (disch := omega) only [zO, zi] at *)); omega)) ?_
      refine g_u (s_shr rfl rfl rfl (by first | decide | omega | (((try simp only [decide_eq_true_eq, decide_eq_false_iff_not, bne_iff_ne, ne_eq, beq_iff_eq, qd, beq_eq_false_iff_ne, Bool.not_eq_true', Bool.not_eq_false', gt_iff_lt, ge_iff_le] at *); (repeat simp (disch := omega) only [zO, zi] at *)); omega))) ?_
      refine g_u (sN rfl rfl rfl Tryz.underlying9 (by rw [shr4 _ (vD _ _)]; have := vD s (i : Int); show 0 ≤ bAt s (i : Int) / 16 ∧ bAt s (i : Int) / 16 < 16; omega)) ?_
      refine g_u (zC rfl rfl) <| g_u (zC rfl rfl) ?_
      refine g_u (sN rfl rfl rfl Tryz.underlying9 (by ((try simp only [decide_eq_true_eq, decide_eq_false_iff_not, bne_iff_ne, ne_eq, beq_iff_eq, qd, beq_eq_false_iff_ne, Bool.not_eq_true', Bool.not_eq_false', gt_iff_lt, ge_iff_le] at *); (repeat simp (disch := omega) only [zO, zi] at *)); omega)) ?_
      refine g_u (s_and rfl rfl rfl) ?_
      refine g_u (sN rfl rfl rfl Tryz.underlying9 (by rw [and15 _ (vD _ _)]; have := vD s (i : Int); show 0 ≤ bAt s (i : Int) % 16 ∧ bAt s (i : Int) % 16 < 16; omega)) ?_
      refine g_u (zl (X0 := z5) rfl Tryz.underlying42 tS5 tZ5 rfl rfl rfl rfl rfl rfl rfl rfl) ?_
      refine g_u (yh rfl rfl rfl rfl rfl Tryz.underlying42 Tryz.underlying42 tS5 zv5 rfl (by decide) by5 (by (try dsimp only); simp only [List.length_cons, List.length_nil]; omega) (by (try dsimp only); simp only [List.length_cons, List.length_nil]; omega)) ?_
      refine g_u (yY rfl rfl) ?_
      refine zH ⟨by kernel_rfl, ?_⟩
      refine zW <| zA <| zB <| g_u (z0 rfl rfl rfl) <| g_u (zC rfl rfl) <| zH <| zA ?_
      change decide ((i : Int) < (s.size : Int)) = true at hb1
      have hi : i < s.size := by have := of_decide_eq_true hb1; omega
      obtain ⟨c, hc1, hc2⟩ := vj s i hi
      refine ⟨⟨i + 1, _⟩, ⟨hi, ?_⟩, ⟨rfl, rfl, rfl, rfl, zX rfl (by rw [zO (by omega) (by omega)]; rfl), trivial⟩, by dsimp only; omega⟩
      dsimp only
      rw [yO hc1, rp, ← yo, ← List.append_assoc, ← h2]
      have hlt := c.toNat_lt
      have f1 : bAt digs ((bAt s (i : Int)).fdiv (2 ^ (min (4 : Int).toNat IntKind.u8.bits))) = (hexD (c.toNat / 16)).toNat := by rw [shr4 _ (vD _ _), hc2, hexD_bAt _ (by omega)]; congr 1
      have f2 : bAt digs (vd (· &&& ·) .u8 (bAt s (i : Int)) 15) = (hexD (c.toNat % 16)).toNat := by rw [and15 _ (vD _ _), hc2, hexD_bAt _ (by omega)]; congr 1
      show ys ++ [AV.v (.int .u8 (bAt digs ((bAt s (i : Int)).fdiv (2 ^ (min (4 : Int).toNat IntKind.u8.bits))))), AV.v (.int .u8 (bAt digs (vd (· &&& ·) .u8 (bAt s (i : Int)) 15)))] = _
      rw [byte_av f1, byte_av f2]
      rfl
    · refine zz ?_
      refine zT <| zT <| zq <| zA <| zD <| zB <| g_u (yW rfl rfl) <| g_u (yY rfl rfl) <| zH <| zA <| zL ?_
      change decide ((i : Int) < (s.size : Int)) = false at hb1
      have hi : i = s.size := by have := of_decide_eq_false hb1; omega
      exact ⟨⟨(rfl : toAV (Al.look _ _) = some _).trans (congrArg (fun z => some (AV.sl 1 z)) (by rw [h2, hi, yo, List.take_of_length_le (Nat.le_of_eq hz)])), rfl⟩, trivial⟩
theorem htext_c (s : ByteArray) (hs : s.size ≤ 100000000000) : zn Tryz.prog Γ0 147 [sv s] [sv (yF (hexB (lst s)))] := by
  refine z_ Tryz.func147 rfl Tryz.ntmps147 (by kernel_rfl) rfl fun w0 I0 G0 => ?_
  refine zD <| zB <| g_u (zE rfl rfl) <| zH <| zA <| zD <| zB <| g_u (zC rfl rfl) ?_
  refine g_u (zP (nil1 (n := 1) (hput_c [] _ (by first | assumption | omega) (by simp))) rfl rfl) ?_
  refine g_u (tq (rfl) rfl rfl Tryz.underlying42 Tryz.underlying9 Tryz.underlying5) <| g_u (zE rfl rfl) <| zH <| zA <| zL ?_
  exact ⟨⟨(rfl : toAV (Al.look _ _) = some _).trans (congrArg some (by rfl)), rfl⟩, trivial⟩
theorem jput1_c (xs : List AV) (t : ByteArray) (hl : xs.length + t.size ≤ 1000000000000) : tE Tryz.prog Γ0 168 [.imm (sv t), .ptr 100001 0] [(100001, .box 42 (.slg 100002 1 xs)), (100002, .tok 1 xs)] (.tup []) [(100001, .box 42 (.slg 100002 1 (xs ++ zx t.data.toList))), (100002, .tok 1 (xs ++ zx t.data.toList))] := by
  refine vE (rs := []) Tryz.func168 rfl Tryz.ntmps168 (by kernel_rfl) rfl rfl rfl rfl rfl fun w0 I0 G0 E => ?_
  refine zB <| g_u (xj rfl rfl rfl tA42 tS42 rfl rfl) <| g_u (zC rfl rfl) ?_
  refine g_u (s_appendS rfl rfl rfl rfl rfl Tryz.underlying42 Tryz.underlying9 tS5 zv5 rfl by5 (by omega) (by omega)) ?_
  refine g_u (tC rfl rfl rfl rfl tS42 rfl rfl) <| zH ?_
  exact ⟨trivial, ⟨rfl, rfl, trivial⟩⟩
theorem each_c (xs : List AV) (s : ByteArray) (hs : s.size ≤ 100000000000) (hl : xs.length ≤ 100000000000) : tE Tryz.prog Γ0 167 [.imm (sv s), .fnv (.func 168) [] [.ptr 100001 0]] [(100001, .box 42 (.slg 100002 1 xs)), (100002, .tok 1 xs)] (.tup []) [(100001, .box 42 (.slg 100002 1 (xs ++ zx (vZ (lst s))))), (100002, .tok 1 (xs ++ zx (vZ (lst s))))] := by
  have hz := yE s
  have c1 : (ByteArray.mk #[92]).size = 1 := rfl
  have c4 : (ByteArray.mk #[92, 117, 48, 48]).size = 4 := rfl
  have c0 : (ByteArray.mk #[34]).size = 1 := rfl
  refine vE (rs := []) Tryz.func167 rfl Tryz.ntmps167 (by kernel_rfl) rfl rfl rfl rfl rfl fun w0 I0 G0 E => ?_
  refine zD <| zB <| g_u (rK rfl rfl) ?_
  refine g_uG (tt [(100001, 100001), (100002, 100002)] (jput1_c _ _ (by first | omega | (show _ + 1 ≤ _; (try dsimp only); omega) | (have q := hx (of_decide_eq_true hb1); simp only [zo, ze, yG, yE, q]; (try dsimp only); omega))) rfl rfl rfl ⟨.inl rfl, .inl rfl, trivial⟩ ⟨rfl, rfl, trivial⟩ rfl rfl rfl) rfl ?_
  refine zH <| zA <| zD <| zD <| zB <| g_u (zC rfl rfl) <| g_u (yp rfl rfl Tryz.underlying9) <| g_u (zC rfl rfl) <| zH <| zA <| zU ?_
  refine zw (fun j : Nat × List AV => [(0, .imm (sv s)), (1, .fnv (.func 168) [] [.ptr 100001 0]), (100001, .box 42 (.slg 100002 1 j.2)), (100002, .tok 1 j.2), (9, .imm (iv (s.size : Int))), (10, .imm (iv (j.1 : Int)))]) (fun j => j.1 ≤ s.size ∧ j.2 = xs ++ zx (34 :: escs ((lst s).take j.1))) (fun j => s.size - j.1) (⟨0, xs ++ zx (ByteArray.mk #[34]).data.toList⟩) ?_ ⟨rfl, rfl, rfl, rfl, rfl, rfl, trivial⟩ ?_
  · exact ⟨Nat.zero_le _, rfl⟩
  · rintro ⟨i, ys⟩ ⟨h1, h2⟩; dsimp only at h1 h2; have hlen : ys.length ≤ xs.length + 1 + 6 * s.size := by have := tn ((lst s).take i); rw [h2, List.length_append, yQ, List.length_cons]; rw [List.length_take] at this; omega
    have e2 : i < s.size → (IntKind.i64.wrap ((i : Int) + 1)).toNat = i + 1 := fun h => by rw [zO (by omega) (by omega)]; omega
    have hx : (i : Int) < (s.size : Int) → (s.extract (i : Int).toNat (IntKind.i64.wrap ((i : Int) + 1)).toNat).size = 1 := fun h => by rw [e2 (by omega), Int.toNat_natCast]; exact ex1_size (by omega)
    refine zD <| zB <| g_u (ye rfl rfl rfl) <| zH <| zA <| zD ?_
    refine zN rfl (fun hb1 => ?_) (fun hb1 => ?_)
    · refine zQ ?_
      refine zA <| zD <| zU <| zD <| zB <| g_u (zC rfl rfl) <| g_u (zE rfl rfl) <| zH <| zA <| zD <| zB <| g_u (zC rfl rfl) <| g_u (zC rfl rfl) ?_
      refine g_u (sN rfl rfl rfl Tryz.underlying9 (by ((try simp only [decide_eq_true_eq, decide_eq_false_iff_not, bne_iff_ne, ne_eq, beq_iff_eq, qd, beq_eq_false_iff_ne, Bool.not_eq_true', Bool.not_eq_false', gt_iff_lt, ge_iff_le] at *); (repeat simp (disch := omega) only [zO, zi] at *)); omega)) ?_
      refine g_u (zE rfl rfl) <| zH <| zA <| zU <| zD <| zB <| g_u (zC rfl rfl) <| g_u (yz rfl rfl rfl) <| g_u (zC rfl rfl) <| yB (t := 26) rfl ?_
      rintro (hb2 | hb2)
      · rw [hb2]
        refine zI rfl rfl rfl <| zI rfl rfl rfl <| g_u (zZ rfl rfl rfl) <| g_u (zE rfl rfl) <| zH <| zA <| zs rfl <| zB <| g_u (rK rfl rfl) <| g_u (zC rfl rfl) <| g_u (zC rfl rfl) <| g_u (zC rfl rfl) <| g_u (z0 rfl rfl rfl) ?_
        refine g_u (jc rfl rfl rfl rfl Tryz.underlying9 (by ((try simp only [decide_eq_true_eq, decide_eq_false_iff_not, bne_iff_ne, ne_eq, beq_iff_eq, qd, beq_eq_false_iff_ne, Bool.not_eq_true', Bool.not_eq_false', gt_iff_lt, ge_iff_le] at *); (repeat simp (disch := omega) only [zO, zi] at *)); omega)) ?_
        refine g_u (y5 rfl rfl rfl (by show _ ≤ (9223372036854775807 : Int); have q := hx (of_decide_eq_true hb1); (try dsimp only); simp only [ze, yG, yE, q, c1, c4]; omega)) ?_
        refine g_uG (tt [(100001, 100001), (100002, 100002)] (jput1_c _ _ (by first | omega | (show _ + 1 ≤ _; (try dsimp only); omega) | (have q := hx (of_decide_eq_true hb1); simp only [zo, ze, yG, yE, q]; (try dsimp only); omega))) rfl rfl rfl ⟨.inl rfl, .inl rfl, trivial⟩ ⟨rfl, rfl, trivial⟩ rfl rfl rfl) rfl ?_
        refine zH <| zW <| zW <| zA <| zB <| g_u (z0 rfl rfl rfl) <| g_u (zC rfl rfl) <| zH <| zA ?_
        change decide ((i : Int) < (s.size : Int)) = true at hb1
        have hi : i < s.size := by have := of_decide_eq_true hb1; omega
        obtain ⟨c, hc1, hc2⟩ := vj s i hi
        refine ⟨⟨i + 1, _⟩, ⟨hi, ?_⟩, ⟨rfl, rfl, rfl, rfl, rfl, zX rfl (by rw [zO (by omega) (by omega)]; rfl), trivial⟩, by dsimp only; omega⟩
        dsimp only at *
        rw [yO hc1, wx, ← List.cons_append, ← yo, ← List.append_assoc, ← h2, e2 hi, Int.toNat_natCast]
        simp only [beq_iff_eq, beq_eq_false_iff_ne, ne_eq, decide_eq_true_eq, decide_eq_false_iff_not] at *
        first | exact esc1 hc1 (.inl (by omega)) | exact esc1 hc1 (.inr (by omega)) | exact esc2 hc1 (by omega) (by omega) (by omega) | exact esc3 hc1 (by omega) (by omega) (by omega)
      · rw [hb2]
        refine zY rfl rfl (zC rfl rfl) <| zY rfl rfl (yz rfl rfl rfl) <| g_u (zh rfl rfl rfl) <| g_u (zE rfl rfl) <| zH <| zA ?_
        refine zN rfl (fun hb3 => ?_) (fun hb3 => ?_)
        · refine zB ?_
          refine g_u (rK rfl rfl) <| g_u (zC rfl rfl) <| g_u (zC rfl rfl) <| g_u (zC rfl rfl) <| g_u (z0 rfl rfl rfl) ?_
          refine g_u (jc rfl rfl rfl rfl Tryz.underlying9 (by ((try simp only [decide_eq_true_eq, decide_eq_false_iff_not, bne_iff_ne, ne_eq, beq_iff_eq, qd, beq_eq_false_iff_ne, Bool.not_eq_true', Bool.not_eq_false', gt_iff_lt, ge_iff_le] at *); (repeat simp (disch := omega) only [zO, zi] at *)); omega)) ?_
          refine g_u (y5 rfl rfl rfl (by show _ ≤ (9223372036854775807 : Int); have q := hx (of_decide_eq_true hb1); (try dsimp only); simp only [ze, yG, yE, q, c1, c4]; omega)) ?_
          refine g_uG (tt [(100001, 100001), (100002, 100002)] (jput1_c _ _ (by first | omega | (show _ + 1 ≤ _; (try dsimp only); omega) | (have q := hx (of_decide_eq_true hb1); simp only [zo, ze, yG, yE, q]; (try dsimp only); omega))) rfl rfl rfl ⟨.inl rfl, .inl rfl, trivial⟩ ⟨rfl, rfl, trivial⟩ rfl rfl rfl) rfl ?_
          refine zH <| zW <| zW <| zA <| zB <| g_u (z0 rfl rfl rfl) <| g_u (zC rfl rfl) <| zH <| zA ?_
          change decide ((i : Int) < (s.size : Int)) = true at hb1
          have hi : i < s.size := by have := of_decide_eq_true hb1; omega
          obtain ⟨c, hc1, hc2⟩ := vj s i hi
          refine ⟨⟨i + 1, _⟩, ⟨hi, ?_⟩, ⟨rfl, rfl, rfl, rfl, rfl, zX rfl (by rw [zO (by omega) (by omega)]; rfl), trivial⟩, by dsimp only; omega⟩
          dsimp only at *
          rw [yO hc1, wx, ← List.cons_append, ← yo, ← List.append_assoc, ← h2, e2 hi, Int.toNat_natCast]
          simp only [beq_iff_eq, beq_eq_false_iff_ne, ne_eq, decide_eq_true_eq, decide_eq_false_iff_not] at *
          first | exact esc1 hc1 (.inl (by omega)) | exact esc1 hc1 (.inr (by omega)) | exact esc2 hc1 (by omega) (by omega) (by omega) | exact esc3 hc1 (by omega) (by omega) (by omega)
        · refine zD ?_
          refine zB <| g_u (zC rfl rfl) <| g_u (ye rfl rfl rfl) <| g_u (zE rfl rfl) <| zH <| zA ?_
          refine zN rfl (fun hb4 => ?_) (fun hb4 => ?_)
          · refine zB ?_
            refine g_u (rK rfl rfl) <| g_u (zC rfl rfl) <| g_u (zC rfl rfl) <| g_u (zC rfl rfl) <| g_u (z0 rfl rfl rfl) ?_
            refine g_u (jc rfl rfl rfl rfl Tryz.underlying9 (by ((try simp only [decide_eq_true_eq, decide_eq_false_iff_not, bne_iff_ne, ne_eq, beq_iff_eq, qd, beq_eq_false_iff_ne, Bool.not_eq_true', Bool.not_eq_false', gt_iff_lt, ge_iff_le] at *); (repeat simp (disch := omega) only [zO, zi] at *)); omega)) ?_
            refine g_u (zP (htext_c _ (by have q := hx (of_decide_eq_true hb1); (try dsimp only); omega)) rfl rfl) ?_
            refine g_u (y5 rfl rfl rfl (by show _ ≤ (9223372036854775807 : Int); have q := hx (of_decide_eq_true hb1); (try dsimp only); simp only [ze, yG, yE, q, c1, c4]; omega)) ?_
            refine g_uG (tt [(100001, 100001), (100002, 100002)] (jput1_c _ _ (by first | omega | (show _ + 1 ≤ _; (try dsimp only); omega) | (have q := hx (of_decide_eq_true hb1); simp only [zo, ze, yG, yE, q]; (try dsimp only); omega))) rfl rfl rfl ⟨.inl rfl, .inl rfl, trivial⟩ ⟨rfl, rfl, trivial⟩ rfl rfl rfl) rfl ?_
            refine zH <| zW <| zW <| zA <| zB <| g_u (z0 rfl rfl rfl) <| g_u (zC rfl rfl) <| zH <| zA ?_
            change decide ((i : Int) < (s.size : Int)) = true at hb1
            have hi : i < s.size := by have := of_decide_eq_true hb1; omega
            obtain ⟨c, hc1, hc2⟩ := vj s i hi
            refine ⟨⟨i + 1, _⟩, ⟨hi, ?_⟩, ⟨rfl, rfl, rfl, rfl, rfl, zX rfl (by rw [zO (by omega) (by omega)]; rfl), trivial⟩, by dsimp only; omega⟩
            dsimp only at *
            rw [yO hc1, wx, ← List.cons_append, ← yo, ← List.append_assoc, ← h2, e2 hi, Int.toNat_natCast]
            simp only [beq_iff_eq, beq_eq_false_iff_ne, ne_eq, decide_eq_true_eq, decide_eq_false_iff_not] at *
            first | exact esc1 hc1 (.inl (by omega)) | exact esc1 hc1 (.inr (by omega)) | exact esc2 hc1 (by omega) (by omega) (by omega) | exact esc3 hc1 (by omega) (by omega) (by omega)
          · refine zB ?_
            refine g_u (rK rfl rfl) <| g_u (zC rfl rfl) <| g_u (zC rfl rfl) <| g_u (zC rfl rfl) <| g_u (z0 rfl rfl rfl) ?_
            refine g_u (jc rfl rfl rfl rfl Tryz.underlying9 (by ((try simp only [decide_eq_true_eq, decide_eq_false_iff_not, bne_iff_ne, ne_eq, beq_iff_eq, qd, beq_eq_false_iff_ne, Bool.not_eq_true', Bool.not_eq_false', gt_iff_lt, ge_iff_le] at *); (repeat simp (disch := omega) only [zO, zi] at *)); omega)) ?_
            refine g_uG (tt [(100001, 100001), (100002, 100002)] (jput1_c _ _ (by first | omega | (show _ + 1 ≤ _; (try dsimp only); omega) | (have q := hx (of_decide_eq_true hb1); simp only [zo, ze, yG, yE, q]; (try dsimp only); omega))) rfl rfl rfl ⟨.inl rfl, .inl rfl, trivial⟩ ⟨rfl, rfl, trivial⟩ rfl rfl rfl) rfl ?_
            refine zH <| zW <| zW <| zA <| zB <| g_u (z0 rfl rfl rfl) <| g_u (zC rfl rfl) <| zH <| zA ?_
            change decide ((i : Int) < (s.size : Int)) = true at hb1
            have hi : i < s.size := by have := of_decide_eq_true hb1; omega
            obtain ⟨c, hc1, hc2⟩ := vj s i hi
            refine ⟨⟨i + 1, _⟩, ⟨hi, ?_⟩, ⟨rfl, rfl, rfl, rfl, rfl, zX rfl (by rw [zO (by omega) (by omega)]; rfl), trivial⟩, by dsimp only; omega⟩
            dsimp only at *
            rw [yO hc1, wx, ← List.cons_append, ← yo, ← List.append_assoc, ← h2, e2 hi, Int.toNat_natCast]
            simp only [beq_iff_eq, beq_eq_false_iff_ne, ne_eq, decide_eq_true_eq, decide_eq_false_iff_not] at *
            first | exact esc1 hc1 (.inl (by omega)) | exact esc1 hc1 (.inr (by omega)) | exact esc2 hc1 (by omega) (by omega) (by omega) | exact esc3 hc1 (by omega) (by omega) (by omega)
    · refine zz ?_
      refine zT <| zT <| zq <| zA <| zB <| g_u (rK rfl rfl) ?_
      refine g_uG (tt [(100001, 100001), (100002, 100002)] (jput1_c _ _ (by first | omega | (show _ + 1 ≤ _; (try dsimp only); omega) | (have q := hx (of_decide_eq_true hb1); simp only [zo, ze, yG, yE, q]; (try dsimp only); omega))) rfl rfl rfl ⟨.inl rfl, .inl rfl, trivial⟩ ⟨rfl, rfl, trivial⟩ rfl rfl rfl) rfl ?_
      refine zH ?_
      change decide ((i : Int) < (s.size : Int)) = false at hb1
      have hi : i = s.size := by have := of_decide_eq_false hb1; omega
      have h3 : ys ++ zx (ByteArray.mk #[34]).data.toList = xs ++ zx (vZ (lst s)) := by rw [h2, hi, List.take_of_length_le (Nat.le_of_eq hz), List.append_assoc, yo]; rfl
      exact ⟨trivial, look_bslg rfl h3, yf rfl h3, trivial⟩
end Go.Proofs
namespace Go.Proofs
open Go Go.Al
set_option maxRecDepth 10000
theorem jput_c (xs : List AV) (s : ByteArray) (hw : W1 xs) (hs : s.size ≤ 10000000000) (hl : xs.length ≤ 10000000000) : tE Tryz.prog Γ0 161 [.imm (.sl 1 xs), .imm (sv s)] [] (.slg 3014 1 (xs ++ zx (vZ (lst s)))) [(3014, .tok 1 (xs ++ zx (vZ (lst s))))] := by
  refine vE (rs := [.slg 3014 1 (xs ++ zx (vZ (lst s)))]) Tryz.func161 rfl Tryz.ntmps161 (by kernel_rfl) rfl rfl rfl rfl rfl fun w0 I0 G0 E => ?_
  refine zD <| zB <| g_u (zE rfl rfl) <| zH <| zA <| zD <| zB <| g_u (zC rfl rfl) <| g_u (z7 rfl rfl Tryz.underlying42) <| g_u (zC rfl rfl) <| g_u (z7 rfl rfl Tryz.underlying42) <| g_u (zC rfl rfl) <| g_u (yp rfl rfl Tryz.underlying9) <| g_u (z0 rfl rfl rfl) <| g_u (z0 rfl rfl rfl) ?_
  refine g_uG (uk 1014 (X0 := z5) (len := xs.length) (cap := xs.length + s.size + 2) rfl rfl rfl rfl rfl rfl (by ((try simp only [decide_eq_true_eq, decide_eq_false_iff_not, bne_iff_ne, ne_eq, beq_iff_eq, qd, beq_eq_false_iff_ne, Bool.not_eq_true', Bool.not_eq_false', gt_iff_lt, ge_iff_le] at *); (repeat simp (disch := omega) only [zO, zi] at *)); omega) Tryz.underlying42 tS5 tZ5 rfl rfl by5 (by omega) (by omega) (by omega)) rfl ?_
  refine g_uG (zy 1005 rfl rfl rfl tZ42) rfl <| g_u (tC rfl rfl rfl rfl tS42 rfl rfl) <| zH <| zA <| zD <| zB <| g_u (uV rfl rfl rfl tA42 tS42 rfl rfl rfl) <| g_u (zC rfl rfl) ?_
  refine g_u (sb (el := 5) (el' := 0) (T1 := 0) rfl rfl rfl rfl rfl Tryz.underlying42 tS5 (by intro x hx; rw [List.eq_of_mem_replicate hx]; rfl) (by simp <;> omega)) ?_
  refine zH <| zA ?_
  refine tb 1014 3014 1 (xs) [(0, .imm (.sl 1 xs)), (1, .imm (sv s)), (5, .ptr 1005 0), (1005, .box 42 (.slg 3014 1 xs))] rfl rfl rfl rfl rfl rfl rfl ⟨.inl rfl, .inl rfl, .inl rfl, .inr (.inr ⟨_, rfl, rfl⟩), trivial⟩ (cp_w (hw) rfl) (by rw [← cp_len rfl (by simp <;> omega)]; simp <;> omega) (by omega) (by unfold maxLen; omega) (cp_take rfl (by simp <;> omega)) ?_
  refine zD <| zB <| g_u (zC rfl rfl) <| g_u (s_makeFuncS rfl rfl rfl) ?_
  refine g_uG (vg [(100001, 1005), (100002, 3014)] (each_c _ _ (by omega) (by omega)) rfl rfl ⟨.inl rfl, .inl rfl, trivial⟩ ⟨rfl, rfl, trivial⟩ rfl rfl rfl) rfl ?_
  refine zH <| zA <| zD <| zB <| g_u (xj rfl rfl rfl tA42 tS42 rfl rfl) <| g_u (yY rfl rfl) <| zH <| zA <| zL ?_
  exact ⟨⟨.inr ⟨_, rfl, (by rfl), rfl⟩, trivial⟩, ⟨rfl, trivial⟩⟩
theorem rhex_c (s : ByteArray) (hs : s.size ≤ 100000000000) : zn Tryz.prog Γ0 137 [sv s] [sv (yF (hexB (lst s)))] := by
  have hz := yE s
  refine z_ Tryz.func137 rfl Tryz.ntmps137 (by kernel_rfl) rfl fun w0 I0 G0 => ?_
  refine zD <| zB <| g_u (zE rfl rfl) <| zH <| zA <| zD <| zB <| g_u (zE rfl rfl) <| zH <| zA <| zD <| zD <| zB <| g_u (zE rfl rfl) <| zH <| zA <| zU ?_
  refine zw (fun j : Nat × ByteArray => [(0, .imm (sv s)), (3, .imm (sv j.2)), (4, .imm (iv (j.1 : Int)))]) (fun j => j.1 ≤ s.size ∧ lst j.2 = hexB ((lst s).take j.1)) (fun j => s.size - j.1) (⟨0, ⟨#[]⟩⟩) ?_ ⟨rfl, rfl, rfl, trivial⟩ ?_
  · exact ⟨Nat.zero_le _, rfl⟩
  · rintro ⟨i, t⟩ ⟨h1, h2⟩; dsimp only at h1 h2; have hlen : t.size ≤ 2 * s.size := by rw [← yE t, h2, yG, List.length_take]; omega
    refine zD <| zD <| zB <| g_u (zC rfl rfl) <| g_u (zC rfl rfl) <| g_u (yp rfl rfl Tryz.underlying9) <| g_u (ye rfl rfl rfl) <| zH <| zA ?_
    refine zN rfl (fun hb1 => ?_) (fun hb1 => ?_)
    · refine zQ ?_
      refine zA <| zD <| zU <| y_ xR <| g_u (zC rfl rfl) <| g_u (zC rfl rfl) <| g_u (zC rfl rfl) ?_
      refine g_u (sN rfl rfl rfl Tryz.underlying9 (by ((try simp only [decide_eq_true_eq, decide_eq_false_iff_not, bne_iff_ne, ne_eq, beq_iff_eq, qd, beq_eq_false_iff_ne, Bool.not_eq_true', Bool.not_eq_false', gt_iff_lt, ge_iff_le] at *); (repeat simp (disch := omega) only [zO, zi] at *)); omega)) ?_
      refine g_u (rN rfl rfl rfl (by first | decide | omega | (((try simp only [decide_eq_true_eq, decide_eq_false_iff_not, bne_iff_ne, ne_eq, beq_iff_eq, qd, beq_eq_false_iff_ne, Bool.not_eq_true', Bool.not_eq_false', gt_iff_lt, ge_iff_le] at *); (repeat simp (disch := omega) only [zO, zi] at *)); omega))) ?_
      refine g_u (zC rfl rfl) <| g_u (zC rfl rfl) ?_
      refine g_u (sN rfl rfl rfl Tryz.underlying9 (by ((try simp only [decide_eq_true_eq, decide_eq_false_iff_not, bne_iff_ne, ne_eq, beq_iff_eq, qd, beq_eq_false_iff_ne, Bool.not_eq_true', Bool.not_eq_false', gt_iff_lt, ge_iff_le] at *); (repeat simp (disch := omega) only [zO, zi] at *)); omega)) ?_
      refine g_u (rN rfl rfl rfl (by first | decide | omega | (((try simp only [decide_eq_true_eq, decide_eq_false_iff_not, bne_iff_ne, ne_eq, beq_iff_eq, qd, beq_eq_false_iff_ne, Bool.not_eq_true', Bool.not_eq_false', gt_iff_lt, ge_iff_le] at *); (repeat simp (disch := omega) only [zO, zi] at *)); omega))) ?_
      refine g_u (z0 rfl rfl rfl) <| g_u (jc rfl rfl rfl rfl Tryz.underlying9 (q16 _ (vD _ _))) ?_
      refine g_u (y5 rfl rfl rfl (by show _ ≤ (9223372036854775807 : Int); have f1 := dig16a (bAt s (i : Int)) (vD _ _); have f2 := dig16b (bAt s (i : Int)) (vD _ _); (try simp only [zo]); (try erw [f1]); (try erw [f2]); simp only [ze, List.length_cons, List.length_nil]; omega)) ?_
      refine g_u (zC rfl rfl) <| g_u (zC rfl rfl) ?_
      refine g_u (sN rfl rfl rfl Tryz.underlying9 (by ((try simp only [decide_eq_true_eq, decide_eq_false_iff_not, bne_iff_ne, ne_eq, beq_iff_eq, qd, beq_eq_false_iff_ne, Bool.not_eq_true', Bool.not_eq_false', gt_iff_lt, ge_iff_le] at *); (repeat simp (disch := omega) only [zO, zi] at *)); omega)) ?_
      refine g_u (r8 rfl rfl rfl (by first | decide | omega | (((try simp only [decide_eq_true_eq, decide_eq_false_iff_not, bne_iff_ne, ne_eq, beq_iff_eq, qd, beq_eq_false_iff_ne, Bool.not_eq_true', Bool.not_eq_false', gt_iff_lt, ge_iff_le] at *); (repeat simp (disch := omega) only [zO, zi] at *)); omega))) ?_
      refine g_u (zC rfl rfl) <| g_u (zC rfl rfl) ?_
      refine g_u (sN rfl rfl rfl Tryz.underlying9 (by ((try simp only [decide_eq_true_eq, decide_eq_false_iff_not, bne_iff_ne, ne_eq, beq_iff_eq, qd, beq_eq_false_iff_ne, Bool.not_eq_true', Bool.not_eq_false', gt_iff_lt, ge_iff_le] at *); (repeat simp (disch := omega) only [zO, zi] at *)); omega)) ?_
      refine g_u (r8 rfl rfl rfl (by first | decide | omega | (((try simp only [decide_eq_true_eq, decide_eq_false_iff_not, bne_iff_ne, ne_eq, beq_iff_eq, qd, beq_eq_false_iff_ne, Bool.not_eq_true', Bool.not_eq_false', gt_iff_lt, ge_iff_le] at *); (repeat simp (disch := omega) only [zO, zi] at *)); omega))) ?_
      refine g_u (z0 rfl rfl rfl) <| g_u (jc rfl rfl rfl rfl Tryz.underlying9 (r16 _ (vD _ _))) ?_
      refine g_u (y5 rfl rfl rfl (by show _ ≤ (9223372036854775807 : Int); have f1 := dig16a (bAt s (i : Int)) (vD _ _); have f2 := dig16b (bAt s (i : Int)) (vD _ _); (try simp only [zo]); (try erw [f1]); (try erw [f2]); simp only [ze, List.length_cons, List.length_nil]; omega)) ?_
      refine g_u (zE rfl rfl) ?_
      refine zH ⟨by kernel_rfl, ?_⟩
      refine zW <| zA <| zB <| g_u (zC rfl rfl) <| g_u (z0 rfl rfl rfl) <| g_u (zE rfl rfl) <| zH <| zA ?_
      change decide ((i : Int) < (s.size : Int)) = true at hb1
      have hi : i < s.size := by have := of_decide_eq_true hb1; omega
      obtain ⟨c, hc1, hc2⟩ := vj s i hi
      refine ⟨⟨i + 1, _⟩, ⟨hi, ?_⟩, ⟨rfl, rfl, zX rfl (by rw [zO (by omega) (by omega)]; rfl), trivial⟩, by dsimp only; omega⟩
      dsimp only
      have f1 := dig16a (bAt s (i : Int)) (vD _ _)
      have f2 := dig16b (bAt s (i : Int)) (vD _ _)
      have hc3 : (bAt s (i : Int)).toNat = c.toNat := by omega
      rw [hc3] at f1 f2
      show lst (t ++ digs.extract _ _ ++ digs.extract _ _) = _
      rw [f1, f2, x_, x_, yN, yN, h2, yO hc1, rp, List.append_assoc]
      rfl
    · refine zz ?_
      refine zT <| zT <| zq <| zA <| zD <| zB <| g_u (zC rfl rfl) <| g_u (zE rfl rfl) <| zH <| zA <| zL ?_
      change decide ((i : Int) < (s.size : Int)) = false at hb1
      have hi : i = s.size := by have := of_decide_eq_false hb1; omega
      exact ⟨⟨(rfl : toAV (Al.look _ _) = some _).trans (congrArg (fun z => some (sv z)) (uw (by rw [h2, hi, List.take_of_length_le (Nat.le_of_eq hz)]))), rfl⟩, trivial⟩
theorem rhigh_c (u : Int) (h : 0 ≤ u ∧ u < 18446744073709551616) : zn Tryz.prog Γ0 138 [uv u, iv 8] [sv (yF (be 8 u.toNat))] := by
  refine z_ Tryz.func138 rfl Tryz.ntmps138 (by kernel_rfl) rfl fun w0 I0 G0 => ?_
  refine zD <| zB <| g_u (zE rfl rfl) <| zH <| zA <| zD <| zB <| g_u (zE rfl rfl) <| zH <| zA <| zD <| zD <| zB <| g_u (zE rfl rfl) <| zH <| zA <| zU ?_
  refine zw (fun j : Nat × Int × ByteArray => [(0, .imm (uv j.2.1)), (1, .imm (iv 8)), (5, .imm (sv j.2.2)), (6, .imm (iv (j.1 : Int)))]) (fun j => j.1 ≤ 8 ∧ (0 ≤ j.2.1 ∧ j.2.1 < 18446744073709551616) ∧ j.2.2.size = j.1 ∧ be (8 - j.1) j.2.1.toNat ++ lst j.2.2 = be 8 u.toNat) (fun j => 8 - j.1) (⟨0, u, ⟨#[]⟩⟩) ?_ ⟨rfl, rfl, rfl, rfl, trivial⟩ ?_
  · exact ⟨Nat.zero_le _, h, rfl, by rw [show lst (ByteArray.mk #[]) = [] from rfl, List.append_nil]; rfl⟩
  · rintro ⟨i, v, t⟩ ⟨h1, h2, h3, h4⟩; dsimp only at h1 h2 h3 h4
    refine zD <| zD <| zB <| g_u (zC rfl rfl) <| g_u (zC rfl rfl) <| g_u (ye rfl rfl rfl) <| zH <| zA ?_
    refine zN rfl (fun hb1 => ?_) (fun hb1 => ?_)
    · refine zQ ?_
      refine zA <| zD <| zU <| zD <| zB <| g_u (zC rfl rfl) ?_
      refine g_u (r8 rfl rfl rfl (by first | decide | omega | (((try simp only [decide_eq_true_eq, decide_eq_false_iff_not, bne_iff_ne, ne_eq, beq_iff_eq, qd, beq_eq_false_iff_ne, Bool.not_eq_true', Bool.not_eq_false', gt_iff_lt, ge_iff_le] at *); (repeat simp (disch := omega) only [zO, zi] at *)); omega))) ?_
      refine g_u (xL rfl rfl Tryz.underlying57 Tryz.underlying5) <| g_u (zl (X0 := z5) rfl Tryz.underlying42 tS5 tZ5 rfl rfl rfl rfl rfl rfl rfl rfl) <| g_u (tq ((uY bl_nil)) rfl rfl Tryz.underlying42 Tryz.underlying9 Tryz.underlying5) <| g_u (zC rfl rfl) ?_
      refine g_u (y5 rfl rfl rfl (by show _ ≤ (9223372036854775807 : Int); (try dsimp only); simp only [ze, List.length_cons, List.length_nil]; omega)) ?_
      refine g_u (zE rfl rfl) <| zH <| zA <| zB <| g_u (zC rfl rfl) ?_
      refine g_u (rN rfl rfl rfl (by first | decide | omega | (((try simp only [decide_eq_true_eq, decide_eq_false_iff_not, bne_iff_ne, ne_eq, beq_iff_eq, qd, beq_eq_false_iff_ne, Bool.not_eq_true', Bool.not_eq_false', gt_iff_lt, ge_iff_le] at *); (repeat simp (disch := omega) only [zO, zi] at *)); omega))) ?_
      refine g_u (zE rfl rfl) <| zH <| zW <| zA <| zB <| g_u (zC rfl rfl) <| g_u (z0 rfl rfl rfl) <| g_u (zE rfl rfl) <| zH <| zA ?_
      change decide ((i : Int) < 8) = true at hb1
      have hi : i < 8 := by have := of_decide_eq_true hb1; omega
      have e1 : IntKind.u64.wrap (v.tdiv 256) = v / 256 := by rw [uS v 256 h2.1 (by decide), xb (by omega) (by omega)]
      refine ⟨⟨i + 1, _, _⟩, ⟨hi, ?_, ?_, ?_⟩, ⟨rfl, rfl, rfl, zX rfl (by rw [zO (by omega) (by omega)]; rfl), trivial⟩, by dsimp only; omega⟩
      · show 0 ≤ IntKind.u64.wrap (v.tdiv 256) ∧ IntKind.u64.wrap (v.tdiv 256) < 18446744073709551616; rw [e1]; omega
      · dsimp only; rw [zo, ze, h3]; simp only [List.length_cons, List.length_nil]; omega
      · show be (8 - (i + 1)) (IntKind.u64.wrap (v.tdiv 256)).toNat ++ lst (yF [ofI (IntKind.u8.wrap (v.tmod 256))] ++ t) = be 8 u.toNat
        rw [e1, x_, yN, byte_ofI v h2.1, ← h4, show 8 - i = 8 - (i + 1) + 1 by omega, be_next _ _ h2.1, List.append_assoc]
    · refine zz ?_
      refine zT <| zT <| zq <| zA <| zD <| zB <| g_u (zC rfl rfl) <| g_u (zE rfl rfl) <| zH <| zA <| zL ?_
      change decide ((i : Int) < 8) = false at hb1
      have hi : i = 8 := by have := of_decide_eq_false hb1; omega
      exact ⟨⟨(rfl : toAV (Al.look _ _) = some _).trans (congrArg (fun z => some (sv z)) (uw (by rw [← h4, hi]; rfl))), rfl⟩, trivial⟩
end Go.Proofs
