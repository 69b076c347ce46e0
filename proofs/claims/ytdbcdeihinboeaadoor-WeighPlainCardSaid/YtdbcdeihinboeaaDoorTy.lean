/- Closed facts on the types of this program: sizes, zeros, places of fields. No condition. -/
import Derived.Test.YtdbcdeihinboeaaDoorAm
import Derived.Test.YtdbcdeihinboeaaDoorProg
import Derived.KernelRfl
set_option linter.unusedVariables false
namespace Go.Proofs
open Go Go.Al
set_option maxRecDepth 10000
theorem mixed : Tryd.prog.follows .mixedOrders = true := by kernel_rfl
def Γ0 : List (Nat × AV) := [(2, .arr 8 [56, 48, 40, 32, 24, 16, 8, 0])]
theorem tA1 : tyAgg Tryd.prog 1 = some false := by kernel_rfl
theorem tS1 : tySize Tryd.prog 1 = some 1 := by kernel_rfl
def z1 : AV := .v .nilFunc
theorem zv1 : tyZero Tryd.prog 1 = some (.nilFunc) := by kernel_rfl
theorem by1 : (Tryd.prog.info? 1).map (·.bytes) = some 8 := by kernel_rfl
theorem tZ1 : IsZero Tryd.prog 1 z1 := ⟨.nilFunc, by kernel_rfl, by kernel_rfl⟩
theorem nI1 : notIface Tryd.prog 1 := ⟨_, Tryd.underlying1, rfl⟩
theorem tA2 : tyAgg Tryd.prog 2 = some false := by kernel_rfl
theorem tS2 : tySize Tryd.prog 2 = some 1 := by kernel_rfl
def z2 : AV := .v (.int .i64 0)
theorem zv2 : tyZero Tryd.prog 2 = some (.int .i64 0) := by kernel_rfl
theorem by2 : (Tryd.prog.info? 2).map (·.bytes) = some 8 := by kernel_rfl
theorem tZ2 : IsZero Tryd.prog 2 z2 := ⟨.int .i64 0, by kernel_rfl, by kernel_rfl⟩
theorem nI2 : notIface Tryd.prog 2 := ⟨_, Tryd.underlying2, rfl⟩
theorem tA3 : tyAgg Tryd.prog 3 = some false := by kernel_rfl
theorem tS3 : tySize Tryd.prog 3 = some 1 := by kernel_rfl
def z3 : AV := .v (.int .i64 0)
theorem zv3 : tyZero Tryd.prog 3 = some (.int .i64 0) := by kernel_rfl
theorem by3 : (Tryd.prog.info? 3).map (·.bytes) = some 8 := by kernel_rfl
theorem tZ3 : IsZero Tryd.prog 3 z3 := ⟨.int .i64 0, by kernel_rfl, by kernel_rfl⟩
theorem nI3 : notIface Tryd.prog 3 := ⟨_, Tryd.underlying3, rfl⟩
theorem tA4 : tyAgg Tryd.prog 4 = some false := by kernel_rfl
theorem tS4 : tySize Tryd.prog 4 = some 1 := by kernel_rfl
def z4 : AV := .v (.bool false)
theorem zv4 : tyZero Tryd.prog 4 = some (.bool false) := by kernel_rfl
theorem by4 : (Tryd.prog.info? 4).map (·.bytes) = some 1 := by kernel_rfl
theorem tZ4 : IsZero Tryd.prog 4 z4 := ⟨.bool false, by kernel_rfl, by kernel_rfl⟩
theorem nI4 : notIface Tryd.prog 4 := ⟨_, Tryd.underlying4, rfl⟩
theorem tA5 : tyAgg Tryd.prog 5 = some false := by kernel_rfl
theorem tS5 : tySize Tryd.prog 5 = some 1 := by kernel_rfl
def z5 : AV := .v (.int .u8 0)
theorem zv5 : tyZero Tryd.prog 5 = some (.int .u8 0) := by kernel_rfl
theorem by5 : (Tryd.prog.info? 5).map (·.bytes) = some 1 := by kernel_rfl
theorem tZ5 : IsZero Tryd.prog 5 z5 := ⟨.int .u8 0, by kernel_rfl, by kernel_rfl⟩
theorem nI5 : notIface Tryd.prog 5 := ⟨_, Tryd.underlying5, rfl⟩
theorem tA9 : tyAgg Tryd.prog 9 = some false := by kernel_rfl
theorem tS9 : tySize Tryd.prog 9 = some 1 := by kernel_rfl
def z9 : AV := .v (.string .empty)
theorem zv9 : tyZero Tryd.prog 9 = some (.string .empty) := by kernel_rfl
theorem by9 : (Tryd.prog.info? 9).map (·.bytes) = some 16 := by kernel_rfl
theorem tZ9 : IsZero Tryd.prog 9 z9 := ⟨.string .empty, by kernel_rfl, by kernel_rfl⟩
theorem nI9 : notIface Tryd.prog 9 := ⟨_, Tryd.underlying9, rfl⟩
theorem tA12 : tyAgg Tryd.prog 12 = some false := by kernel_rfl
theorem tS12 : tySize Tryd.prog 12 = some 1 := by kernel_rfl
def z12 : AV := .v (.int .u64 0)
theorem zv12 : tyZero Tryd.prog 12 = some (.int .u64 0) := by kernel_rfl
theorem by12 : (Tryd.prog.info? 12).map (·.bytes) = some 8 := by kernel_rfl
theorem tZ12 : IsZero Tryd.prog 12 z12 := ⟨.int .u64 0, by kernel_rfl, by kernel_rfl⟩
theorem nI12 : notIface Tryd.prog 12 := ⟨_, Tryd.underlying12, rfl⟩
theorem tA13 : tyAgg Tryd.prog 13 = some true := by kernel_rfl
theorem tS13 : tySize Tryd.prog 13 = some 2 := by kernel_rfl
def z13 : AV := .agg [.v (.string .empty), .v (.int .u64 0)]
theorem zv13 : tyZero Tryd.prog 13 = some (.agg #[.string .empty, .int .u64 0]) := by kernel_rfl
theorem by13 : (Tryd.prog.info? 13).map (·.bytes) = some 24 := by kernel_rfl
theorem tZ13 : IsZero Tryd.prog 13 z13 := ⟨.agg #[.string .empty, .int .u64 0], by kernel_rfl, by kernel_rfl⟩
def zs13 : AV := .agg [.v (.string .empty), .v (.int .u64 0)]
theorem tU13 : IsZero Tryd.prog 13 zs13 := ⟨.agg #[.string .empty, .int .u64 0], by kernel_rfl, by kernel_rfl⟩
theorem nI13 : notIface Tryd.prog 13 := ⟨_, Tryd.underlying13, rfl⟩
theorem fa13_0 : fieldAt Tryd.prog 13 0 0 1 false := ⟨_, _, Tryd.underlying13, rfl, rfl, tS9, tA9⟩
theorem fa13_1 : fieldAt Tryd.prog 13 1 1 1 false := ⟨_, _, Tryd.underlying13, rfl, rfl, tS12, tA12⟩
theorem pl13 : places Tryd.prog (Program.fieldsOf Tryd.prog 13).toList = some [(0, 1), (1, 1)] := by kernel_rfl
theorem us13 : Tryd.prog.underlying 13 = some (.struct (Program.fieldsOf Tryd.prog 13)) := by kernel_rfl
theorem eg13 : Tryd.prog.eqGuardType Tryd.prog.depth 13 = false := by kernel_rfl
theorem tA20 : tyAgg Tryd.prog 20 = some false := by kernel_rfl
theorem tS20 : tySize Tryd.prog 20 = some 1 := by kernel_rfl
def z20 : AV := .v .nilIface
theorem zv20 : tyZero Tryd.prog 20 = some (.nilIface) := by kernel_rfl
theorem by20 : (Tryd.prog.info? 20).map (·.bytes) = some 16 := by kernel_rfl
theorem tZ20 : IsZero Tryd.prog 20 z20 := ⟨.nilIface, by kernel_rfl, by kernel_rfl⟩
theorem tA21 : tyAgg Tryd.prog 21 = some false := by kernel_rfl
theorem tS21 : tySize Tryd.prog 21 = some 1 := by kernel_rfl
def z21 : AV := .v (.int .i32 0)
theorem zv21 : tyZero Tryd.prog 21 = some (.int .i32 0) := by kernel_rfl
theorem by21 : (Tryd.prog.info? 21).map (·.bytes) = some 4 := by kernel_rfl
theorem tZ21 : IsZero Tryd.prog 21 z21 := ⟨.int .i32 0, by kernel_rfl, by kernel_rfl⟩
theorem nI21 : notIface Tryd.prog 21 := ⟨_, Tryd.underlying21, rfl⟩
theorem tA22 : tyAgg Tryd.prog 22 = some false := by kernel_rfl
theorem tS22 : tySize Tryd.prog 22 = some 1 := by kernel_rfl
def z22 : AV := .v (.slice none 0 0)
theorem zv22 : tyZero Tryd.prog 22 = some (.slice none 0 0) := by kernel_rfl
theorem by22 : (Tryd.prog.info? 22).map (·.bytes) = some 24 := by kernel_rfl
theorem tZ22 : IsZero Tryd.prog 22 z22 := ⟨.slice none 0 0, by kernel_rfl, by kernel_rfl⟩
theorem nI22 : notIface Tryd.prog 22 := ⟨_, Tryd.underlying22, rfl⟩
theorem tA23 : tyAgg Tryd.prog 23 = some true := by kernel_rfl
theorem tS23 : tySize Tryd.prog 23 = some 1 := by kernel_rfl
def z23 : AV := .agg [.v (.slice none 0 0)]
theorem zv23 : tyZero Tryd.prog 23 = some (.agg #[.slice none 0 0]) := by kernel_rfl
theorem by23 : (Tryd.prog.info? 23).map (·.bytes) = some 24 := by kernel_rfl
theorem tZ23 : IsZero Tryd.prog 23 z23 := ⟨.agg #[.slice none 0 0], by kernel_rfl, by kernel_rfl⟩
def zs23 : AV := .agg [.sl 2 []]
theorem tU23 : IsZero Tryd.prog 23 zs23 := ⟨.agg #[.slice none 0 0], by kernel_rfl, by kernel_rfl⟩
theorem nI23 : notIface Tryd.prog 23 := ⟨_, Tryd.underlying23, rfl⟩
theorem fa23_0 : fieldAt Tryd.prog 23 0 0 1 false := ⟨_, _, Tryd.underlying23, rfl, rfl, tS22, tA22⟩
theorem pl23 : places Tryd.prog (Program.fieldsOf Tryd.prog 23).toList = some [(0, 1)] := by kernel_rfl
theorem us23 : Tryd.prog.underlying 23 = some (.struct (Program.fieldsOf Tryd.prog 23)) := by kernel_rfl
theorem tA24 : tyAgg Tryd.prog 24 = some true := by kernel_rfl
theorem tS24 : tySize Tryd.prog 24 = some 1 := by kernel_rfl
def z24 : AV := .agg [.v (.slice none 0 0)]
theorem zv24 : tyZero Tryd.prog 24 = some (.agg #[.slice none 0 0]) := by kernel_rfl
theorem by24 : (Tryd.prog.info? 24).map (·.bytes) = some 24 := by kernel_rfl
theorem tZ24 : IsZero Tryd.prog 24 z24 := ⟨.agg #[.slice none 0 0], by kernel_rfl, by kernel_rfl⟩
def zs24 : AV := .agg [.sl 2 []]
theorem tU24 : IsZero Tryd.prog 24 zs24 := ⟨.agg #[.slice none 0 0], by kernel_rfl, by kernel_rfl⟩
theorem nI24 : notIface Tryd.prog 24 := ⟨_, Tryd.underlying24, rfl⟩
theorem fa24_0 : fieldAt Tryd.prog 24 0 0 1 false := ⟨_, _, Tryd.underlying24, rfl, rfl, tS22, tA22⟩
theorem pl24 : places Tryd.prog (Program.fieldsOf Tryd.prog 24).toList = some [(0, 1)] := by kernel_rfl
theorem us24 : Tryd.prog.underlying 24 = some (.struct (Program.fieldsOf Tryd.prog 24)) := by kernel_rfl
theorem tA25 : tyAgg Tryd.prog 25 = some true := by kernel_rfl
theorem tS25 : tySize Tryd.prog 25 = some 16 := by kernel_rfl
def z25 : AV := .arr 16 (List.replicate 16 0)
theorem zv25 : tyZero Tryd.prog 25 = some (.agg #[.int .u8 0, .int .u8 0, .int .u8 0, .int .u8 0, .int .u8 0, .int .u8 0, .int .u8 0, .int .u8 0, .int .u8 0, .int .u8 0, .int .u8 0, .int .u8 0, .int .u8 0, .int .u8 0, .int .u8 0, .int .u8 0]) := by kernel_rfl
theorem by25 : (Tryd.prog.info? 25).map (·.bytes) = some 16 := by kernel_rfl
theorem tZ25 : IsZero Tryd.prog 25 z25 := ⟨.agg #[.int .u8 0, .int .u8 0, .int .u8 0, .int .u8 0, .int .u8 0, .int .u8 0, .int .u8 0, .int .u8 0, .int .u8 0, .int .u8 0, .int .u8 0, .int .u8 0, .int .u8 0, .int .u8 0, .int .u8 0, .int .u8 0], by kernel_rfl, by kernel_rfl⟩
def zs25 : AV := .arr 16 (List.replicate 16 0)
theorem tU25 : IsZero Tryd.prog 25 zs25 := ⟨.agg #[.int .u8 0, .int .u8 0, .int .u8 0, .int .u8 0, .int .u8 0, .int .u8 0, .int .u8 0, .int .u8 0, .int .u8 0, .int .u8 0, .int .u8 0, .int .u8 0, .int .u8 0, .int .u8 0, .int .u8 0, .int .u8 0], by kernel_rfl, by kernel_rfl⟩
theorem nI25 : notIface Tryd.prog 25 := ⟨_, Tryd.underlying25, rfl⟩
theorem eg25 : Tryd.prog.eqGuardType Tryd.prog.depth 25 = false := by kernel_rfl
theorem tA26 : tyAgg Tryd.prog 26 = some true := by kernel_rfl
theorem tS26 : tySize Tryd.prog 26 = some 16 := by kernel_rfl
def z26 : AV := .arr 16 (List.replicate 16 0)
theorem zv26 : tyZero Tryd.prog 26 = some (.agg #[.int .u8 0, .int .u8 0, .int .u8 0, .int .u8 0, .int .u8 0, .int .u8 0, .int .u8 0, .int .u8 0, .int .u8 0, .int .u8 0, .int .u8 0, .int .u8 0, .int .u8 0, .int .u8 0, .int .u8 0, .int .u8 0]) := by kernel_rfl
theorem by26 : (Tryd.prog.info? 26).map (·.bytes) = some 16 := by kernel_rfl
theorem tZ26 : IsZero Tryd.prog 26 z26 := ⟨.agg #[.int .u8 0, .int .u8 0, .int .u8 0, .int .u8 0, .int .u8 0, .int .u8 0, .int .u8 0, .int .u8 0, .int .u8 0, .int .u8 0, .int .u8 0, .int .u8 0, .int .u8 0, .int .u8 0, .int .u8 0, .int .u8 0], by kernel_rfl, by kernel_rfl⟩
def zs26 : AV := .arr 16 (List.replicate 16 0)
theorem tU26 : IsZero Tryd.prog 26 zs26 := ⟨.agg #[.int .u8 0, .int .u8 0, .int .u8 0, .int .u8 0, .int .u8 0, .int .u8 0, .int .u8 0, .int .u8 0, .int .u8 0, .int .u8 0, .int .u8 0, .int .u8 0, .int .u8 0, .int .u8 0, .int .u8 0, .int .u8 0], by kernel_rfl, by kernel_rfl⟩
theorem nI26 : notIface Tryd.prog 26 := ⟨_, Tryd.underlying26, rfl⟩
theorem eg26 : Tryd.prog.eqGuardType Tryd.prog.depth 26 = false := by kernel_rfl
theorem tA27 : tyAgg Tryd.prog 27 = some true := by kernel_rfl
theorem tS27 : tySize Tryd.prog 27 = some 8 := by kernel_rfl
def z27 : AV := .arr 8 (List.replicate 8 0)
theorem zv27 : tyZero Tryd.prog 27 = some (.agg #[.int .u8 0, .int .u8 0, .int .u8 0, .int .u8 0, .int .u8 0, .int .u8 0, .int .u8 0, .int .u8 0]) := by kernel_rfl
theorem by27 : (Tryd.prog.info? 27).map (·.bytes) = some 8 := by kernel_rfl
theorem tZ27 : IsZero Tryd.prog 27 z27 := ⟨.agg #[.int .u8 0, .int .u8 0, .int .u8 0, .int .u8 0, .int .u8 0, .int .u8 0, .int .u8 0, .int .u8 0], by kernel_rfl, by kernel_rfl⟩
def zs27 : AV := .arr 8 (List.replicate 8 0)
theorem tU27 : IsZero Tryd.prog 27 zs27 := ⟨.agg #[.int .u8 0, .int .u8 0, .int .u8 0, .int .u8 0, .int .u8 0, .int .u8 0, .int .u8 0, .int .u8 0], by kernel_rfl, by kernel_rfl⟩
theorem nI27 : notIface Tryd.prog 27 := ⟨_, Tryd.underlying27, rfl⟩
theorem eg27 : Tryd.prog.eqGuardType Tryd.prog.depth 27 = false := by kernel_rfl
theorem tA28 : tyAgg Tryd.prog 28 = some true := by kernel_rfl
theorem tS28 : tySize Tryd.prog 28 = some 8 := by kernel_rfl
def z28 : AV := .arr 8 (List.replicate 8 0)
theorem zv28 : tyZero Tryd.prog 28 = some (.agg #[.int .u8 0, .int .u8 0, .int .u8 0, .int .u8 0, .int .u8 0, .int .u8 0, .int .u8 0, .int .u8 0]) := by kernel_rfl
theorem by28 : (Tryd.prog.info? 28).map (·.bytes) = some 8 := by kernel_rfl
theorem tZ28 : IsZero Tryd.prog 28 z28 := ⟨.agg #[.int .u8 0, .int .u8 0, .int .u8 0, .int .u8 0, .int .u8 0, .int .u8 0, .int .u8 0, .int .u8 0], by kernel_rfl, by kernel_rfl⟩
def zs28 : AV := .arr 8 (List.replicate 8 0)
theorem tU28 : IsZero Tryd.prog 28 zs28 := ⟨.agg #[.int .u8 0, .int .u8 0, .int .u8 0, .int .u8 0, .int .u8 0, .int .u8 0, .int .u8 0, .int .u8 0], by kernel_rfl, by kernel_rfl⟩
theorem nI28 : notIface Tryd.prog 28 := ⟨_, Tryd.underlying28, rfl⟩
theorem eg28 : Tryd.prog.eqGuardType Tryd.prog.depth 28 = false := by kernel_rfl
theorem tA29 : tyAgg Tryd.prog 29 = some false := by kernel_rfl
theorem tS29 : tySize Tryd.prog 29 = some 1 := by kernel_rfl
def z29 : AV := .v (.int .u64 0)
theorem zv29 : tyZero Tryd.prog 29 = some (.int .u64 0) := by kernel_rfl
theorem by29 : (Tryd.prog.info? 29).map (·.bytes) = some 8 := by kernel_rfl
theorem tZ29 : IsZero Tryd.prog 29 z29 := ⟨.int .u64 0, by kernel_rfl, by kernel_rfl⟩
theorem nI29 : notIface Tryd.prog 29 := ⟨_, Tryd.underlying29, rfl⟩
theorem tA30 : tyAgg Tryd.prog 30 = some false := by kernel_rfl
theorem tS30 : tySize Tryd.prog 30 = some 1 := by kernel_rfl
def z30 : AV := .v (.slice none 0 0)
theorem zv30 : tyZero Tryd.prog 30 = some (.slice none 0 0) := by kernel_rfl
theorem by30 : (Tryd.prog.info? 30).map (·.bytes) = some 24 := by kernel_rfl
theorem tZ30 : IsZero Tryd.prog 30 z30 := ⟨.slice none 0 0, by kernel_rfl, by kernel_rfl⟩
theorem nI30 : notIface Tryd.prog 30 := ⟨_, Tryd.underlying30, rfl⟩
theorem tA31 : tyAgg Tryd.prog 31 = some false := by kernel_rfl
theorem tS31 : tySize Tryd.prog 31 = some 1 := by kernel_rfl
def z31 : AV := .v (.slice none 0 0)
theorem zv31 : tyZero Tryd.prog 31 = some (.slice none 0 0) := by kernel_rfl
theorem by31 : (Tryd.prog.info? 31).map (·.bytes) = some 24 := by kernel_rfl
theorem tZ31 : IsZero Tryd.prog 31 z31 := ⟨.slice none 0 0, by kernel_rfl, by kernel_rfl⟩
theorem nI31 : notIface Tryd.prog 31 := ⟨_, Tryd.underlying31, rfl⟩
theorem tA32 : tyAgg Tryd.prog 32 = some false := by kernel_rfl
theorem tS32 : tySize Tryd.prog 32 = some 1 := by kernel_rfl
def z32 : AV := .v (.slice none 0 0)
theorem zv32 : tyZero Tryd.prog 32 = some (.slice none 0 0) := by kernel_rfl
theorem by32 : (Tryd.prog.info? 32).map (·.bytes) = some 24 := by kernel_rfl
theorem tZ32 : IsZero Tryd.prog 32 z32 := ⟨.slice none 0 0, by kernel_rfl, by kernel_rfl⟩
theorem nI32 : notIface Tryd.prog 32 := ⟨_, Tryd.underlying32, rfl⟩
theorem tA33 : tyAgg Tryd.prog 33 = some true := by kernel_rfl
theorem tS33 : tySize Tryd.prog 33 = some 2 := by kernel_rfl
def z33 : AV := .agg [.v (.int .i64 0), .v (.string .empty)]
theorem zv33 : tyZero Tryd.prog 33 = some (.agg #[.int .i64 0, .string .empty]) := by kernel_rfl
theorem by33 : (Tryd.prog.info? 33).map (·.bytes) = some 24 := by kernel_rfl
theorem tZ33 : IsZero Tryd.prog 33 z33 := ⟨.agg #[.int .i64 0, .string .empty], by kernel_rfl, by kernel_rfl⟩
def zs33 : AV := .agg [.v (.int .i64 0), .v (.string .empty)]
theorem tU33 : IsZero Tryd.prog 33 zs33 := ⟨.agg #[.int .i64 0, .string .empty], by kernel_rfl, by kernel_rfl⟩
theorem nI33 : notIface Tryd.prog 33 := ⟨_, Tryd.underlying33, rfl⟩
theorem fa33_0 : fieldAt Tryd.prog 33 0 0 1 false := ⟨_, _, Tryd.underlying33, rfl, rfl, tS3, tA3⟩
theorem fa33_1 : fieldAt Tryd.prog 33 1 1 1 false := ⟨_, _, Tryd.underlying33, rfl, rfl, tS9, tA9⟩
theorem pl33 : places Tryd.prog (Program.fieldsOf Tryd.prog 33).toList = some [(0, 1), (1, 1)] := by kernel_rfl
theorem us33 : Tryd.prog.underlying 33 = some (.struct (Program.fieldsOf Tryd.prog 33)) := by kernel_rfl
theorem eg33 : Tryd.prog.eqGuardType Tryd.prog.depth 33 = false := by kernel_rfl
theorem tA34 : tyAgg Tryd.prog 34 = some true := by kernel_rfl
theorem tS34 : tySize Tryd.prog 34 = some 2 := by kernel_rfl
def z34 : AV := .agg [.v (.int .i64 0), .v (.string .empty)]
theorem zv34 : tyZero Tryd.prog 34 = some (.agg #[.int .i64 0, .string .empty]) := by kernel_rfl
theorem by34 : (Tryd.prog.info? 34).map (·.bytes) = some 24 := by kernel_rfl
theorem tZ34 : IsZero Tryd.prog 34 z34 := ⟨.agg #[.int .i64 0, .string .empty], by kernel_rfl, by kernel_rfl⟩
def zs34 : AV := .agg [.v (.int .i64 0), .v (.string .empty)]
theorem tU34 : IsZero Tryd.prog 34 zs34 := ⟨.agg #[.int .i64 0, .string .empty], by kernel_rfl, by kernel_rfl⟩
theorem nI34 : notIface Tryd.prog 34 := ⟨_, Tryd.underlying34, rfl⟩
theorem fa34_0 : fieldAt Tryd.prog 34 0 0 1 false := ⟨_, _, Tryd.underlying34, rfl, rfl, tS3, tA3⟩
theorem fa34_1 : fieldAt Tryd.prog 34 1 1 1 false := ⟨_, _, Tryd.underlying34, rfl, rfl, tS9, tA9⟩
theorem pl34 : places Tryd.prog (Program.fieldsOf Tryd.prog 34).toList = some [(0, 1), (1, 1)] := by kernel_rfl
theorem us34 : Tryd.prog.underlying 34 = some (.struct (Program.fieldsOf Tryd.prog 34)) := by kernel_rfl
theorem eg34 : Tryd.prog.eqGuardType Tryd.prog.depth 34 = false := by kernel_rfl
theorem tA35 : tyAgg Tryd.prog 35 = some true := by kernel_rfl
theorem tS35 : tySize Tryd.prog 35 = some 42 := by kernel_rfl
def z35 : AV := .agg [.arr 16 (List.replicate 16 0), .arr 8 (List.replicate 8 0), .arr 8 (List.replicate 8 0), .v (.string .empty), .v (.string .empty), .v (.int .i64 0), .v (.int .u64 0), .v (.int .u64 0), .v (.slice none 0 0), .v (.slice none 0 0), .v (.slice none 0 0), .agg [.v (.int .i64 0), .v (.string .empty)]]
theorem zv35 : tyZero Tryd.prog 35 = some (.agg #[.int .u8 0, .int .u8 0, .int .u8 0, .int .u8 0, .int .u8 0, .int .u8 0, .int .u8 0, .int .u8 0, .int .u8 0, .int .u8 0, .int .u8 0, .int .u8 0, .int .u8 0, .int .u8 0, .int .u8 0, .int .u8 0, .int .u8 0, .int .u8 0, .int .u8 0, .int .u8 0, .int .u8 0, .int .u8 0, .int .u8 0, .int .u8 0, .int .u8 0, .int .u8 0, .int .u8 0, .int .u8 0, .int .u8 0, .int .u8 0, .int .u8 0, .int .u8 0, .string .empty, .string .empty, .int .i64 0, .int .u64 0, .int .u64 0, .slice none 0 0, .slice none 0 0, .slice none 0 0, .int .i64 0, .string .empty]) := by kernel_rfl
theorem by35 : (Tryd.prog.info? 35).map (·.bytes) = some 184 := by kernel_rfl
theorem tZ35 : IsZero Tryd.prog 35 z35 := ⟨.agg #[.int .u8 0, .int .u8 0, .int .u8 0, .int .u8 0, .int .u8 0, .int .u8 0, .int .u8 0, .int .u8 0, .int .u8 0, .int .u8 0, .int .u8 0, .int .u8 0, .int .u8 0, .int .u8 0, .int .u8 0, .int .u8 0, .int .u8 0, .int .u8 0, .int .u8 0, .int .u8 0, .int .u8 0, .int .u8 0, .int .u8 0, .int .u8 0, .int .u8 0, .int .u8 0, .int .u8 0, .int .u8 0, .int .u8 0, .int .u8 0, .int .u8 0, .int .u8 0, .string .empty, .string .empty, .int .i64 0, .int .u64 0, .int .u64 0, .slice none 0 0, .slice none 0 0, .slice none 0 0, .int .i64 0, .string .empty], by kernel_rfl, by kernel_rfl⟩
def zs35 : AV := .agg [.arr 16 (List.replicate 16 0), .arr 8 (List.replicate 8 0), .arr 8 (List.replicate 8 0), .v (.string .empty), .v (.string .empty), .v (.int .i64 0), .v (.int .u64 0), .v (.int .u64 0), .sl 7 [], .sl 3 [], .sl 26 [], .agg [.v (.int .i64 0), .v (.string .empty)]]
theorem tU35 : IsZero Tryd.prog 35 zs35 := ⟨.agg #[.int .u8 0, .int .u8 0, .int .u8 0, .int .u8 0, .int .u8 0, .int .u8 0, .int .u8 0, .int .u8 0, .int .u8 0, .int .u8 0, .int .u8 0, .int .u8 0, .int .u8 0, .int .u8 0, .int .u8 0, .int .u8 0, .int .u8 0, .int .u8 0, .int .u8 0, .int .u8 0, .int .u8 0, .int .u8 0, .int .u8 0, .int .u8 0, .int .u8 0, .int .u8 0, .int .u8 0, .int .u8 0, .int .u8 0, .int .u8 0, .int .u8 0, .int .u8 0, .string .empty, .string .empty, .int .i64 0, .int .u64 0, .int .u64 0, .slice none 0 0, .slice none 0 0, .slice none 0 0, .int .i64 0, .string .empty], by kernel_rfl, by kernel_rfl⟩
theorem nI35 : notIface Tryd.prog 35 := ⟨_, Tryd.underlying35, rfl⟩
theorem fa35_0 : fieldAt Tryd.prog 35 0 0 16 true := ⟨_, _, Tryd.underlying35, rfl, rfl, tS26, tA26⟩
theorem fa35_1 : fieldAt Tryd.prog 35 1 16 8 true := ⟨_, _, Tryd.underlying35, rfl, rfl, tS28, tA28⟩
theorem fa35_2 : fieldAt Tryd.prog 35 2 24 8 true := ⟨_, _, Tryd.underlying35, rfl, rfl, tS28, tA28⟩
theorem fa35_3 : fieldAt Tryd.prog 35 3 32 1 false := ⟨_, _, Tryd.underlying35, rfl, rfl, tS9, tA9⟩
theorem fa35_4 : fieldAt Tryd.prog 35 4 33 1 false := ⟨_, _, Tryd.underlying35, rfl, rfl, tS9, tA9⟩
theorem fa35_5 : fieldAt Tryd.prog 35 5 34 1 false := ⟨_, _, Tryd.underlying35, rfl, rfl, tS3, tA3⟩
theorem fa35_6 : fieldAt Tryd.prog 35 6 35 1 false := ⟨_, _, Tryd.underlying35, rfl, rfl, tS29, tA29⟩
theorem fa35_7 : fieldAt Tryd.prog 35 7 36 1 false := ⟨_, _, Tryd.underlying35, rfl, rfl, tS29, tA29⟩
theorem fa35_8 : fieldAt Tryd.prog 35 8 37 1 false := ⟨_, _, Tryd.underlying35, rfl, rfl, tS30, tA30⟩
theorem fa35_9 : fieldAt Tryd.prog 35 9 38 1 false := ⟨_, _, Tryd.underlying35, rfl, rfl, tS31, tA31⟩
theorem fa35_10 : fieldAt Tryd.prog 35 10 39 1 false := ⟨_, _, Tryd.underlying35, rfl, rfl, tS32, tA32⟩
theorem fa35_11 : fieldAt Tryd.prog 35 11 40 2 true := ⟨_, _, Tryd.underlying35, rfl, rfl, tS34, tA34⟩
theorem pl35 : places Tryd.prog (Program.fieldsOf Tryd.prog 35).toList = some [(0, 16), (16, 8), (24, 8), (32, 1), (33, 1), (34, 1), (35, 1), (36, 1), (37, 1), (38, 1), (39, 1), (40, 2)] := by kernel_rfl
theorem us35 : Tryd.prog.underlying 35 = some (.struct (Program.fieldsOf Tryd.prog 35)) := by kernel_rfl
theorem tA36 : tyAgg Tryd.prog 36 = some true := by kernel_rfl
theorem tS36 : tySize Tryd.prog 36 = some 42 := by kernel_rfl
def z36 : AV := .agg [.arr 16 (List.replicate 16 0), .arr 8 (List.replicate 8 0), .arr 8 (List.replicate 8 0), .v (.string .empty), .v (.string .empty), .v (.int .i64 0), .v (.int .u64 0), .v (.int .u64 0), .v (.slice none 0 0), .v (.slice none 0 0), .v (.slice none 0 0), .agg [.v (.int .i64 0), .v (.string .empty)]]
theorem zv36 : tyZero Tryd.prog 36 = some (.agg #[.int .u8 0, .int .u8 0, .int .u8 0, .int .u8 0, .int .u8 0, .int .u8 0, .int .u8 0, .int .u8 0, .int .u8 0, .int .u8 0, .int .u8 0, .int .u8 0, .int .u8 0, .int .u8 0, .int .u8 0, .int .u8 0, .int .u8 0, .int .u8 0, .int .u8 0, .int .u8 0, .int .u8 0, .int .u8 0, .int .u8 0, .int .u8 0, .int .u8 0, .int .u8 0, .int .u8 0, .int .u8 0, .int .u8 0, .int .u8 0, .int .u8 0, .int .u8 0, .string .empty, .string .empty, .int .i64 0, .int .u64 0, .int .u64 0, .slice none 0 0, .slice none 0 0, .slice none 0 0, .int .i64 0, .string .empty]) := by kernel_rfl
theorem by36 : (Tryd.prog.info? 36).map (·.bytes) = some 184 := by kernel_rfl
theorem tZ36 : IsZero Tryd.prog 36 z36 := ⟨.agg #[.int .u8 0, .int .u8 0, .int .u8 0, .int .u8 0, .int .u8 0, .int .u8 0, .int .u8 0, .int .u8 0, .int .u8 0, .int .u8 0, .int .u8 0, .int .u8 0, .int .u8 0, .int .u8 0, .int .u8 0, .int .u8 0, .int .u8 0, .int .u8 0, .int .u8 0, .int .u8 0, .int .u8 0, .int .u8 0, .int .u8 0, .int .u8 0, .int .u8 0, .int .u8 0, .int .u8 0, .int .u8 0, .int .u8 0, .int .u8 0, .int .u8 0, .int .u8 0, .string .empty, .string .empty, .int .i64 0, .int .u64 0, .int .u64 0, .slice none 0 0, .slice none 0 0, .slice none 0 0, .int .i64 0, .string .empty], by kernel_rfl, by kernel_rfl⟩
def zs36 : AV := .agg [.arr 16 (List.replicate 16 0), .arr 8 (List.replicate 8 0), .arr 8 (List.replicate 8 0), .v (.string .empty), .v (.string .empty), .v (.int .i64 0), .v (.int .u64 0), .v (.int .u64 0), .sl 7 [], .sl 3 [], .sl 26 [], .agg [.v (.int .i64 0), .v (.string .empty)]]
theorem tU36 : IsZero Tryd.prog 36 zs36 := ⟨.agg #[.int .u8 0, .int .u8 0, .int .u8 0, .int .u8 0, .int .u8 0, .int .u8 0, .int .u8 0, .int .u8 0, .int .u8 0, .int .u8 0, .int .u8 0, .int .u8 0, .int .u8 0, .int .u8 0, .int .u8 0, .int .u8 0, .int .u8 0, .int .u8 0, .int .u8 0, .int .u8 0, .int .u8 0, .int .u8 0, .int .u8 0, .int .u8 0, .int .u8 0, .int .u8 0, .int .u8 0, .int .u8 0, .int .u8 0, .int .u8 0, .int .u8 0, .int .u8 0, .string .empty, .string .empty, .int .i64 0, .int .u64 0, .int .u64 0, .slice none 0 0, .slice none 0 0, .slice none 0 0, .int .i64 0, .string .empty], by kernel_rfl, by kernel_rfl⟩
theorem nI36 : notIface Tryd.prog 36 := ⟨_, Tryd.underlying36, rfl⟩
theorem fa36_0 : fieldAt Tryd.prog 36 0 0 16 true := ⟨_, _, Tryd.underlying36, rfl, rfl, tS26, tA26⟩
theorem fa36_1 : fieldAt Tryd.prog 36 1 16 8 true := ⟨_, _, Tryd.underlying36, rfl, rfl, tS28, tA28⟩
theorem fa36_2 : fieldAt Tryd.prog 36 2 24 8 true := ⟨_, _, Tryd.underlying36, rfl, rfl, tS28, tA28⟩
theorem fa36_3 : fieldAt Tryd.prog 36 3 32 1 false := ⟨_, _, Tryd.underlying36, rfl, rfl, tS9, tA9⟩
theorem fa36_4 : fieldAt Tryd.prog 36 4 33 1 false := ⟨_, _, Tryd.underlying36, rfl, rfl, tS9, tA9⟩
theorem fa36_5 : fieldAt Tryd.prog 36 5 34 1 false := ⟨_, _, Tryd.underlying36, rfl, rfl, tS3, tA3⟩
theorem fa36_6 : fieldAt Tryd.prog 36 6 35 1 false := ⟨_, _, Tryd.underlying36, rfl, rfl, tS29, tA29⟩
theorem fa36_7 : fieldAt Tryd.prog 36 7 36 1 false := ⟨_, _, Tryd.underlying36, rfl, rfl, tS29, tA29⟩
theorem fa36_8 : fieldAt Tryd.prog 36 8 37 1 false := ⟨_, _, Tryd.underlying36, rfl, rfl, tS30, tA30⟩
theorem fa36_9 : fieldAt Tryd.prog 36 9 38 1 false := ⟨_, _, Tryd.underlying36, rfl, rfl, tS31, tA31⟩
theorem fa36_10 : fieldAt Tryd.prog 36 10 39 1 false := ⟨_, _, Tryd.underlying36, rfl, rfl, tS32, tA32⟩
theorem fa36_11 : fieldAt Tryd.prog 36 11 40 2 true := ⟨_, _, Tryd.underlying36, rfl, rfl, tS34, tA34⟩
theorem pl36 : places Tryd.prog (Program.fieldsOf Tryd.prog 36).toList = some [(0, 16), (16, 8), (24, 8), (32, 1), (33, 1), (34, 1), (35, 1), (36, 1), (37, 1), (38, 1), (39, 1), (40, 2)] := by kernel_rfl
theorem us36 : Tryd.prog.underlying 36 = some (.struct (Program.fieldsOf Tryd.prog 36)) := by kernel_rfl
theorem tA37 : tyAgg Tryd.prog 37 = some false := by kernel_rfl
theorem tS37 : tySize Tryd.prog 37 = some 1 := by kernel_rfl
def z37 : AV := .v .nilFunc
theorem zv37 : tyZero Tryd.prog 37 = some (.nilFunc) := by kernel_rfl
theorem by37 : (Tryd.prog.info? 37).map (·.bytes) = some 8 := by kernel_rfl
theorem tZ37 : IsZero Tryd.prog 37 z37 := ⟨.nilFunc, by kernel_rfl, by kernel_rfl⟩
theorem nI37 : notIface Tryd.prog 37 := ⟨_, Tryd.underlying37, rfl⟩
theorem tA38 : tyAgg Tryd.prog 38 = some false := by kernel_rfl
theorem tS38 : tySize Tryd.prog 38 = some 1 := by kernel_rfl
def z38 : AV := .v .nilFunc
theorem zv38 : tyZero Tryd.prog 38 = some (.nilFunc) := by kernel_rfl
theorem by38 : (Tryd.prog.info? 38).map (·.bytes) = some 8 := by kernel_rfl
theorem tZ38 : IsZero Tryd.prog 38 z38 := ⟨.nilFunc, by kernel_rfl, by kernel_rfl⟩
theorem nI38 : notIface Tryd.prog 38 := ⟨_, Tryd.underlying38, rfl⟩
theorem tA39 : tyAgg Tryd.prog 39 = some false := by kernel_rfl
theorem tS39 : tySize Tryd.prog 39 = some 1 := by kernel_rfl
def z39 : AV := .v .nilFunc
theorem zv39 : tyZero Tryd.prog 39 = some (.nilFunc) := by kernel_rfl
theorem by39 : (Tryd.prog.info? 39).map (·.bytes) = some 8 := by kernel_rfl
theorem tZ39 : IsZero Tryd.prog 39 z39 := ⟨.nilFunc, by kernel_rfl, by kernel_rfl⟩
theorem nI39 : notIface Tryd.prog 39 := ⟨_, Tryd.underlying39, rfl⟩
theorem tA40 : tyAgg Tryd.prog 40 = some false := by kernel_rfl
theorem tS40 : tySize Tryd.prog 40 = some 1 := by kernel_rfl
def z40 : AV := .v .nilFunc
theorem zv40 : tyZero Tryd.prog 40 = some (.nilFunc) := by kernel_rfl
theorem by40 : (Tryd.prog.info? 40).map (·.bytes) = some 8 := by kernel_rfl
theorem tZ40 : IsZero Tryd.prog 40 z40 := ⟨.nilFunc, by kernel_rfl, by kernel_rfl⟩
theorem nI40 : notIface Tryd.prog 40 := ⟨_, Tryd.underlying40, rfl⟩
theorem tA41 : tyAgg Tryd.prog 41 = some false := by kernel_rfl
theorem tS41 : tySize Tryd.prog 41 = some 1 := by kernel_rfl
def z41 : AV := .v .nilFunc
theorem zv41 : tyZero Tryd.prog 41 = some (.nilFunc) := by kernel_rfl
theorem by41 : (Tryd.prog.info? 41).map (·.bytes) = some 8 := by kernel_rfl
theorem tZ41 : IsZero Tryd.prog 41 z41 := ⟨.nilFunc, by kernel_rfl, by kernel_rfl⟩
theorem nI41 : notIface Tryd.prog 41 := ⟨_, Tryd.underlying41, rfl⟩
theorem tA42 : tyAgg Tryd.prog 42 = some false := by kernel_rfl
theorem tS42 : tySize Tryd.prog 42 = some 1 := by kernel_rfl
def z42 : AV := .v .nilFunc
theorem zv42 : tyZero Tryd.prog 42 = some (.nilFunc) := by kernel_rfl
theorem by42 : (Tryd.prog.info? 42).map (·.bytes) = some 8 := by kernel_rfl
theorem tZ42 : IsZero Tryd.prog 42 z42 := ⟨.nilFunc, by kernel_rfl, by kernel_rfl⟩
theorem nI42 : notIface Tryd.prog 42 := ⟨_, Tryd.underlying42, rfl⟩
theorem tA43 : tyAgg Tryd.prog 43 = some false := by kernel_rfl
theorem tS43 : tySize Tryd.prog 43 = some 1 := by kernel_rfl
def z43 : AV := .v .nilFunc
theorem zv43 : tyZero Tryd.prog 43 = some (.nilFunc) := by kernel_rfl
theorem by43 : (Tryd.prog.info? 43).map (·.bytes) = some 8 := by kernel_rfl
theorem tZ43 : IsZero Tryd.prog 43 z43 := ⟨.nilFunc, by kernel_rfl, by kernel_rfl⟩
theorem nI43 : notIface Tryd.prog 43 := ⟨_, Tryd.underlying43, rfl⟩
theorem tA44 : tyAgg Tryd.prog 44 = some false := by kernel_rfl
theorem tS44 : tySize Tryd.prog 44 = some 1 := by kernel_rfl
def z44 : AV := .v .nilFunc
theorem zv44 : tyZero Tryd.prog 44 = some (.nilFunc) := by kernel_rfl
theorem by44 : (Tryd.prog.info? 44).map (·.bytes) = some 8 := by kernel_rfl
theorem tZ44 : IsZero Tryd.prog 44 z44 := ⟨.nilFunc, by kernel_rfl, by kernel_rfl⟩
theorem nI44 : notIface Tryd.prog 44 := ⟨_, Tryd.underlying44, rfl⟩
theorem tA45 : tyAgg Tryd.prog 45 = some false := by kernel_rfl
theorem tS45 : tySize Tryd.prog 45 = some 1 := by kernel_rfl
def z45 : AV := .v (.slice none 0 0)
theorem zv45 : tyZero Tryd.prog 45 = some (.slice none 0 0) := by kernel_rfl
theorem by45 : (Tryd.prog.info? 45).map (·.bytes) = some 24 := by kernel_rfl
theorem tZ45 : IsZero Tryd.prog 45 z45 := ⟨.slice none 0 0, by kernel_rfl, by kernel_rfl⟩
theorem nI45 : notIface Tryd.prog 45 := ⟨_, Tryd.underlying45, rfl⟩
theorem tA46 : tyAgg Tryd.prog 46 = some true := by kernel_rfl
theorem tS46 : tySize Tryd.prog 46 = some 2 := by kernel_rfl
def z46 : AV := .agg [.v (.slice none 0 0), .v (.slice none 0 0)]
theorem zv46 : tyZero Tryd.prog 46 = some (.agg #[.slice none 0 0, .slice none 0 0]) := by kernel_rfl
theorem by46 : (Tryd.prog.info? 46).map (·.bytes) = some 48 := by kernel_rfl
theorem tZ46 : IsZero Tryd.prog 46 z46 := ⟨.agg #[.slice none 0 0, .slice none 0 0], by kernel_rfl, by kernel_rfl⟩
def zs46 : AV := .agg [.sl 7 [], .sl 3 []]
theorem tU46 : IsZero Tryd.prog 46 zs46 := ⟨.agg #[.slice none 0 0, .slice none 0 0], by kernel_rfl, by kernel_rfl⟩
theorem nI46 : notIface Tryd.prog 46 := ⟨_, Tryd.underlying46, rfl⟩
theorem fa46_0 : fieldAt Tryd.prog 46 0 0 1 false := ⟨_, _, Tryd.underlying46, rfl, rfl, tS30, tA30⟩
theorem fa46_1 : fieldAt Tryd.prog 46 1 1 1 false := ⟨_, _, Tryd.underlying46, rfl, rfl, tS45, tA45⟩
theorem pl46 : places Tryd.prog (Program.fieldsOf Tryd.prog 46).toList = some [(0, 1), (1, 1)] := by kernel_rfl
theorem us46 : Tryd.prog.underlying 46 = some (.struct (Program.fieldsOf Tryd.prog 46)) := by kernel_rfl
theorem tA47 : tyAgg Tryd.prog 47 = some true := by kernel_rfl
theorem tS47 : tySize Tryd.prog 47 = some 2 := by kernel_rfl
def z47 : AV := .agg [.v (.slice none 0 0), .v (.slice none 0 0)]
theorem zv47 : tyZero Tryd.prog 47 = some (.agg #[.slice none 0 0, .slice none 0 0]) := by kernel_rfl
theorem by47 : (Tryd.prog.info? 47).map (·.bytes) = some 48 := by kernel_rfl
theorem tZ47 : IsZero Tryd.prog 47 z47 := ⟨.agg #[.slice none 0 0, .slice none 0 0], by kernel_rfl, by kernel_rfl⟩
def zs47 : AV := .agg [.sl 7 [], .sl 3 []]
theorem tU47 : IsZero Tryd.prog 47 zs47 := ⟨.agg #[.slice none 0 0, .slice none 0 0], by kernel_rfl, by kernel_rfl⟩
theorem nI47 : notIface Tryd.prog 47 := ⟨_, Tryd.underlying47, rfl⟩
theorem fa47_0 : fieldAt Tryd.prog 47 0 0 1 false := ⟨_, _, Tryd.underlying47, rfl, rfl, tS30, tA30⟩
theorem fa47_1 : fieldAt Tryd.prog 47 1 1 1 false := ⟨_, _, Tryd.underlying47, rfl, rfl, tS45, tA45⟩
theorem pl47 : places Tryd.prog (Program.fieldsOf Tryd.prog 47).toList = some [(0, 1), (1, 1)] := by kernel_rfl
theorem us47 : Tryd.prog.underlying 47 = some (.struct (Program.fieldsOf Tryd.prog 47)) := by kernel_rfl
theorem tA48 : tyAgg Tryd.prog 48 = some false := by kernel_rfl
theorem tS48 : tySize Tryd.prog 48 = some 1 := by kernel_rfl
def z48 : AV := .v .nilFunc
theorem zv48 : tyZero Tryd.prog 48 = some (.nilFunc) := by kernel_rfl
theorem by48 : (Tryd.prog.info? 48).map (·.bytes) = some 8 := by kernel_rfl
theorem tZ48 : IsZero Tryd.prog 48 z48 := ⟨.nilFunc, by kernel_rfl, by kernel_rfl⟩
theorem nI48 : notIface Tryd.prog 48 := ⟨_, Tryd.underlying48, rfl⟩
theorem tA49 : tyAgg Tryd.prog 49 = some false := by kernel_rfl
theorem tS49 : tySize Tryd.prog 49 = some 1 := by kernel_rfl
def z49 : AV := .v .nilFunc
theorem zv49 : tyZero Tryd.prog 49 = some (.nilFunc) := by kernel_rfl
theorem by49 : (Tryd.prog.info? 49).map (·.bytes) = some 8 := by kernel_rfl
theorem tZ49 : IsZero Tryd.prog 49 z49 := ⟨.nilFunc, by kernel_rfl, by kernel_rfl⟩
theorem nI49 : notIface Tryd.prog 49 := ⟨_, Tryd.underlying49, rfl⟩
theorem tA50 : tyAgg Tryd.prog 50 = some false := by kernel_rfl
theorem tS50 : tySize Tryd.prog 50 = some 1 := by kernel_rfl
def z50 : AV := .v (.slice none 0 0)
theorem zv50 : tyZero Tryd.prog 50 = some (.slice none 0 0) := by kernel_rfl
theorem by50 : (Tryd.prog.info? 50).map (·.bytes) = some 24 := by kernel_rfl
theorem tZ50 : IsZero Tryd.prog 50 z50 := ⟨.slice none 0 0, by kernel_rfl, by kernel_rfl⟩
theorem nI50 : notIface Tryd.prog 50 := ⟨_, Tryd.underlying50, rfl⟩
theorem tA51 : tyAgg Tryd.prog 51 = some true := by kernel_rfl
theorem tS51 : tySize Tryd.prog 51 = some 3 := by kernel_rfl
def z51 : AV := .agg [.v (.string .empty), .v (.string .empty), .v (.slice none 0 0)]
theorem zv51 : tyZero Tryd.prog 51 = some (.agg #[.string .empty, .string .empty, .slice none 0 0]) := by kernel_rfl
theorem by51 : (Tryd.prog.info? 51).map (·.bytes) = some 56 := by kernel_rfl
theorem tZ51 : IsZero Tryd.prog 51 z51 := ⟨.agg #[.string .empty, .string .empty, .slice none 0 0], by kernel_rfl, by kernel_rfl⟩
def zs51 : AV := .agg [.v (.string .empty), .v (.string .empty), .sl 42 []]
theorem tU51 : IsZero Tryd.prog 51 zs51 := ⟨.agg #[.string .empty, .string .empty, .slice none 0 0], by kernel_rfl, by kernel_rfl⟩
theorem nI51 : notIface Tryd.prog 51 := ⟨_, Tryd.underlying51, rfl⟩
theorem fa51_0 : fieldAt Tryd.prog 51 0 0 1 false := ⟨_, _, Tryd.underlying51, rfl, rfl, tS9, tA9⟩
theorem fa51_1 : fieldAt Tryd.prog 51 1 1 1 false := ⟨_, _, Tryd.underlying51, rfl, rfl, tS9, tA9⟩
theorem fa51_2 : fieldAt Tryd.prog 51 2 2 1 false := ⟨_, _, Tryd.underlying51, rfl, rfl, tS50, tA50⟩
theorem pl51 : places Tryd.prog (Program.fieldsOf Tryd.prog 51).toList = some [(0, 1), (1, 1), (2, 1)] := by kernel_rfl
theorem us51 : Tryd.prog.underlying 51 = some (.struct (Program.fieldsOf Tryd.prog 51)) := by kernel_rfl
theorem tA52 : tyAgg Tryd.prog 52 = some true := by kernel_rfl
theorem tS52 : tySize Tryd.prog 52 = some 3 := by kernel_rfl
def z52 : AV := .agg [.v (.string .empty), .v (.string .empty), .v (.slice none 0 0)]
theorem zv52 : tyZero Tryd.prog 52 = some (.agg #[.string .empty, .string .empty, .slice none 0 0]) := by kernel_rfl
theorem by52 : (Tryd.prog.info? 52).map (·.bytes) = some 56 := by kernel_rfl
theorem tZ52 : IsZero Tryd.prog 52 z52 := ⟨.agg #[.string .empty, .string .empty, .slice none 0 0], by kernel_rfl, by kernel_rfl⟩
def zs52 : AV := .agg [.v (.string .empty), .v (.string .empty), .sl 42 []]
theorem tU52 : IsZero Tryd.prog 52 zs52 := ⟨.agg #[.string .empty, .string .empty, .slice none 0 0], by kernel_rfl, by kernel_rfl⟩
theorem nI52 : notIface Tryd.prog 52 := ⟨_, Tryd.underlying52, rfl⟩
theorem fa52_0 : fieldAt Tryd.prog 52 0 0 1 false := ⟨_, _, Tryd.underlying52, rfl, rfl, tS9, tA9⟩
theorem fa52_1 : fieldAt Tryd.prog 52 1 1 1 false := ⟨_, _, Tryd.underlying52, rfl, rfl, tS9, tA9⟩
theorem fa52_2 : fieldAt Tryd.prog 52 2 2 1 false := ⟨_, _, Tryd.underlying52, rfl, rfl, tS50, tA50⟩
theorem pl52 : places Tryd.prog (Program.fieldsOf Tryd.prog 52).toList = some [(0, 1), (1, 1), (2, 1)] := by kernel_rfl
theorem us52 : Tryd.prog.underlying 52 = some (.struct (Program.fieldsOf Tryd.prog 52)) := by kernel_rfl
theorem tA53 : tyAgg Tryd.prog 53 = some false := by kernel_rfl
theorem tS53 : tySize Tryd.prog 53 = some 1 := by kernel_rfl
def z53 : AV := .v .nilFunc
theorem zv53 : tyZero Tryd.prog 53 = some (.nilFunc) := by kernel_rfl
theorem by53 : (Tryd.prog.info? 53).map (·.bytes) = some 8 := by kernel_rfl
theorem tZ53 : IsZero Tryd.prog 53 z53 := ⟨.nilFunc, by kernel_rfl, by kernel_rfl⟩
theorem nI53 : notIface Tryd.prog 53 := ⟨_, Tryd.underlying53, rfl⟩
theorem tA54 : tyAgg Tryd.prog 54 = some false := by kernel_rfl
theorem tS54 : tySize Tryd.prog 54 = some 1 := by kernel_rfl
def z54 : AV := .v .nilFunc
theorem zv54 : tyZero Tryd.prog 54 = some (.nilFunc) := by kernel_rfl
theorem by54 : (Tryd.prog.info? 54).map (·.bytes) = some 8 := by kernel_rfl
theorem tZ54 : IsZero Tryd.prog 54 z54 := ⟨.nilFunc, by kernel_rfl, by kernel_rfl⟩
theorem nI54 : notIface Tryd.prog 54 := ⟨_, Tryd.underlying54, rfl⟩
theorem tA55 : tyAgg Tryd.prog 55 = some false := by kernel_rfl
theorem tS55 : tySize Tryd.prog 55 = some 1 := by kernel_rfl
def z55 : AV := .v (.slice none 0 0)
theorem zv55 : tyZero Tryd.prog 55 = some (.slice none 0 0) := by kernel_rfl
theorem by55 : (Tryd.prog.info? 55).map (·.bytes) = some 24 := by kernel_rfl
theorem tZ55 : IsZero Tryd.prog 55 z55 := ⟨.slice none 0 0, by kernel_rfl, by kernel_rfl⟩
theorem nI55 : notIface Tryd.prog 55 := ⟨_, Tryd.underlying55, rfl⟩
theorem tA56 : tyAgg Tryd.prog 56 = some true := by kernel_rfl
theorem tS56 : tySize Tryd.prog 56 = some 6 := by kernel_rfl
def z56 : AV := .agg [.v (.int .u8 0), .v (.string .empty), .v (.int .i64 0), .v (.int .u64 0), .v (.slice none 0 0), .v (.slice none 0 0)]
theorem zv56 : tyZero Tryd.prog 56 = some (.agg #[.int .u8 0, .string .empty, .int .i64 0, .int .u64 0, .slice none 0 0, .slice none 0 0]) := by kernel_rfl
theorem by56 : (Tryd.prog.info? 56).map (·.bytes) = some 88 := by kernel_rfl
theorem tZ56 : IsZero Tryd.prog 56 z56 := ⟨.agg #[.int .u8 0, .string .empty, .int .i64 0, .int .u64 0, .slice none 0 0, .slice none 0 0], by kernel_rfl, by kernel_rfl⟩
def zs56 : AV := .agg [.v (.int .u8 0), .v (.string .empty), .v (.int .i64 0), .v (.int .u64 0), .sl 6 [], .sl 7 []]
theorem tU56 : IsZero Tryd.prog 56 zs56 := ⟨.agg #[.int .u8 0, .string .empty, .int .i64 0, .int .u64 0, .slice none 0 0, .slice none 0 0], by kernel_rfl, by kernel_rfl⟩
theorem nI56 : notIface Tryd.prog 56 := ⟨_, Tryd.underlying56, rfl⟩
theorem fa56_0 : fieldAt Tryd.prog 56 0 0 1 false := ⟨_, _, Tryd.underlying56, rfl, rfl, tS5, tA5⟩
theorem fa56_1 : fieldAt Tryd.prog 56 1 1 1 false := ⟨_, _, Tryd.underlying56, rfl, rfl, tS9, tA9⟩
theorem fa56_2 : fieldAt Tryd.prog 56 2 2 1 false := ⟨_, _, Tryd.underlying56, rfl, rfl, tS3, tA3⟩
theorem fa56_3 : fieldAt Tryd.prog 56 3 3 1 false := ⟨_, _, Tryd.underlying56, rfl, rfl, tS29, tA29⟩
theorem fa56_4 : fieldAt Tryd.prog 56 4 4 1 false := ⟨_, _, Tryd.underlying56, rfl, rfl, tS55, tA55⟩
theorem fa56_5 : fieldAt Tryd.prog 56 5 5 1 false := ⟨_, _, Tryd.underlying56, rfl, rfl, tS30, tA30⟩
theorem pl56 : places Tryd.prog (Program.fieldsOf Tryd.prog 56).toList = some [(0, 1), (1, 1), (2, 1), (3, 1), (4, 1), (5, 1)] := by kernel_rfl
theorem us56 : Tryd.prog.underlying 56 = some (.struct (Program.fieldsOf Tryd.prog 56)) := by kernel_rfl
theorem tA57 : tyAgg Tryd.prog 57 = some true := by kernel_rfl
theorem tS57 : tySize Tryd.prog 57 = some 6 := by kernel_rfl
def z57 : AV := .agg [.v (.int .u8 0), .v (.string .empty), .v (.int .i64 0), .v (.int .u64 0), .v (.slice none 0 0), .v (.slice none 0 0)]
theorem zv57 : tyZero Tryd.prog 57 = some (.agg #[.int .u8 0, .string .empty, .int .i64 0, .int .u64 0, .slice none 0 0, .slice none 0 0]) := by kernel_rfl
theorem by57 : (Tryd.prog.info? 57).map (·.bytes) = some 88 := by kernel_rfl
theorem tZ57 : IsZero Tryd.prog 57 z57 := ⟨.agg #[.int .u8 0, .string .empty, .int .i64 0, .int .u64 0, .slice none 0 0, .slice none 0 0], by kernel_rfl, by kernel_rfl⟩
def zs57 : AV := .agg [.v (.int .u8 0), .v (.string .empty), .v (.int .i64 0), .v (.int .u64 0), .sl 6 [], .sl 7 []]
theorem tU57 : IsZero Tryd.prog 57 zs57 := ⟨.agg #[.int .u8 0, .string .empty, .int .i64 0, .int .u64 0, .slice none 0 0, .slice none 0 0], by kernel_rfl, by kernel_rfl⟩
theorem nI57 : notIface Tryd.prog 57 := ⟨_, Tryd.underlying57, rfl⟩
theorem fa57_0 : fieldAt Tryd.prog 57 0 0 1 false := ⟨_, _, Tryd.underlying57, rfl, rfl, tS5, tA5⟩
theorem fa57_1 : fieldAt Tryd.prog 57 1 1 1 false := ⟨_, _, Tryd.underlying57, rfl, rfl, tS9, tA9⟩
theorem fa57_2 : fieldAt Tryd.prog 57 2 2 1 false := ⟨_, _, Tryd.underlying57, rfl, rfl, tS3, tA3⟩
theorem fa57_3 : fieldAt Tryd.prog 57 3 3 1 false := ⟨_, _, Tryd.underlying57, rfl, rfl, tS29, tA29⟩
theorem fa57_4 : fieldAt Tryd.prog 57 4 4 1 false := ⟨_, _, Tryd.underlying57, rfl, rfl, tS55, tA55⟩
theorem fa57_5 : fieldAt Tryd.prog 57 5 5 1 false := ⟨_, _, Tryd.underlying57, rfl, rfl, tS30, tA30⟩
theorem pl57 : places Tryd.prog (Program.fieldsOf Tryd.prog 57).toList = some [(0, 1), (1, 1), (2, 1), (3, 1), (4, 1), (5, 1)] := by kernel_rfl
theorem us57 : Tryd.prog.underlying 57 = some (.struct (Program.fieldsOf Tryd.prog 57)) := by kernel_rfl
theorem tA58 : tyAgg Tryd.prog 58 = some false := by kernel_rfl
theorem tS58 : tySize Tryd.prog 58 = some 1 := by kernel_rfl
def z58 : AV := .v .nilFunc
theorem zv58 : tyZero Tryd.prog 58 = some (.nilFunc) := by kernel_rfl
theorem by58 : (Tryd.prog.info? 58).map (·.bytes) = some 8 := by kernel_rfl
theorem tZ58 : IsZero Tryd.prog 58 z58 := ⟨.nilFunc, by kernel_rfl, by kernel_rfl⟩
theorem nI58 : notIface Tryd.prog 58 := ⟨_, Tryd.underlying58, rfl⟩
theorem tA59 : tyAgg Tryd.prog 59 = some false := by kernel_rfl
theorem tS59 : tySize Tryd.prog 59 = some 1 := by kernel_rfl
def z59 : AV := .v .nilFunc
theorem zv59 : tyZero Tryd.prog 59 = some (.nilFunc) := by kernel_rfl
theorem by59 : (Tryd.prog.info? 59).map (·.bytes) = some 8 := by kernel_rfl
theorem tZ59 : IsZero Tryd.prog 59 z59 := ⟨.nilFunc, by kernel_rfl, by kernel_rfl⟩
theorem nI59 : notIface Tryd.prog 59 := ⟨_, Tryd.underlying59, rfl⟩
theorem tA60 : tyAgg Tryd.prog 60 = some true := by kernel_rfl
theorem tS60 : tySize Tryd.prog 60 = some 7 := by kernel_rfl
def z60 : AV := .agg [.v (.string .empty), .agg [.v (.int .u8 0), .v (.string .empty), .v (.int .i64 0), .v (.int .u64 0), .v (.slice none 0 0), .v (.slice none 0 0)]]
theorem zv60 : tyZero Tryd.prog 60 = some (.agg #[.string .empty, .int .u8 0, .string .empty, .int .i64 0, .int .u64 0, .slice none 0 0, .slice none 0 0]) := by kernel_rfl
theorem by60 : (Tryd.prog.info? 60).map (·.bytes) = some 104 := by kernel_rfl
theorem tZ60 : IsZero Tryd.prog 60 z60 := ⟨.agg #[.string .empty, .int .u8 0, .string .empty, .int .i64 0, .int .u64 0, .slice none 0 0, .slice none 0 0], by kernel_rfl, by kernel_rfl⟩
def zs60 : AV := .agg [.v (.string .empty), .agg [.v (.int .u8 0), .v (.string .empty), .v (.int .i64 0), .v (.int .u64 0), .sl 6 [], .sl 7 []]]
theorem tU60 : IsZero Tryd.prog 60 zs60 := ⟨.agg #[.string .empty, .int .u8 0, .string .empty, .int .i64 0, .int .u64 0, .slice none 0 0, .slice none 0 0], by kernel_rfl, by kernel_rfl⟩
theorem nI60 : notIface Tryd.prog 60 := ⟨_, Tryd.underlying60, rfl⟩
theorem fa60_0 : fieldAt Tryd.prog 60 0 0 1 false := ⟨_, _, Tryd.underlying60, rfl, rfl, tS9, tA9⟩
theorem fa60_1 : fieldAt Tryd.prog 60 1 1 6 true := ⟨_, _, Tryd.underlying60, rfl, rfl, tS57, tA57⟩
theorem pl60 : places Tryd.prog (Program.fieldsOf Tryd.prog 60).toList = some [(0, 1), (1, 6)] := by kernel_rfl
theorem us60 : Tryd.prog.underlying 60 = some (.struct (Program.fieldsOf Tryd.prog 60)) := by kernel_rfl
theorem tA61 : tyAgg Tryd.prog 61 = some true := by kernel_rfl
theorem tS61 : tySize Tryd.prog 61 = some 7 := by kernel_rfl
def z61 : AV := .agg [.v (.string .empty), .agg [.v (.int .u8 0), .v (.string .empty), .v (.int .i64 0), .v (.int .u64 0), .v (.slice none 0 0), .v (.slice none 0 0)]]
theorem zv61 : tyZero Tryd.prog 61 = some (.agg #[.string .empty, .int .u8 0, .string .empty, .int .i64 0, .int .u64 0, .slice none 0 0, .slice none 0 0]) := by kernel_rfl
theorem by61 : (Tryd.prog.info? 61).map (·.bytes) = some 104 := by kernel_rfl
theorem tZ61 : IsZero Tryd.prog 61 z61 := ⟨.agg #[.string .empty, .int .u8 0, .string .empty, .int .i64 0, .int .u64 0, .slice none 0 0, .slice none 0 0], by kernel_rfl, by kernel_rfl⟩
def zs61 : AV := .agg [.v (.string .empty), .agg [.v (.int .u8 0), .v (.string .empty), .v (.int .i64 0), .v (.int .u64 0), .sl 6 [], .sl 7 []]]
theorem tU61 : IsZero Tryd.prog 61 zs61 := ⟨.agg #[.string .empty, .int .u8 0, .string .empty, .int .i64 0, .int .u64 0, .slice none 0 0, .slice none 0 0], by kernel_rfl, by kernel_rfl⟩
theorem nI61 : notIface Tryd.prog 61 := ⟨_, Tryd.underlying61, rfl⟩
theorem fa61_0 : fieldAt Tryd.prog 61 0 0 1 false := ⟨_, _, Tryd.underlying61, rfl, rfl, tS9, tA9⟩
theorem fa61_1 : fieldAt Tryd.prog 61 1 1 6 true := ⟨_, _, Tryd.underlying61, rfl, rfl, tS57, tA57⟩
theorem pl61 : places Tryd.prog (Program.fieldsOf Tryd.prog 61).toList = some [(0, 1), (1, 6)] := by kernel_rfl
theorem us61 : Tryd.prog.underlying 61 = some (.struct (Program.fieldsOf Tryd.prog 61)) := by kernel_rfl
theorem tA62 : tyAgg Tryd.prog 62 = some false := by kernel_rfl
theorem tS62 : tySize Tryd.prog 62 = some 1 := by kernel_rfl
def z62 : AV := .v .nilFunc
theorem zv62 : tyZero Tryd.prog 62 = some (.nilFunc) := by kernel_rfl
theorem by62 : (Tryd.prog.info? 62).map (·.bytes) = some 8 := by kernel_rfl
theorem tZ62 : IsZero Tryd.prog 62 z62 := ⟨.nilFunc, by kernel_rfl, by kernel_rfl⟩
theorem nI62 : notIface Tryd.prog 62 := ⟨_, Tryd.underlying62, rfl⟩
theorem tA63 : tyAgg Tryd.prog 63 = some false := by kernel_rfl
theorem tS63 : tySize Tryd.prog 63 = some 1 := by kernel_rfl
def z63 : AV := .v (.int .i64 0)
theorem zv63 : tyZero Tryd.prog 63 = some (.int .i64 0) := by kernel_rfl
theorem by63 : (Tryd.prog.info? 63).map (·.bytes) = some 8 := by kernel_rfl
theorem tZ63 : IsZero Tryd.prog 63 z63 := ⟨.int .i64 0, by kernel_rfl, by kernel_rfl⟩
theorem nI63 : notIface Tryd.prog 63 := ⟨_, Tryd.underlying63, rfl⟩
theorem tA64 : tyAgg Tryd.prog 64 = some false := by kernel_rfl
theorem tS64 : tySize Tryd.prog 64 = some 1 := by kernel_rfl
def z64 : AV := .v (.slice none 0 0)
theorem zv64 : tyZero Tryd.prog 64 = some (.slice none 0 0) := by kernel_rfl
theorem by64 : (Tryd.prog.info? 64).map (·.bytes) = some 24 := by kernel_rfl
theorem tZ64 : IsZero Tryd.prog 64 z64 := ⟨.slice none 0 0, by kernel_rfl, by kernel_rfl⟩
theorem nI64 : notIface Tryd.prog 64 := ⟨_, Tryd.underlying64, rfl⟩
theorem tA65 : tyAgg Tryd.prog 65 = some false := by kernel_rfl
theorem tS65 : tySize Tryd.prog 65 = some 1 := by kernel_rfl
def z65 : AV := .v .nilIface
theorem zv65 : tyZero Tryd.prog 65 = some (.nilIface) := by kernel_rfl
theorem by65 : (Tryd.prog.info? 65).map (·.bytes) = some 16 := by kernel_rfl
theorem tZ65 : IsZero Tryd.prog 65 z65 := ⟨.nilIface, by kernel_rfl, by kernel_rfl⟩
theorem tA66 : tyAgg Tryd.prog 66 = some false := by kernel_rfl
theorem tS66 : tySize Tryd.prog 66 = some 1 := by kernel_rfl
def z66 : AV := .v .nilIface
theorem zv66 : tyZero Tryd.prog 66 = some (.nilIface) := by kernel_rfl
theorem by66 : (Tryd.prog.info? 66).map (·.bytes) = some 16 := by kernel_rfl
theorem tZ66 : IsZero Tryd.prog 66 z66 := ⟨.nilIface, by kernel_rfl, by kernel_rfl⟩
theorem tA67 : tyAgg Tryd.prog 67 = some false := by kernel_rfl
theorem tS67 : tySize Tryd.prog 67 = some 1 := by kernel_rfl
def z67 : AV := .v .nilFunc
theorem zv67 : tyZero Tryd.prog 67 = some (.nilFunc) := by kernel_rfl
theorem by67 : (Tryd.prog.info? 67).map (·.bytes) = some 8 := by kernel_rfl
theorem tZ67 : IsZero Tryd.prog 67 z67 := ⟨.nilFunc, by kernel_rfl, by kernel_rfl⟩
theorem nI67 : notIface Tryd.prog 67 := ⟨_, Tryd.underlying67, rfl⟩
theorem tA68 : tyAgg Tryd.prog 68 = some false := by kernel_rfl
theorem tS68 : tySize Tryd.prog 68 = some 1 := by kernel_rfl
def z68 : AV := .v .nilFunc
theorem zv68 : tyZero Tryd.prog 68 = some (.nilFunc) := by kernel_rfl
theorem by68 : (Tryd.prog.info? 68).map (·.bytes) = some 8 := by kernel_rfl
theorem tZ68 : IsZero Tryd.prog 68 z68 := ⟨.nilFunc, by kernel_rfl, by kernel_rfl⟩
theorem nI68 : notIface Tryd.prog 68 := ⟨_, Tryd.underlying68, rfl⟩
theorem tA69 : tyAgg Tryd.prog 69 = some false := by kernel_rfl
theorem tS69 : tySize Tryd.prog 69 = some 1 := by kernel_rfl
def z69 : AV := .v .nilFunc
theorem zv69 : tyZero Tryd.prog 69 = some (.nilFunc) := by kernel_rfl
theorem by69 : (Tryd.prog.info? 69).map (·.bytes) = some 8 := by kernel_rfl
theorem tZ69 : IsZero Tryd.prog 69 z69 := ⟨.nilFunc, by kernel_rfl, by kernel_rfl⟩
theorem nI69 : notIface Tryd.prog 69 := ⟨_, Tryd.underlying69, rfl⟩
theorem tA70 : tyAgg Tryd.prog 70 = some false := by kernel_rfl
theorem tS70 : tySize Tryd.prog 70 = some 1 := by kernel_rfl
def z70 : AV := .v .nilFunc
theorem zv70 : tyZero Tryd.prog 70 = some (.nilFunc) := by kernel_rfl
theorem by70 : (Tryd.prog.info? 70).map (·.bytes) = some 8 := by kernel_rfl
theorem tZ70 : IsZero Tryd.prog 70 z70 := ⟨.nilFunc, by kernel_rfl, by kernel_rfl⟩
theorem nI70 : notIface Tryd.prog 70 := ⟨_, Tryd.underlying70, rfl⟩
theorem tA71 : tyAgg Tryd.prog 71 = some false := by kernel_rfl
theorem tS71 : tySize Tryd.prog 71 = some 1 := by kernel_rfl
def z71 : AV := .v .nilFunc
theorem zv71 : tyZero Tryd.prog 71 = some (.nilFunc) := by kernel_rfl
theorem by71 : (Tryd.prog.info? 71).map (·.bytes) = some 8 := by kernel_rfl
theorem tZ71 : IsZero Tryd.prog 71 z71 := ⟨.nilFunc, by kernel_rfl, by kernel_rfl⟩
theorem nI71 : notIface Tryd.prog 71 := ⟨_, Tryd.underlying71, rfl⟩
theorem tA72 : tyAgg Tryd.prog 72 = some false := by kernel_rfl
theorem tS72 : tySize Tryd.prog 72 = some 1 := by kernel_rfl
def z72 : AV := .v .nilFunc
theorem zv72 : tyZero Tryd.prog 72 = some (.nilFunc) := by kernel_rfl
theorem by72 : (Tryd.prog.info? 72).map (·.bytes) = some 8 := by kernel_rfl
theorem tZ72 : IsZero Tryd.prog 72 z72 := ⟨.nilFunc, by kernel_rfl, by kernel_rfl⟩
theorem nI72 : notIface Tryd.prog 72 := ⟨_, Tryd.underlying72, rfl⟩
theorem tA73 : tyAgg Tryd.prog 73 = some false := by kernel_rfl
theorem tS73 : tySize Tryd.prog 73 = some 1 := by kernel_rfl
def z73 : AV := .v .nilFunc
theorem zv73 : tyZero Tryd.prog 73 = some (.nilFunc) := by kernel_rfl
theorem by73 : (Tryd.prog.info? 73).map (·.bytes) = some 8 := by kernel_rfl
theorem tZ73 : IsZero Tryd.prog 73 z73 := ⟨.nilFunc, by kernel_rfl, by kernel_rfl⟩
theorem nI73 : notIface Tryd.prog 73 := ⟨_, Tryd.underlying73, rfl⟩
theorem tA74 : tyAgg Tryd.prog 74 = some false := by kernel_rfl
theorem tS74 : tySize Tryd.prog 74 = some 1 := by kernel_rfl
def z74 : AV := .v (.int .i64 0)
theorem zv74 : tyZero Tryd.prog 74 = some (.int .i64 0) := by kernel_rfl
theorem by74 : (Tryd.prog.info? 74).map (·.bytes) = some 8 := by kernel_rfl
theorem tZ74 : IsZero Tryd.prog 74 z74 := ⟨.int .i64 0, by kernel_rfl, by kernel_rfl⟩
theorem nI74 : notIface Tryd.prog 74 := ⟨_, Tryd.underlying74, rfl⟩
theorem tA75 : tyAgg Tryd.prog 75 = some false := by kernel_rfl
theorem tS75 : tySize Tryd.prog 75 = some 1 := by kernel_rfl
def z75 : AV := .v .nilFunc
theorem zv75 : tyZero Tryd.prog 75 = some (.nilFunc) := by kernel_rfl
theorem by75 : (Tryd.prog.info? 75).map (·.bytes) = some 8 := by kernel_rfl
theorem tZ75 : IsZero Tryd.prog 75 z75 := ⟨.nilFunc, by kernel_rfl, by kernel_rfl⟩
theorem nI75 : notIface Tryd.prog 75 := ⟨_, Tryd.underlying75, rfl⟩
theorem tA76 : tyAgg Tryd.prog 76 = some false := by kernel_rfl
theorem tS76 : tySize Tryd.prog 76 = some 1 := by kernel_rfl
def z76 : AV := .v .nilFunc
theorem zv76 : tyZero Tryd.prog 76 = some (.nilFunc) := by kernel_rfl
theorem by76 : (Tryd.prog.info? 76).map (·.bytes) = some 8 := by kernel_rfl
theorem tZ76 : IsZero Tryd.prog 76 z76 := ⟨.nilFunc, by kernel_rfl, by kernel_rfl⟩
theorem nI76 : notIface Tryd.prog 76 := ⟨_, Tryd.underlying76, rfl⟩
theorem tA77 : tyAgg Tryd.prog 77 = some true := by kernel_rfl
theorem tS77 : tySize Tryd.prog 77 = some 2 := by kernel_rfl
def z77 : AV := .agg [.v (.int .i64 0), .v (.int .i64 0)]
theorem zv77 : tyZero Tryd.prog 77 = some (.agg #[.int .i64 0, .int .i64 0]) := by kernel_rfl
theorem by77 : (Tryd.prog.info? 77).map (·.bytes) = some 16 := by kernel_rfl
theorem tZ77 : IsZero Tryd.prog 77 z77 := ⟨.agg #[.int .i64 0, .int .i64 0], by kernel_rfl, by kernel_rfl⟩
def zs77 : AV := .agg [.v (.int .i64 0), .v (.int .i64 0)]
theorem tU77 : IsZero Tryd.prog 77 zs77 := ⟨.agg #[.int .i64 0, .int .i64 0], by kernel_rfl, by kernel_rfl⟩
theorem nI77 : notIface Tryd.prog 77 := ⟨_, Tryd.underlying77, rfl⟩
theorem eg77 : Tryd.prog.eqGuardType Tryd.prog.depth 77 = false := by kernel_rfl
theorem tA78 : tyAgg Tryd.prog 78 = some false := by kernel_rfl
theorem tS78 : tySize Tryd.prog 78 = some 1 := by kernel_rfl
def z78 : AV := .v .nilFunc
theorem zv78 : tyZero Tryd.prog 78 = some (.nilFunc) := by kernel_rfl
theorem by78 : (Tryd.prog.info? 78).map (·.bytes) = some 8 := by kernel_rfl
theorem tZ78 : IsZero Tryd.prog 78 z78 := ⟨.nilFunc, by kernel_rfl, by kernel_rfl⟩
theorem nI78 : notIface Tryd.prog 78 := ⟨_, Tryd.underlying78, rfl⟩
theorem tA79 : tyAgg Tryd.prog 79 = some false := by kernel_rfl
theorem tS79 : tySize Tryd.prog 79 = some 1 := by kernel_rfl
def z79 : AV := .v .nilFunc
theorem zv79 : tyZero Tryd.prog 79 = some (.nilFunc) := by kernel_rfl
theorem by79 : (Tryd.prog.info? 79).map (·.bytes) = some 8 := by kernel_rfl
theorem tZ79 : IsZero Tryd.prog 79 z79 := ⟨.nilFunc, by kernel_rfl, by kernel_rfl⟩
theorem nI79 : notIface Tryd.prog 79 := ⟨_, Tryd.underlying79, rfl⟩
theorem tA80 : tyAgg Tryd.prog 80 = some false := by kernel_rfl
theorem tS80 : tySize Tryd.prog 80 = some 1 := by kernel_rfl
def z80 : AV := .v .nilFunc
theorem zv80 : tyZero Tryd.prog 80 = some (.nilFunc) := by kernel_rfl
theorem by80 : (Tryd.prog.info? 80).map (·.bytes) = some 8 := by kernel_rfl
theorem tZ80 : IsZero Tryd.prog 80 z80 := ⟨.nilFunc, by kernel_rfl, by kernel_rfl⟩
theorem nI80 : notIface Tryd.prog 80 := ⟨_, Tryd.underlying80, rfl⟩
theorem tA81 : tyAgg Tryd.prog 81 = some false := by kernel_rfl
theorem tS81 : tySize Tryd.prog 81 = some 1 := by kernel_rfl
def z81 : AV := .v .nilFunc
theorem zv81 : tyZero Tryd.prog 81 = some (.nilFunc) := by kernel_rfl
theorem by81 : (Tryd.prog.info? 81).map (·.bytes) = some 8 := by kernel_rfl
theorem tZ81 : IsZero Tryd.prog 81 z81 := ⟨.nilFunc, by kernel_rfl, by kernel_rfl⟩
theorem nI81 : notIface Tryd.prog 81 := ⟨_, Tryd.underlying81, rfl⟩
theorem tA82 : tyAgg Tryd.prog 82 = some false := by kernel_rfl
theorem tS82 : tySize Tryd.prog 82 = some 1 := by kernel_rfl
def z82 : AV := .v .nilFunc
theorem zv82 : tyZero Tryd.prog 82 = some (.nilFunc) := by kernel_rfl
theorem by82 : (Tryd.prog.info? 82).map (·.bytes) = some 8 := by kernel_rfl
theorem tZ82 : IsZero Tryd.prog 82 z82 := ⟨.nilFunc, by kernel_rfl, by kernel_rfl⟩
theorem nI82 : notIface Tryd.prog 82 := ⟨_, Tryd.underlying82, rfl⟩
theorem tA83 : tyAgg Tryd.prog 83 = some false := by kernel_rfl
theorem tS83 : tySize Tryd.prog 83 = some 1 := by kernel_rfl
def z83 : AV := .v .nilFunc
theorem zv83 : tyZero Tryd.prog 83 = some (.nilFunc) := by kernel_rfl
theorem by83 : (Tryd.prog.info? 83).map (·.bytes) = some 8 := by kernel_rfl
theorem tZ83 : IsZero Tryd.prog 83 z83 := ⟨.nilFunc, by kernel_rfl, by kernel_rfl⟩
theorem nI83 : notIface Tryd.prog 83 := ⟨_, Tryd.underlying83, rfl⟩
theorem tA84 : tyAgg Tryd.prog 84 = some false := by kernel_rfl
theorem tS84 : tySize Tryd.prog 84 = some 1 := by kernel_rfl
def z84 : AV := .v .nilFunc
theorem zv84 : tyZero Tryd.prog 84 = some (.nilFunc) := by kernel_rfl
theorem by84 : (Tryd.prog.info? 84).map (·.bytes) = some 8 := by kernel_rfl
theorem tZ84 : IsZero Tryd.prog 84 z84 := ⟨.nilFunc, by kernel_rfl, by kernel_rfl⟩
theorem nI84 : notIface Tryd.prog 84 := ⟨_, Tryd.underlying84, rfl⟩
theorem tA85 : tyAgg Tryd.prog 85 = some false := by kernel_rfl
theorem tS85 : tySize Tryd.prog 85 = some 1 := by kernel_rfl
def z85 : AV := .v .nilFunc
theorem zv85 : tyZero Tryd.prog 85 = some (.nilFunc) := by kernel_rfl
theorem by85 : (Tryd.prog.info? 85).map (·.bytes) = some 8 := by kernel_rfl
theorem tZ85 : IsZero Tryd.prog 85 z85 := ⟨.nilFunc, by kernel_rfl, by kernel_rfl⟩
theorem nI85 : notIface Tryd.prog 85 := ⟨_, Tryd.underlying85, rfl⟩
theorem tA86 : tyAgg Tryd.prog 86 = some false := by kernel_rfl
theorem tS86 : tySize Tryd.prog 86 = some 1 := by kernel_rfl
def z86 : AV := .v (.slice none 0 0)
theorem zv86 : tyZero Tryd.prog 86 = some (.slice none 0 0) := by kernel_rfl
theorem by86 : (Tryd.prog.info? 86).map (·.bytes) = some 24 := by kernel_rfl
theorem tZ86 : IsZero Tryd.prog 86 z86 := ⟨.slice none 0 0, by kernel_rfl, by kernel_rfl⟩
theorem nI86 : notIface Tryd.prog 86 := ⟨_, Tryd.underlying86, rfl⟩
theorem tA87 : tyAgg Tryd.prog 87 = some false := by kernel_rfl
theorem tS87 : tySize Tryd.prog 87 = some 1 := by kernel_rfl
def z87 : AV := .v .nilFunc
theorem zv87 : tyZero Tryd.prog 87 = some (.nilFunc) := by kernel_rfl
theorem by87 : (Tryd.prog.info? 87).map (·.bytes) = some 8 := by kernel_rfl
theorem tZ87 : IsZero Tryd.prog 87 z87 := ⟨.nilFunc, by kernel_rfl, by kernel_rfl⟩
theorem nI87 : notIface Tryd.prog 87 := ⟨_, Tryd.underlying87, rfl⟩
theorem tA88 : tyAgg Tryd.prog 88 = some false := by kernel_rfl
theorem tS88 : tySize Tryd.prog 88 = some 1 := by kernel_rfl
def z88 : AV := .v .nilFunc
theorem zv88 : tyZero Tryd.prog 88 = some (.nilFunc) := by kernel_rfl
theorem by88 : (Tryd.prog.info? 88).map (·.bytes) = some 8 := by kernel_rfl
theorem tZ88 : IsZero Tryd.prog 88 z88 := ⟨.nilFunc, by kernel_rfl, by kernel_rfl⟩
theorem nI88 : notIface Tryd.prog 88 := ⟨_, Tryd.underlying88, rfl⟩
theorem tA89 : tyAgg Tryd.prog 89 = some true := by kernel_rfl
theorem tS89 : tySize Tryd.prog 89 = some 3 := by kernel_rfl
def z89 : AV := .agg [.v (.int .i64 0), .v (.int .i64 0), .v (.int .i64 0)]
theorem zv89 : tyZero Tryd.prog 89 = some (.agg #[.int .i64 0, .int .i64 0, .int .i64 0]) := by kernel_rfl
theorem by89 : (Tryd.prog.info? 89).map (·.bytes) = some 24 := by kernel_rfl
theorem tZ89 : IsZero Tryd.prog 89 z89 := ⟨.agg #[.int .i64 0, .int .i64 0, .int .i64 0], by kernel_rfl, by kernel_rfl⟩
def zs89 : AV := .agg [.v (.int .i64 0), .v (.int .i64 0), .v (.int .i64 0)]
theorem tU89 : IsZero Tryd.prog 89 zs89 := ⟨.agg #[.int .i64 0, .int .i64 0, .int .i64 0], by kernel_rfl, by kernel_rfl⟩
theorem nI89 : notIface Tryd.prog 89 := ⟨_, Tryd.underlying89, rfl⟩
theorem fa89_0 : fieldAt Tryd.prog 89 0 0 1 false := ⟨_, _, Tryd.underlying89, rfl, rfl, tS3, tA3⟩
theorem fa89_1 : fieldAt Tryd.prog 89 1 1 1 false := ⟨_, _, Tryd.underlying89, rfl, rfl, tS3, tA3⟩
theorem fa89_2 : fieldAt Tryd.prog 89 2 2 1 false := ⟨_, _, Tryd.underlying89, rfl, rfl, tS3, tA3⟩
theorem pl89 : places Tryd.prog (Program.fieldsOf Tryd.prog 89).toList = some [(0, 1), (1, 1), (2, 1)] := by kernel_rfl
theorem us89 : Tryd.prog.underlying 89 = some (.struct (Program.fieldsOf Tryd.prog 89)) := by kernel_rfl
theorem eg89 : Tryd.prog.eqGuardType Tryd.prog.depth 89 = false := by kernel_rfl
theorem tA90 : tyAgg Tryd.prog 90 = some true := by kernel_rfl
theorem tS90 : tySize Tryd.prog 90 = some 3 := by kernel_rfl
def z90 : AV := .agg [.v (.int .i64 0), .v (.int .i64 0), .v (.int .i64 0)]
theorem zv90 : tyZero Tryd.prog 90 = some (.agg #[.int .i64 0, .int .i64 0, .int .i64 0]) := by kernel_rfl
theorem by90 : (Tryd.prog.info? 90).map (·.bytes) = some 24 := by kernel_rfl
theorem tZ90 : IsZero Tryd.prog 90 z90 := ⟨.agg #[.int .i64 0, .int .i64 0, .int .i64 0], by kernel_rfl, by kernel_rfl⟩
def zs90 : AV := .agg [.v (.int .i64 0), .v (.int .i64 0), .v (.int .i64 0)]
theorem tU90 : IsZero Tryd.prog 90 zs90 := ⟨.agg #[.int .i64 0, .int .i64 0, .int .i64 0], by kernel_rfl, by kernel_rfl⟩
theorem nI90 : notIface Tryd.prog 90 := ⟨_, Tryd.underlying90, rfl⟩
theorem fa90_0 : fieldAt Tryd.prog 90 0 0 1 false := ⟨_, _, Tryd.underlying90, rfl, rfl, tS3, tA3⟩
theorem fa90_1 : fieldAt Tryd.prog 90 1 1 1 false := ⟨_, _, Tryd.underlying90, rfl, rfl, tS3, tA3⟩
theorem fa90_2 : fieldAt Tryd.prog 90 2 2 1 false := ⟨_, _, Tryd.underlying90, rfl, rfl, tS3, tA3⟩
theorem pl90 : places Tryd.prog (Program.fieldsOf Tryd.prog 90).toList = some [(0, 1), (1, 1), (2, 1)] := by kernel_rfl
theorem us90 : Tryd.prog.underlying 90 = some (.struct (Program.fieldsOf Tryd.prog 90)) := by kernel_rfl
theorem eg90 : Tryd.prog.eqGuardType Tryd.prog.depth 90 = false := by kernel_rfl
theorem tA91 : tyAgg Tryd.prog 91 = some false := by kernel_rfl
theorem tS91 : tySize Tryd.prog 91 = some 1 := by kernel_rfl
def z91 : AV := .v .nilFunc
theorem zv91 : tyZero Tryd.prog 91 = some (.nilFunc) := by kernel_rfl
theorem by91 : (Tryd.prog.info? 91).map (·.bytes) = some 8 := by kernel_rfl
theorem tZ91 : IsZero Tryd.prog 91 z91 := ⟨.nilFunc, by kernel_rfl, by kernel_rfl⟩
theorem nI91 : notIface Tryd.prog 91 := ⟨_, Tryd.underlying91, rfl⟩
theorem tA92 : tyAgg Tryd.prog 92 = some false := by kernel_rfl
theorem tS92 : tySize Tryd.prog 92 = some 1 := by kernel_rfl
def z92 : AV := .v .nilFunc
theorem zv92 : tyZero Tryd.prog 92 = some (.nilFunc) := by kernel_rfl
theorem by92 : (Tryd.prog.info? 92).map (·.bytes) = some 8 := by kernel_rfl
theorem tZ92 : IsZero Tryd.prog 92 z92 := ⟨.nilFunc, by kernel_rfl, by kernel_rfl⟩
theorem nI92 : notIface Tryd.prog 92 := ⟨_, Tryd.underlying92, rfl⟩
theorem tA93 : tyAgg Tryd.prog 93 = some false := by kernel_rfl
theorem tS93 : tySize Tryd.prog 93 = some 1 := by kernel_rfl
def z93 : AV := .v .nilFunc
theorem zv93 : tyZero Tryd.prog 93 = some (.nilFunc) := by kernel_rfl
theorem by93 : (Tryd.prog.info? 93).map (·.bytes) = some 8 := by kernel_rfl
theorem tZ93 : IsZero Tryd.prog 93 z93 := ⟨.nilFunc, by kernel_rfl, by kernel_rfl⟩
theorem nI93 : notIface Tryd.prog 93 := ⟨_, Tryd.underlying93, rfl⟩
theorem tA94 : tyAgg Tryd.prog 94 = some false := by kernel_rfl
theorem tS94 : tySize Tryd.prog 94 = some 1 := by kernel_rfl
def z94 : AV := .v .nilFunc
theorem zv94 : tyZero Tryd.prog 94 = some (.nilFunc) := by kernel_rfl
theorem by94 : (Tryd.prog.info? 94).map (·.bytes) = some 8 := by kernel_rfl
theorem tZ94 : IsZero Tryd.prog 94 z94 := ⟨.nilFunc, by kernel_rfl, by kernel_rfl⟩
theorem nI94 : notIface Tryd.prog 94 := ⟨_, Tryd.underlying94, rfl⟩
theorem tA96 : tyAgg Tryd.prog 96 = some false := by kernel_rfl
theorem tS96 : tySize Tryd.prog 96 = some 1 := by kernel_rfl
def z96 : AV := .v .nilFunc
theorem zv96 : tyZero Tryd.prog 96 = some (.nilFunc) := by kernel_rfl
theorem by96 : (Tryd.prog.info? 96).map (·.bytes) = some 8 := by kernel_rfl
theorem tZ96 : IsZero Tryd.prog 96 z96 := ⟨.nilFunc, by kernel_rfl, by kernel_rfl⟩
theorem nI96 : notIface Tryd.prog 96 := ⟨_, Tryd.underlying96, rfl⟩
theorem tA97 : tyAgg Tryd.prog 97 = some false := by kernel_rfl
theorem tS97 : tySize Tryd.prog 97 = some 1 := by kernel_rfl
def z97 : AV := .v .nilFunc
theorem zv97 : tyZero Tryd.prog 97 = some (.nilFunc) := by kernel_rfl
theorem by97 : (Tryd.prog.info? 97).map (·.bytes) = some 8 := by kernel_rfl
theorem tZ97 : IsZero Tryd.prog 97 z97 := ⟨.nilFunc, by kernel_rfl, by kernel_rfl⟩
theorem nI97 : notIface Tryd.prog 97 := ⟨_, Tryd.underlying97, rfl⟩
theorem tA98 : tyAgg Tryd.prog 98 = some false := by kernel_rfl
theorem tS98 : tySize Tryd.prog 98 = some 1 := by kernel_rfl
def z98 : AV := .v .nilFunc
theorem zv98 : tyZero Tryd.prog 98 = some (.nilFunc) := by kernel_rfl
theorem by98 : (Tryd.prog.info? 98).map (·.bytes) = some 8 := by kernel_rfl
theorem tZ98 : IsZero Tryd.prog 98 z98 := ⟨.nilFunc, by kernel_rfl, by kernel_rfl⟩
theorem nI98 : notIface Tryd.prog 98 := ⟨_, Tryd.underlying98, rfl⟩
theorem tA99 : tyAgg Tryd.prog 99 = some false := by kernel_rfl
theorem tS99 : tySize Tryd.prog 99 = some 1 := by kernel_rfl
def z99 : AV := .v .nilFunc
theorem zv99 : tyZero Tryd.prog 99 = some (.nilFunc) := by kernel_rfl
theorem by99 : (Tryd.prog.info? 99).map (·.bytes) = some 8 := by kernel_rfl
theorem tZ99 : IsZero Tryd.prog 99 z99 := ⟨.nilFunc, by kernel_rfl, by kernel_rfl⟩
theorem nI99 : notIface Tryd.prog 99 := ⟨_, Tryd.underlying99, rfl⟩
theorem tA100 : tyAgg Tryd.prog 100 = some false := by kernel_rfl
theorem tS100 : tySize Tryd.prog 100 = some 1 := by kernel_rfl
def z100 : AV := .v .nilFunc
theorem zv100 : tyZero Tryd.prog 100 = some (.nilFunc) := by kernel_rfl
theorem by100 : (Tryd.prog.info? 100).map (·.bytes) = some 8 := by kernel_rfl
theorem tZ100 : IsZero Tryd.prog 100 z100 := ⟨.nilFunc, by kernel_rfl, by kernel_rfl⟩
theorem nI100 : notIface Tryd.prog 100 := ⟨_, Tryd.underlying100, rfl⟩
theorem tA101 : tyAgg Tryd.prog 101 = some false := by kernel_rfl
theorem tS101 : tySize Tryd.prog 101 = some 1 := by kernel_rfl
def z101 : AV := .v .nilFunc
theorem zv101 : tyZero Tryd.prog 101 = some (.nilFunc) := by kernel_rfl
theorem by101 : (Tryd.prog.info? 101).map (·.bytes) = some 8 := by kernel_rfl
theorem tZ101 : IsZero Tryd.prog 101 z101 := ⟨.nilFunc, by kernel_rfl, by kernel_rfl⟩
theorem nI101 : notIface Tryd.prog 101 := ⟨_, Tryd.underlying101, rfl⟩
theorem tA102 : tyAgg Tryd.prog 102 = some false := by kernel_rfl
theorem tS102 : tySize Tryd.prog 102 = some 1 := by kernel_rfl
def z102 : AV := .v (.slice none 0 0)
theorem zv102 : tyZero Tryd.prog 102 = some (.slice none 0 0) := by kernel_rfl
theorem by102 : (Tryd.prog.info? 102).map (·.bytes) = some 24 := by kernel_rfl
theorem tZ102 : IsZero Tryd.prog 102 z102 := ⟨.slice none 0 0, by kernel_rfl, by kernel_rfl⟩
theorem nI102 : notIface Tryd.prog 102 := ⟨_, Tryd.underlying102, rfl⟩
theorem tA103 : tyAgg Tryd.prog 103 = some false := by kernel_rfl
theorem tS103 : tySize Tryd.prog 103 = some 1 := by kernel_rfl
def z103 : AV := .v .nilFunc
theorem zv103 : tyZero Tryd.prog 103 = some (.nilFunc) := by kernel_rfl
theorem by103 : (Tryd.prog.info? 103).map (·.bytes) = some 8 := by kernel_rfl
theorem tZ103 : IsZero Tryd.prog 103 z103 := ⟨.nilFunc, by kernel_rfl, by kernel_rfl⟩
theorem nI103 : notIface Tryd.prog 103 := ⟨_, Tryd.underlying103, rfl⟩
theorem tA104 : tyAgg Tryd.prog 104 = some false := by kernel_rfl
theorem tS104 : tySize Tryd.prog 104 = some 1 := by kernel_rfl
def z104 : AV := .v .nilFunc
theorem zv104 : tyZero Tryd.prog 104 = some (.nilFunc) := by kernel_rfl
theorem by104 : (Tryd.prog.info? 104).map (·.bytes) = some 8 := by kernel_rfl
theorem tZ104 : IsZero Tryd.prog 104 z104 := ⟨.nilFunc, by kernel_rfl, by kernel_rfl⟩
theorem nI104 : notIface Tryd.prog 104 := ⟨_, Tryd.underlying104, rfl⟩
theorem tA105 : tyAgg Tryd.prog 105 = some false := by kernel_rfl
theorem tS105 : tySize Tryd.prog 105 = some 1 := by kernel_rfl
def z105 : AV := .v .nilFunc
theorem zv105 : tyZero Tryd.prog 105 = some (.nilFunc) := by kernel_rfl
theorem by105 : (Tryd.prog.info? 105).map (·.bytes) = some 8 := by kernel_rfl
theorem tZ105 : IsZero Tryd.prog 105 z105 := ⟨.nilFunc, by kernel_rfl, by kernel_rfl⟩
theorem nI105 : notIface Tryd.prog 105 := ⟨_, Tryd.underlying105, rfl⟩
theorem tA106 : tyAgg Tryd.prog 106 = some false := by kernel_rfl
theorem tS106 : tySize Tryd.prog 106 = some 1 := by kernel_rfl
def z106 : AV := .v .nilFunc
theorem zv106 : tyZero Tryd.prog 106 = some (.nilFunc) := by kernel_rfl
theorem by106 : (Tryd.prog.info? 106).map (·.bytes) = some 8 := by kernel_rfl
theorem tZ106 : IsZero Tryd.prog 106 z106 := ⟨.nilFunc, by kernel_rfl, by kernel_rfl⟩
theorem nI106 : notIface Tryd.prog 106 := ⟨_, Tryd.underlying106, rfl⟩
theorem tA107 : tyAgg Tryd.prog 107 = some false := by kernel_rfl
theorem tS107 : tySize Tryd.prog 107 = some 1 := by kernel_rfl
def z107 : AV := .v .nilFunc
theorem zv107 : tyZero Tryd.prog 107 = some (.nilFunc) := by kernel_rfl
theorem by107 : (Tryd.prog.info? 107).map (·.bytes) = some 8 := by kernel_rfl
theorem tZ107 : IsZero Tryd.prog 107 z107 := ⟨.nilFunc, by kernel_rfl, by kernel_rfl⟩
theorem nI107 : notIface Tryd.prog 107 := ⟨_, Tryd.underlying107, rfl⟩
theorem tA108 : tyAgg Tryd.prog 108 = some false := by kernel_rfl
theorem tS108 : tySize Tryd.prog 108 = some 1 := by kernel_rfl
def z108 : AV := .v (.int .i64 0)
theorem zv108 : tyZero Tryd.prog 108 = some (.int .i64 0) := by kernel_rfl
theorem by108 : (Tryd.prog.info? 108).map (·.bytes) = some 8 := by kernel_rfl
theorem tZ108 : IsZero Tryd.prog 108 z108 := ⟨.int .i64 0, by kernel_rfl, by kernel_rfl⟩
theorem nI108 : notIface Tryd.prog 108 := ⟨_, Tryd.underlying108, rfl⟩
theorem tA110 : tyAgg Tryd.prog 110 = some false := by kernel_rfl
theorem tS110 : tySize Tryd.prog 110 = some 1 := by kernel_rfl
def z110 : AV := .v .nilFunc
theorem zv110 : tyZero Tryd.prog 110 = some (.nilFunc) := by kernel_rfl
theorem by110 : (Tryd.prog.info? 110).map (·.bytes) = some 8 := by kernel_rfl
theorem tZ110 : IsZero Tryd.prog 110 z110 := ⟨.nilFunc, by kernel_rfl, by kernel_rfl⟩
theorem nI110 : notIface Tryd.prog 110 := ⟨_, Tryd.underlying110, rfl⟩
theorem tA111 : tyAgg Tryd.prog 111 = some false := by kernel_rfl
theorem tS111 : tySize Tryd.prog 111 = some 1 := by kernel_rfl
def z111 : AV := .v .nilFunc
theorem zv111 : tyZero Tryd.prog 111 = some (.nilFunc) := by kernel_rfl
theorem by111 : (Tryd.prog.info? 111).map (·.bytes) = some 8 := by kernel_rfl
theorem tZ111 : IsZero Tryd.prog 111 z111 := ⟨.nilFunc, by kernel_rfl, by kernel_rfl⟩
theorem nI111 : notIface Tryd.prog 111 := ⟨_, Tryd.underlying111, rfl⟩
theorem tA112 : tyAgg Tryd.prog 112 = some false := by kernel_rfl
theorem tS112 : tySize Tryd.prog 112 = some 1 := by kernel_rfl
def z112 : AV := .v .nilFunc
theorem zv112 : tyZero Tryd.prog 112 = some (.nilFunc) := by kernel_rfl
theorem by112 : (Tryd.prog.info? 112).map (·.bytes) = some 8 := by kernel_rfl
theorem tZ112 : IsZero Tryd.prog 112 z112 := ⟨.nilFunc, by kernel_rfl, by kernel_rfl⟩
theorem nI112 : notIface Tryd.prog 112 := ⟨_, Tryd.underlying112, rfl⟩
theorem tA114 : tyAgg Tryd.prog 114 = some false := by kernel_rfl
theorem tS114 : tySize Tryd.prog 114 = some 1 := by kernel_rfl
def z114 : AV := .v .nilFunc
theorem zv114 : tyZero Tryd.prog 114 = some (.nilFunc) := by kernel_rfl
theorem by114 : (Tryd.prog.info? 114).map (·.bytes) = some 8 := by kernel_rfl
theorem tZ114 : IsZero Tryd.prog 114 z114 := ⟨.nilFunc, by kernel_rfl, by kernel_rfl⟩
theorem nI114 : notIface Tryd.prog 114 := ⟨_, Tryd.underlying114, rfl⟩
theorem tA116 : tyAgg Tryd.prog 116 = some false := by kernel_rfl
theorem tS116 : tySize Tryd.prog 116 = some 1 := by kernel_rfl
def z116 : AV := .v .nilFunc
theorem zv116 : tyZero Tryd.prog 116 = some (.nilFunc) := by kernel_rfl
theorem by116 : (Tryd.prog.info? 116).map (·.bytes) = some 8 := by kernel_rfl
theorem tZ116 : IsZero Tryd.prog 116 z116 := ⟨.nilFunc, by kernel_rfl, by kernel_rfl⟩
theorem nI116 : notIface Tryd.prog 116 := ⟨_, Tryd.underlying116, rfl⟩
theorem tA117 : tyAgg Tryd.prog 117 = some true := by kernel_rfl
theorem tS117 : tySize Tryd.prog 117 = some 3 := by kernel_rfl
def z117 : AV := .agg [.v (.int .i64 0), .v (.int .i64 0), .v (.int .i64 0)]
theorem zv117 : tyZero Tryd.prog 117 = some (.agg #[.int .i64 0, .int .i64 0, .int .i64 0]) := by kernel_rfl
theorem by117 : (Tryd.prog.info? 117).map (·.bytes) = some 24 := by kernel_rfl
theorem tZ117 : IsZero Tryd.prog 117 z117 := ⟨.agg #[.int .i64 0, .int .i64 0, .int .i64 0], by kernel_rfl, by kernel_rfl⟩
def zs117 : AV := .agg [.v (.int .i64 0), .v (.int .i64 0), .v (.int .i64 0)]
theorem tU117 : IsZero Tryd.prog 117 zs117 := ⟨.agg #[.int .i64 0, .int .i64 0, .int .i64 0], by kernel_rfl, by kernel_rfl⟩
theorem nI117 : notIface Tryd.prog 117 := ⟨_, Tryd.underlying117, rfl⟩
theorem fa117_0 : fieldAt Tryd.prog 117 0 0 1 false := ⟨_, _, Tryd.underlying117, rfl, rfl, tS3, tA3⟩
theorem fa117_1 : fieldAt Tryd.prog 117 1 1 1 false := ⟨_, _, Tryd.underlying117, rfl, rfl, tS3, tA3⟩
theorem fa117_2 : fieldAt Tryd.prog 117 2 2 1 false := ⟨_, _, Tryd.underlying117, rfl, rfl, tS3, tA3⟩
theorem pl117 : places Tryd.prog (Program.fieldsOf Tryd.prog 117).toList = some [(0, 1), (1, 1), (2, 1)] := by kernel_rfl
theorem us117 : Tryd.prog.underlying 117 = some (.struct (Program.fieldsOf Tryd.prog 117)) := by kernel_rfl
theorem eg117 : Tryd.prog.eqGuardType Tryd.prog.depth 117 = false := by kernel_rfl
theorem tA118 : tyAgg Tryd.prog 118 = some false := by kernel_rfl
theorem tS118 : tySize Tryd.prog 118 = some 1 := by kernel_rfl
def z118 : AV := .v .nilFunc
theorem zv118 : tyZero Tryd.prog 118 = some (.nilFunc) := by kernel_rfl
theorem by118 : (Tryd.prog.info? 118).map (·.bytes) = some 8 := by kernel_rfl
theorem tZ118 : IsZero Tryd.prog 118 z118 := ⟨.nilFunc, by kernel_rfl, by kernel_rfl⟩
theorem nI118 : notIface Tryd.prog 118 := ⟨_, Tryd.underlying118, rfl⟩
theorem tA119 : tyAgg Tryd.prog 119 = some false := by kernel_rfl
theorem tS119 : tySize Tryd.prog 119 = some 1 := by kernel_rfl
def z119 : AV := .v .nilFunc
theorem zv119 : tyZero Tryd.prog 119 = some (.nilFunc) := by kernel_rfl
theorem by119 : (Tryd.prog.info? 119).map (·.bytes) = some 8 := by kernel_rfl
theorem tZ119 : IsZero Tryd.prog 119 z119 := ⟨.nilFunc, by kernel_rfl, by kernel_rfl⟩
theorem nI119 : notIface Tryd.prog 119 := ⟨_, Tryd.underlying119, rfl⟩
theorem tA120 : tyAgg Tryd.prog 120 = some false := by kernel_rfl
theorem tS120 : tySize Tryd.prog 120 = some 1 := by kernel_rfl
def z120 : AV := .v .nilFunc
theorem zv120 : tyZero Tryd.prog 120 = some (.nilFunc) := by kernel_rfl
theorem by120 : (Tryd.prog.info? 120).map (·.bytes) = some 8 := by kernel_rfl
theorem tZ120 : IsZero Tryd.prog 120 z120 := ⟨.nilFunc, by kernel_rfl, by kernel_rfl⟩
theorem nI120 : notIface Tryd.prog 120 := ⟨_, Tryd.underlying120, rfl⟩
theorem tA121 : tyAgg Tryd.prog 121 = some true := by kernel_rfl
theorem tS121 : tySize Tryd.prog 121 = some 3 := by kernel_rfl
def z121 : AV := .agg [.v (.int .u64 0), .v (.string .empty), .v (.slice none 0 0)]
theorem zv121 : tyZero Tryd.prog 121 = some (.agg #[.int .u64 0, .string .empty, .slice none 0 0]) := by kernel_rfl
theorem by121 : (Tryd.prog.info? 121).map (·.bytes) = some 48 := by kernel_rfl
theorem tZ121 : IsZero Tryd.prog 121 z121 := ⟨.agg #[.int .u64 0, .string .empty, .slice none 0 0], by kernel_rfl, by kernel_rfl⟩
def zs121 : AV := .agg [.v (.int .u64 0), .v (.string .empty), .sl 7 []]
theorem tU121 : IsZero Tryd.prog 121 zs121 := ⟨.agg #[.int .u64 0, .string .empty, .slice none 0 0], by kernel_rfl, by kernel_rfl⟩
theorem nI121 : notIface Tryd.prog 121 := ⟨_, Tryd.underlying121, rfl⟩
theorem fa121_0 : fieldAt Tryd.prog 121 0 0 1 false := ⟨_, _, Tryd.underlying121, rfl, rfl, tS29, tA29⟩
theorem fa121_1 : fieldAt Tryd.prog 121 1 1 1 false := ⟨_, _, Tryd.underlying121, rfl, rfl, tS9, tA9⟩
theorem fa121_2 : fieldAt Tryd.prog 121 2 2 1 false := ⟨_, _, Tryd.underlying121, rfl, rfl, tS30, tA30⟩
theorem pl121 : places Tryd.prog (Program.fieldsOf Tryd.prog 121).toList = some [(0, 1), (1, 1), (2, 1)] := by kernel_rfl
theorem us121 : Tryd.prog.underlying 121 = some (.struct (Program.fieldsOf Tryd.prog 121)) := by kernel_rfl
theorem tA122 : tyAgg Tryd.prog 122 = some true := by kernel_rfl
theorem tS122 : tySize Tryd.prog 122 = some 3 := by kernel_rfl
def z122 : AV := .agg [.v (.int .u64 0), .v (.string .empty), .v (.slice none 0 0)]
theorem zv122 : tyZero Tryd.prog 122 = some (.agg #[.int .u64 0, .string .empty, .slice none 0 0]) := by kernel_rfl
theorem by122 : (Tryd.prog.info? 122).map (·.bytes) = some 48 := by kernel_rfl
theorem tZ122 : IsZero Tryd.prog 122 z122 := ⟨.agg #[.int .u64 0, .string .empty, .slice none 0 0], by kernel_rfl, by kernel_rfl⟩
def zs122 : AV := .agg [.v (.int .u64 0), .v (.string .empty), .sl 7 []]
theorem tU122 : IsZero Tryd.prog 122 zs122 := ⟨.agg #[.int .u64 0, .string .empty, .slice none 0 0], by kernel_rfl, by kernel_rfl⟩
theorem nI122 : notIface Tryd.prog 122 := ⟨_, Tryd.underlying122, rfl⟩
theorem fa122_0 : fieldAt Tryd.prog 122 0 0 1 false := ⟨_, _, Tryd.underlying122, rfl, rfl, tS29, tA29⟩
theorem fa122_1 : fieldAt Tryd.prog 122 1 1 1 false := ⟨_, _, Tryd.underlying122, rfl, rfl, tS9, tA9⟩
theorem fa122_2 : fieldAt Tryd.prog 122 2 2 1 false := ⟨_, _, Tryd.underlying122, rfl, rfl, tS30, tA30⟩
theorem pl122 : places Tryd.prog (Program.fieldsOf Tryd.prog 122).toList = some [(0, 1), (1, 1), (2, 1)] := by kernel_rfl
theorem us122 : Tryd.prog.underlying 122 = some (.struct (Program.fieldsOf Tryd.prog 122)) := by kernel_rfl
theorem tA123 : tyAgg Tryd.prog 123 = some true := by kernel_rfl
theorem tS123 : tySize Tryd.prog 123 = some 26 := by kernel_rfl
def z123 : AV := .agg [.arr 16 (List.replicate 16 0), .arr 8 (List.replicate 8 0), .v (.string .empty), .v (.slice none 0 0)]
theorem zv123 : tyZero Tryd.prog 123 = some (.agg #[.int .u8 0, .int .u8 0, .int .u8 0, .int .u8 0, .int .u8 0, .int .u8 0, .int .u8 0, .int .u8 0, .int .u8 0, .int .u8 0, .int .u8 0, .int .u8 0, .int .u8 0, .int .u8 0, .int .u8 0, .int .u8 0, .int .u8 0, .int .u8 0, .int .u8 0, .int .u8 0, .int .u8 0, .int .u8 0, .int .u8 0, .int .u8 0, .string .empty, .slice none 0 0]) := by kernel_rfl
theorem by123 : (Tryd.prog.info? 123).map (·.bytes) = some 64 := by kernel_rfl
theorem tZ123 : IsZero Tryd.prog 123 z123 := ⟨.agg #[.int .u8 0, .int .u8 0, .int .u8 0, .int .u8 0, .int .u8 0, .int .u8 0, .int .u8 0, .int .u8 0, .int .u8 0, .int .u8 0, .int .u8 0, .int .u8 0, .int .u8 0, .int .u8 0, .int .u8 0, .int .u8 0, .int .u8 0, .int .u8 0, .int .u8 0, .int .u8 0, .int .u8 0, .int .u8 0, .int .u8 0, .int .u8 0, .string .empty, .slice none 0 0], by kernel_rfl, by kernel_rfl⟩
def zs123 : AV := .agg [.arr 16 (List.replicate 16 0), .arr 8 (List.replicate 8 0), .v (.string .empty), .sl 7 []]
theorem tU123 : IsZero Tryd.prog 123 zs123 := ⟨.agg #[.int .u8 0, .int .u8 0, .int .u8 0, .int .u8 0, .int .u8 0, .int .u8 0, .int .u8 0, .int .u8 0, .int .u8 0, .int .u8 0, .int .u8 0, .int .u8 0, .int .u8 0, .int .u8 0, .int .u8 0, .int .u8 0, .int .u8 0, .int .u8 0, .int .u8 0, .int .u8 0, .int .u8 0, .int .u8 0, .int .u8 0, .int .u8 0, .string .empty, .slice none 0 0], by kernel_rfl, by kernel_rfl⟩
theorem nI123 : notIface Tryd.prog 123 := ⟨_, Tryd.underlying123, rfl⟩
theorem fa123_0 : fieldAt Tryd.prog 123 0 0 16 true := ⟨_, _, Tryd.underlying123, rfl, rfl, tS26, tA26⟩
theorem fa123_1 : fieldAt Tryd.prog 123 1 16 8 true := ⟨_, _, Tryd.underlying123, rfl, rfl, tS28, tA28⟩
theorem fa123_2 : fieldAt Tryd.prog 123 2 24 1 false := ⟨_, _, Tryd.underlying123, rfl, rfl, tS9, tA9⟩
theorem fa123_3 : fieldAt Tryd.prog 123 3 25 1 false := ⟨_, _, Tryd.underlying123, rfl, rfl, tS30, tA30⟩
theorem pl123 : places Tryd.prog (Program.fieldsOf Tryd.prog 123).toList = some [(0, 16), (16, 8), (24, 1), (25, 1)] := by kernel_rfl
theorem us123 : Tryd.prog.underlying 123 = some (.struct (Program.fieldsOf Tryd.prog 123)) := by kernel_rfl
theorem tA124 : tyAgg Tryd.prog 124 = some true := by kernel_rfl
theorem tS124 : tySize Tryd.prog 124 = some 26 := by kernel_rfl
def z124 : AV := .agg [.arr 16 (List.replicate 16 0), .arr 8 (List.replicate 8 0), .v (.string .empty), .v (.slice none 0 0)]
theorem zv124 : tyZero Tryd.prog 124 = some (.agg #[.int .u8 0, .int .u8 0, .int .u8 0, .int .u8 0, .int .u8 0, .int .u8 0, .int .u8 0, .int .u8 0, .int .u8 0, .int .u8 0, .int .u8 0, .int .u8 0, .int .u8 0, .int .u8 0, .int .u8 0, .int .u8 0, .int .u8 0, .int .u8 0, .int .u8 0, .int .u8 0, .int .u8 0, .int .u8 0, .int .u8 0, .int .u8 0, .string .empty, .slice none 0 0]) := by kernel_rfl
theorem by124 : (Tryd.prog.info? 124).map (·.bytes) = some 64 := by kernel_rfl
theorem tZ124 : IsZero Tryd.prog 124 z124 := ⟨.agg #[.int .u8 0, .int .u8 0, .int .u8 0, .int .u8 0, .int .u8 0, .int .u8 0, .int .u8 0, .int .u8 0, .int .u8 0, .int .u8 0, .int .u8 0, .int .u8 0, .int .u8 0, .int .u8 0, .int .u8 0, .int .u8 0, .int .u8 0, .int .u8 0, .int .u8 0, .int .u8 0, .int .u8 0, .int .u8 0, .int .u8 0, .int .u8 0, .string .empty, .slice none 0 0], by kernel_rfl, by kernel_rfl⟩
def zs124 : AV := .agg [.arr 16 (List.replicate 16 0), .arr 8 (List.replicate 8 0), .v (.string .empty), .sl 7 []]
theorem tU124 : IsZero Tryd.prog 124 zs124 := ⟨.agg #[.int .u8 0, .int .u8 0, .int .u8 0, .int .u8 0, .int .u8 0, .int .u8 0, .int .u8 0, .int .u8 0, .int .u8 0, .int .u8 0, .int .u8 0, .int .u8 0, .int .u8 0, .int .u8 0, .int .u8 0, .int .u8 0, .int .u8 0, .int .u8 0, .int .u8 0, .int .u8 0, .int .u8 0, .int .u8 0, .int .u8 0, .int .u8 0, .string .empty, .slice none 0 0], by kernel_rfl, by kernel_rfl⟩
theorem nI124 : notIface Tryd.prog 124 := ⟨_, Tryd.underlying124, rfl⟩
theorem fa124_0 : fieldAt Tryd.prog 124 0 0 16 true := ⟨_, _, Tryd.underlying124, rfl, rfl, tS26, tA26⟩
theorem fa124_1 : fieldAt Tryd.prog 124 1 16 8 true := ⟨_, _, Tryd.underlying124, rfl, rfl, tS28, tA28⟩
theorem fa124_2 : fieldAt Tryd.prog 124 2 24 1 false := ⟨_, _, Tryd.underlying124, rfl, rfl, tS9, tA9⟩
theorem fa124_3 : fieldAt Tryd.prog 124 3 25 1 false := ⟨_, _, Tryd.underlying124, rfl, rfl, tS30, tA30⟩
theorem pl124 : places Tryd.prog (Program.fieldsOf Tryd.prog 124).toList = some [(0, 16), (16, 8), (24, 1), (25, 1)] := by kernel_rfl
theorem us124 : Tryd.prog.underlying 124 = some (.struct (Program.fieldsOf Tryd.prog 124)) := by kernel_rfl
theorem tA125 : tyAgg Tryd.prog 125 = some false := by kernel_rfl
theorem tS125 : tySize Tryd.prog 125 = some 1 := by kernel_rfl
def z125 : AV := .v .nilFunc
theorem zv125 : tyZero Tryd.prog 125 = some (.nilFunc) := by kernel_rfl
theorem by125 : (Tryd.prog.info? 125).map (·.bytes) = some 8 := by kernel_rfl
theorem tZ125 : IsZero Tryd.prog 125 z125 := ⟨.nilFunc, by kernel_rfl, by kernel_rfl⟩
theorem nI125 : notIface Tryd.prog 125 := ⟨_, Tryd.underlying125, rfl⟩
theorem tA126 : tyAgg Tryd.prog 126 = some false := by kernel_rfl
theorem tS126 : tySize Tryd.prog 126 = some 1 := by kernel_rfl
def z126 : AV := .v .nilFunc
theorem zv126 : tyZero Tryd.prog 126 = some (.nilFunc) := by kernel_rfl
theorem by126 : (Tryd.prog.info? 126).map (·.bytes) = some 8 := by kernel_rfl
theorem tZ126 : IsZero Tryd.prog 126 z126 := ⟨.nilFunc, by kernel_rfl, by kernel_rfl⟩
theorem nI126 : notIface Tryd.prog 126 := ⟨_, Tryd.underlying126, rfl⟩
theorem tA127 : tyAgg Tryd.prog 127 = some false := by kernel_rfl
theorem tS127 : tySize Tryd.prog 127 = some 1 := by kernel_rfl
def z127 : AV := .v .nilFunc
theorem zv127 : tyZero Tryd.prog 127 = some (.nilFunc) := by kernel_rfl
theorem by127 : (Tryd.prog.info? 127).map (·.bytes) = some 8 := by kernel_rfl
theorem tZ127 : IsZero Tryd.prog 127 z127 := ⟨.nilFunc, by kernel_rfl, by kernel_rfl⟩
theorem nI127 : notIface Tryd.prog 127 := ⟨_, Tryd.underlying127, rfl⟩
theorem tA128 : tyAgg Tryd.prog 128 = some false := by kernel_rfl
theorem tS128 : tySize Tryd.prog 128 = some 1 := by kernel_rfl
def z128 : AV := .v .nilFunc
theorem zv128 : tyZero Tryd.prog 128 = some (.nilFunc) := by kernel_rfl
theorem by128 : (Tryd.prog.info? 128).map (·.bytes) = some 8 := by kernel_rfl
theorem tZ128 : IsZero Tryd.prog 128 z128 := ⟨.nilFunc, by kernel_rfl, by kernel_rfl⟩
theorem nI128 : notIface Tryd.prog 128 := ⟨_, Tryd.underlying128, rfl⟩
theorem tA129 : tyAgg Tryd.prog 129 = some false := by kernel_rfl
theorem tS129 : tySize Tryd.prog 129 = some 1 := by kernel_rfl
def z129 : AV := .v .nilFunc
theorem zv129 : tyZero Tryd.prog 129 = some (.nilFunc) := by kernel_rfl
theorem by129 : (Tryd.prog.info? 129).map (·.bytes) = some 8 := by kernel_rfl
theorem tZ129 : IsZero Tryd.prog 129 z129 := ⟨.nilFunc, by kernel_rfl, by kernel_rfl⟩
theorem nI129 : notIface Tryd.prog 129 := ⟨_, Tryd.underlying129, rfl⟩
theorem tA130 : tyAgg Tryd.prog 130 = some false := by kernel_rfl
theorem tS130 : tySize Tryd.prog 130 = some 1 := by kernel_rfl
def z130 : AV := .v .nilFunc
theorem zv130 : tyZero Tryd.prog 130 = some (.nilFunc) := by kernel_rfl
theorem by130 : (Tryd.prog.info? 130).map (·.bytes) = some 8 := by kernel_rfl
theorem tZ130 : IsZero Tryd.prog 130 z130 := ⟨.nilFunc, by kernel_rfl, by kernel_rfl⟩
theorem nI130 : notIface Tryd.prog 130 := ⟨_, Tryd.underlying130, rfl⟩
theorem tA131 : tyAgg Tryd.prog 131 = some false := by kernel_rfl
theorem tS131 : tySize Tryd.prog 131 = some 1 := by kernel_rfl
def z131 : AV := .v .nilFunc
theorem zv131 : tyZero Tryd.prog 131 = some (.nilFunc) := by kernel_rfl
theorem by131 : (Tryd.prog.info? 131).map (·.bytes) = some 8 := by kernel_rfl
theorem tZ131 : IsZero Tryd.prog 131 z131 := ⟨.nilFunc, by kernel_rfl, by kernel_rfl⟩
theorem nI131 : notIface Tryd.prog 131 := ⟨_, Tryd.underlying131, rfl⟩
theorem tA132 : tyAgg Tryd.prog 132 = some false := by kernel_rfl
theorem tS132 : tySize Tryd.prog 132 = some 1 := by kernel_rfl
def z132 : AV := .v .nilFunc
theorem zv132 : tyZero Tryd.prog 132 = some (.nilFunc) := by kernel_rfl
theorem by132 : (Tryd.prog.info? 132).map (·.bytes) = some 8 := by kernel_rfl
theorem tZ132 : IsZero Tryd.prog 132 z132 := ⟨.nilFunc, by kernel_rfl, by kernel_rfl⟩
theorem nI132 : notIface Tryd.prog 132 := ⟨_, Tryd.underlying132, rfl⟩
theorem tA133 : tyAgg Tryd.prog 133 = some false := by kernel_rfl
theorem tS133 : tySize Tryd.prog 133 = some 1 := by kernel_rfl
def z133 : AV := .v .nilFunc
theorem zv133 : tyZero Tryd.prog 133 = some (.nilFunc) := by kernel_rfl
theorem by133 : (Tryd.prog.info? 133).map (·.bytes) = some 8 := by kernel_rfl
theorem tZ133 : IsZero Tryd.prog 133 z133 := ⟨.nilFunc, by kernel_rfl, by kernel_rfl⟩
theorem nI133 : notIface Tryd.prog 133 := ⟨_, Tryd.underlying133, rfl⟩
theorem tA134 : tyAgg Tryd.prog 134 = some false := by kernel_rfl
theorem tS134 : tySize Tryd.prog 134 = some 1 := by kernel_rfl
def z134 : AV := .v .nilFunc
theorem zv134 : tyZero Tryd.prog 134 = some (.nilFunc) := by kernel_rfl
theorem by134 : (Tryd.prog.info? 134).map (·.bytes) = some 8 := by kernel_rfl
theorem tZ134 : IsZero Tryd.prog 134 z134 := ⟨.nilFunc, by kernel_rfl, by kernel_rfl⟩
theorem nI134 : notIface Tryd.prog 134 := ⟨_, Tryd.underlying134, rfl⟩
theorem tA135 : tyAgg Tryd.prog 135 = some false := by kernel_rfl
theorem tS135 : tySize Tryd.prog 135 = some 1 := by kernel_rfl
def z135 : AV := .v .nilFunc
theorem zv135 : tyZero Tryd.prog 135 = some (.nilFunc) := by kernel_rfl
theorem by135 : (Tryd.prog.info? 135).map (·.bytes) = some 8 := by kernel_rfl
theorem tZ135 : IsZero Tryd.prog 135 z135 := ⟨.nilFunc, by kernel_rfl, by kernel_rfl⟩
theorem nI135 : notIface Tryd.prog 135 := ⟨_, Tryd.underlying135, rfl⟩
theorem tA136 : tyAgg Tryd.prog 136 = some false := by kernel_rfl
theorem tS136 : tySize Tryd.prog 136 = some 1 := by kernel_rfl
def z136 : AV := .v .nilFunc
theorem zv136 : tyZero Tryd.prog 136 = some (.nilFunc) := by kernel_rfl
theorem by136 : (Tryd.prog.info? 136).map (·.bytes) = some 8 := by kernel_rfl
theorem tZ136 : IsZero Tryd.prog 136 z136 := ⟨.nilFunc, by kernel_rfl, by kernel_rfl⟩
theorem nI136 : notIface Tryd.prog 136 := ⟨_, Tryd.underlying136, rfl⟩
theorem tA137 : tyAgg Tryd.prog 137 = some false := by kernel_rfl
theorem tS137 : tySize Tryd.prog 137 = some 1 := by kernel_rfl
def z137 : AV := .v .nilFunc
theorem zv137 : tyZero Tryd.prog 137 = some (.nilFunc) := by kernel_rfl
theorem by137 : (Tryd.prog.info? 137).map (·.bytes) = some 8 := by kernel_rfl
theorem tZ137 : IsZero Tryd.prog 137 z137 := ⟨.nilFunc, by kernel_rfl, by kernel_rfl⟩
theorem nI137 : notIface Tryd.prog 137 := ⟨_, Tryd.underlying137, rfl⟩
theorem tA138 : tyAgg Tryd.prog 138 = some false := by kernel_rfl
theorem tS138 : tySize Tryd.prog 138 = some 1 := by kernel_rfl
def z138 : AV := .v .nilFunc
theorem zv138 : tyZero Tryd.prog 138 = some (.nilFunc) := by kernel_rfl
theorem by138 : (Tryd.prog.info? 138).map (·.bytes) = some 8 := by kernel_rfl
theorem tZ138 : IsZero Tryd.prog 138 z138 := ⟨.nilFunc, by kernel_rfl, by kernel_rfl⟩
theorem nI138 : notIface Tryd.prog 138 := ⟨_, Tryd.underlying138, rfl⟩
theorem tA139 : tyAgg Tryd.prog 139 = some false := by kernel_rfl
theorem tS139 : tySize Tryd.prog 139 = some 1 := by kernel_rfl
def z139 : AV := .v .nilFunc
theorem zv139 : tyZero Tryd.prog 139 = some (.nilFunc) := by kernel_rfl
theorem by139 : (Tryd.prog.info? 139).map (·.bytes) = some 8 := by kernel_rfl
theorem tZ139 : IsZero Tryd.prog 139 z139 := ⟨.nilFunc, by kernel_rfl, by kernel_rfl⟩
theorem nI139 : notIface Tryd.prog 139 := ⟨_, Tryd.underlying139, rfl⟩
theorem tA140 : tyAgg Tryd.prog 140 = some false := by kernel_rfl
theorem tS140 : tySize Tryd.prog 140 = some 1 := by kernel_rfl
def z140 : AV := .v (.pointer none)
theorem zv140 : tyZero Tryd.prog 140 = some (.pointer none) := by kernel_rfl
theorem by140 : (Tryd.prog.info? 140).map (·.bytes) = some 8 := by kernel_rfl
theorem tZ140 : IsZero Tryd.prog 140 z140 := ⟨.pointer none, by kernel_rfl, by kernel_rfl⟩
theorem nI140 : notIface Tryd.prog 140 := ⟨_, Tryd.underlying140, rfl⟩
theorem tA141 : tyAgg Tryd.prog 141 = some false := by kernel_rfl
theorem tS141 : tySize Tryd.prog 141 = some 1 := by kernel_rfl
def z141 : AV := .v .nilFunc
theorem zv141 : tyZero Tryd.prog 141 = some (.nilFunc) := by kernel_rfl
theorem by141 : (Tryd.prog.info? 141).map (·.bytes) = some 8 := by kernel_rfl
theorem tZ141 : IsZero Tryd.prog 141 z141 := ⟨.nilFunc, by kernel_rfl, by kernel_rfl⟩
theorem nI141 : notIface Tryd.prog 141 := ⟨_, Tryd.underlying141, rfl⟩
theorem tA142 : tyAgg Tryd.prog 142 = some false := by kernel_rfl
theorem tS142 : tySize Tryd.prog 142 = some 1 := by kernel_rfl
def z142 : AV := .v (.pointer none)
theorem zv142 : tyZero Tryd.prog 142 = some (.pointer none) := by kernel_rfl
theorem by142 : (Tryd.prog.info? 142).map (·.bytes) = some 8 := by kernel_rfl
theorem tZ142 : IsZero Tryd.prog 142 z142 := ⟨.pointer none, by kernel_rfl, by kernel_rfl⟩
theorem nI142 : notIface Tryd.prog 142 := ⟨_, Tryd.underlying142, rfl⟩
theorem tA143 : tyAgg Tryd.prog 143 = some true := by kernel_rfl
theorem tS143 : tySize Tryd.prog 143 = some 2 := by kernel_rfl
def z143 : AV := .agg [.v (.string .empty), .v .nilIface]
theorem zv143 : tyZero Tryd.prog 143 = some (.agg #[.string .empty, .nilIface]) := by kernel_rfl
theorem by143 : (Tryd.prog.info? 143).map (·.bytes) = some 32 := by kernel_rfl
theorem tZ143 : IsZero Tryd.prog 143 z143 := ⟨.agg #[.string .empty, .nilIface], by kernel_rfl, by kernel_rfl⟩
def zs143 : AV := .agg [.v (.string .empty), .v .nilIface]
theorem tU143 : IsZero Tryd.prog 143 zs143 := ⟨.agg #[.string .empty, .nilIface], by kernel_rfl, by kernel_rfl⟩
theorem nI143 : notIface Tryd.prog 143 := ⟨_, Tryd.underlying143, rfl⟩
theorem fa143_0 : fieldAt Tryd.prog 143 0 0 1 false := ⟨_, _, Tryd.underlying143, rfl, rfl, tS9, tA9⟩
theorem fa143_1 : fieldAt Tryd.prog 143 1 1 1 false := ⟨_, _, Tryd.underlying143, rfl, rfl, tS66, tA66⟩
theorem pl143 : places Tryd.prog (Program.fieldsOf Tryd.prog 143).toList = some [(0, 1), (1, 1)] := by kernel_rfl
theorem us143 : Tryd.prog.underlying 143 = some (.struct (Program.fieldsOf Tryd.prog 143)) := by kernel_rfl
theorem tA144 : tyAgg Tryd.prog 144 = some true := by kernel_rfl
theorem tS144 : tySize Tryd.prog 144 = some 2 := by kernel_rfl
def z144 : AV := .agg [.v (.string .empty), .v .nilIface]
theorem zv144 : tyZero Tryd.prog 144 = some (.agg #[.string .empty, .nilIface]) := by kernel_rfl
theorem by144 : (Tryd.prog.info? 144).map (·.bytes) = some 32 := by kernel_rfl
theorem tZ144 : IsZero Tryd.prog 144 z144 := ⟨.agg #[.string .empty, .nilIface], by kernel_rfl, by kernel_rfl⟩
def zs144 : AV := .agg [.v (.string .empty), .v .nilIface]
theorem tU144 : IsZero Tryd.prog 144 zs144 := ⟨.agg #[.string .empty, .nilIface], by kernel_rfl, by kernel_rfl⟩
theorem nI144 : notIface Tryd.prog 144 := ⟨_, Tryd.underlying144, rfl⟩
theorem fa144_0 : fieldAt Tryd.prog 144 0 0 1 false := ⟨_, _, Tryd.underlying144, rfl, rfl, tS9, tA9⟩
theorem fa144_1 : fieldAt Tryd.prog 144 1 1 1 false := ⟨_, _, Tryd.underlying144, rfl, rfl, tS66, tA66⟩
theorem pl144 : places Tryd.prog (Program.fieldsOf Tryd.prog 144).toList = some [(0, 1), (1, 1)] := by kernel_rfl
theorem us144 : Tryd.prog.underlying 144 = some (.struct (Program.fieldsOf Tryd.prog 144)) := by kernel_rfl
theorem tA145 : tyAgg Tryd.prog 145 = some false := by kernel_rfl
theorem tS145 : tySize Tryd.prog 145 = some 1 := by kernel_rfl
def z145 : AV := .v (.pointer none)
theorem zv145 : tyZero Tryd.prog 145 = some (.pointer none) := by kernel_rfl
theorem by145 : (Tryd.prog.info? 145).map (·.bytes) = some 8 := by kernel_rfl
theorem tZ145 : IsZero Tryd.prog 145 z145 := ⟨.pointer none, by kernel_rfl, by kernel_rfl⟩
theorem nI145 : notIface Tryd.prog 145 := ⟨_, Tryd.underlying145, rfl⟩
theorem tA146 : tyAgg Tryd.prog 146 = some false := by kernel_rfl
theorem tS146 : tySize Tryd.prog 146 = some 1 := by kernel_rfl
def z146 : AV := .v (.pointer none)
theorem zv146 : tyZero Tryd.prog 146 = some (.pointer none) := by kernel_rfl
theorem by146 : (Tryd.prog.info? 146).map (·.bytes) = some 8 := by kernel_rfl
theorem tZ146 : IsZero Tryd.prog 146 z146 := ⟨.pointer none, by kernel_rfl, by kernel_rfl⟩
theorem nI146 : notIface Tryd.prog 146 := ⟨_, Tryd.underlying146, rfl⟩
theorem tA147 : tyAgg Tryd.prog 147 = some true := by kernel_rfl
theorem tS147 : tySize Tryd.prog 147 = some 1 := by kernel_rfl
def z147 : AV := .agg [.v (.int .i64 0)]
theorem zv147 : tyZero Tryd.prog 147 = some (.agg #[.int .i64 0]) := by kernel_rfl
theorem by147 : (Tryd.prog.info? 147).map (·.bytes) = some 8 := by kernel_rfl
theorem tZ147 : IsZero Tryd.prog 147 z147 := ⟨.agg #[.int .i64 0], by kernel_rfl, by kernel_rfl⟩
def zs147 : AV := .agg [.v (.int .i64 0)]
theorem tU147 : IsZero Tryd.prog 147 zs147 := ⟨.agg #[.int .i64 0], by kernel_rfl, by kernel_rfl⟩
theorem nI147 : notIface Tryd.prog 147 := ⟨_, Tryd.underlying147, rfl⟩
theorem fa147_0 : fieldAt Tryd.prog 147 0 0 1 false := ⟨_, _, Tryd.underlying147, rfl, rfl, tS63, tA63⟩
theorem pl147 : places Tryd.prog (Program.fieldsOf Tryd.prog 147).toList = some [(0, 1)] := by kernel_rfl
theorem us147 : Tryd.prog.underlying 147 = some (.struct (Program.fieldsOf Tryd.prog 147)) := by kernel_rfl
theorem eg147 : Tryd.prog.eqGuardType Tryd.prog.depth 147 = false := by kernel_rfl
theorem tA148 : tyAgg Tryd.prog 148 = some true := by kernel_rfl
theorem tS148 : tySize Tryd.prog 148 = some 1 := by kernel_rfl
def z148 : AV := .agg [.v (.int .i64 0)]
theorem zv148 : tyZero Tryd.prog 148 = some (.agg #[.int .i64 0]) := by kernel_rfl
theorem by148 : (Tryd.prog.info? 148).map (·.bytes) = some 8 := by kernel_rfl
theorem tZ148 : IsZero Tryd.prog 148 z148 := ⟨.agg #[.int .i64 0], by kernel_rfl, by kernel_rfl⟩
def zs148 : AV := .agg [.v (.int .i64 0)]
theorem tU148 : IsZero Tryd.prog 148 zs148 := ⟨.agg #[.int .i64 0], by kernel_rfl, by kernel_rfl⟩
theorem nI148 : notIface Tryd.prog 148 := ⟨_, Tryd.underlying148, rfl⟩
theorem fa148_0 : fieldAt Tryd.prog 148 0 0 1 false := ⟨_, _, Tryd.underlying148, rfl, rfl, tS63, tA63⟩
theorem pl148 : places Tryd.prog (Program.fieldsOf Tryd.prog 148).toList = some [(0, 1)] := by kernel_rfl
theorem us148 : Tryd.prog.underlying 148 = some (.struct (Program.fieldsOf Tryd.prog 148)) := by kernel_rfl
theorem eg148 : Tryd.prog.eqGuardType Tryd.prog.depth 148 = false := by kernel_rfl
theorem tA149 : tyAgg Tryd.prog 149 = some false := by kernel_rfl
theorem tS149 : tySize Tryd.prog 149 = some 1 := by kernel_rfl
def z149 : AV := .v .nilFunc
theorem zv149 : tyZero Tryd.prog 149 = some (.nilFunc) := by kernel_rfl
theorem by149 : (Tryd.prog.info? 149).map (·.bytes) = some 8 := by kernel_rfl
theorem tZ149 : IsZero Tryd.prog 149 z149 := ⟨.nilFunc, by kernel_rfl, by kernel_rfl⟩
theorem nI149 : notIface Tryd.prog 149 := ⟨_, Tryd.underlying149, rfl⟩
theorem tA150 : tyAgg Tryd.prog 150 = some false := by kernel_rfl
theorem tS150 : tySize Tryd.prog 150 = some 1 := by kernel_rfl
def z150 : AV := .v .nilFunc
theorem zv150 : tyZero Tryd.prog 150 = some (.nilFunc) := by kernel_rfl
theorem by150 : (Tryd.prog.info? 150).map (·.bytes) = some 8 := by kernel_rfl
theorem tZ150 : IsZero Tryd.prog 150 z150 := ⟨.nilFunc, by kernel_rfl, by kernel_rfl⟩
theorem nI150 : notIface Tryd.prog 150 := ⟨_, Tryd.underlying150, rfl⟩
theorem tA151 : tyAgg Tryd.prog 151 = some false := by kernel_rfl
theorem tS151 : tySize Tryd.prog 151 = some 1 := by kernel_rfl
def z151 : AV := .v .nilFunc
theorem zv151 : tyZero Tryd.prog 151 = some (.nilFunc) := by kernel_rfl
theorem by151 : (Tryd.prog.info? 151).map (·.bytes) = some 8 := by kernel_rfl
theorem tZ151 : IsZero Tryd.prog 151 z151 := ⟨.nilFunc, by kernel_rfl, by kernel_rfl⟩
theorem nI151 : notIface Tryd.prog 151 := ⟨_, Tryd.underlying151, rfl⟩
theorem tA152 : tyAgg Tryd.prog 152 = some false := by kernel_rfl
theorem tS152 : tySize Tryd.prog 152 = some 1 := by kernel_rfl
def z152 : AV := .v .nilFunc
theorem zv152 : tyZero Tryd.prog 152 = some (.nilFunc) := by kernel_rfl
theorem by152 : (Tryd.prog.info? 152).map (·.bytes) = some 8 := by kernel_rfl
theorem tZ152 : IsZero Tryd.prog 152 z152 := ⟨.nilFunc, by kernel_rfl, by kernel_rfl⟩
theorem nI152 : notIface Tryd.prog 152 := ⟨_, Tryd.underlying152, rfl⟩
theorem tA153 : tyAgg Tryd.prog 153 = some false := by kernel_rfl
theorem tS153 : tySize Tryd.prog 153 = some 1 := by kernel_rfl
def z153 : AV := .v .nilFunc
theorem zv153 : tyZero Tryd.prog 153 = some (.nilFunc) := by kernel_rfl
theorem by153 : (Tryd.prog.info? 153).map (·.bytes) = some 8 := by kernel_rfl
theorem tZ153 : IsZero Tryd.prog 153 z153 := ⟨.nilFunc, by kernel_rfl, by kernel_rfl⟩
theorem nI153 : notIface Tryd.prog 153 := ⟨_, Tryd.underlying153, rfl⟩
theorem tA154 : tyAgg Tryd.prog 154 = some true := by kernel_rfl
theorem tS154 : tySize Tryd.prog 154 = some 2 := by kernel_rfl
def z154 : AV := .agg [.v (.int .u64 0), .v (.int .u64 0)]
theorem zv154 : tyZero Tryd.prog 154 = some (.agg #[.int .u64 0, .int .u64 0]) := by kernel_rfl
theorem by154 : (Tryd.prog.info? 154).map (·.bytes) = some 16 := by kernel_rfl
theorem tZ154 : IsZero Tryd.prog 154 z154 := ⟨.agg #[.int .u64 0, .int .u64 0], by kernel_rfl, by kernel_rfl⟩
def zs154 : AV := .agg [.v (.int .u64 0), .v (.int .u64 0)]
theorem tU154 : IsZero Tryd.prog 154 zs154 := ⟨.agg #[.int .u64 0, .int .u64 0], by kernel_rfl, by kernel_rfl⟩
theorem nI154 : notIface Tryd.prog 154 := ⟨_, Tryd.underlying154, rfl⟩
theorem fa154_0 : fieldAt Tryd.prog 154 0 0 1 false := ⟨_, _, Tryd.underlying154, rfl, rfl, tS29, tA29⟩
theorem fa154_1 : fieldAt Tryd.prog 154 1 1 1 false := ⟨_, _, Tryd.underlying154, rfl, rfl, tS29, tA29⟩
theorem pl154 : places Tryd.prog (Program.fieldsOf Tryd.prog 154).toList = some [(0, 1), (1, 1)] := by kernel_rfl
theorem us154 : Tryd.prog.underlying 154 = some (.struct (Program.fieldsOf Tryd.prog 154)) := by kernel_rfl
theorem eg154 : Tryd.prog.eqGuardType Tryd.prog.depth 154 = false := by kernel_rfl
theorem tA155 : tyAgg Tryd.prog 155 = some true := by kernel_rfl
theorem tS155 : tySize Tryd.prog 155 = some 2 := by kernel_rfl
def z155 : AV := .agg [.v (.int .u64 0), .v (.int .u64 0)]
theorem zv155 : tyZero Tryd.prog 155 = some (.agg #[.int .u64 0, .int .u64 0]) := by kernel_rfl
theorem by155 : (Tryd.prog.info? 155).map (·.bytes) = some 16 := by kernel_rfl
theorem tZ155 : IsZero Tryd.prog 155 z155 := ⟨.agg #[.int .u64 0, .int .u64 0], by kernel_rfl, by kernel_rfl⟩
def zs155 : AV := .agg [.v (.int .u64 0), .v (.int .u64 0)]
theorem tU155 : IsZero Tryd.prog 155 zs155 := ⟨.agg #[.int .u64 0, .int .u64 0], by kernel_rfl, by kernel_rfl⟩
theorem nI155 : notIface Tryd.prog 155 := ⟨_, Tryd.underlying155, rfl⟩
theorem fa155_0 : fieldAt Tryd.prog 155 0 0 1 false := ⟨_, _, Tryd.underlying155, rfl, rfl, tS29, tA29⟩
theorem fa155_1 : fieldAt Tryd.prog 155 1 1 1 false := ⟨_, _, Tryd.underlying155, rfl, rfl, tS29, tA29⟩
theorem pl155 : places Tryd.prog (Program.fieldsOf Tryd.prog 155).toList = some [(0, 1), (1, 1)] := by kernel_rfl
theorem us155 : Tryd.prog.underlying 155 = some (.struct (Program.fieldsOf Tryd.prog 155)) := by kernel_rfl
theorem eg155 : Tryd.prog.eqGuardType Tryd.prog.depth 155 = false := by kernel_rfl
theorem tA156 : tyAgg Tryd.prog 156 = some false := by kernel_rfl
theorem tS156 : tySize Tryd.prog 156 = some 1 := by kernel_rfl
def z156 : AV := .v .nilFunc
theorem zv156 : tyZero Tryd.prog 156 = some (.nilFunc) := by kernel_rfl
theorem by156 : (Tryd.prog.info? 156).map (·.bytes) = some 8 := by kernel_rfl
theorem tZ156 : IsZero Tryd.prog 156 z156 := ⟨.nilFunc, by kernel_rfl, by kernel_rfl⟩
theorem nI156 : notIface Tryd.prog 156 := ⟨_, Tryd.underlying156, rfl⟩
theorem tA157 : tyAgg Tryd.prog 157 = some false := by kernel_rfl
theorem tS157 : tySize Tryd.prog 157 = some 1 := by kernel_rfl
def z157 : AV := .v .nilFunc
theorem zv157 : tyZero Tryd.prog 157 = some (.nilFunc) := by kernel_rfl
theorem by157 : (Tryd.prog.info? 157).map (·.bytes) = some 8 := by kernel_rfl
theorem tZ157 : IsZero Tryd.prog 157 z157 := ⟨.nilFunc, by kernel_rfl, by kernel_rfl⟩
theorem nI157 : notIface Tryd.prog 157 := ⟨_, Tryd.underlying157, rfl⟩
theorem tA159 : tyAgg Tryd.prog 159 = some false := by kernel_rfl
theorem tS159 : tySize Tryd.prog 159 = some 1 := by kernel_rfl
def z159 : AV := .v .nilFunc
theorem zv159 : tyZero Tryd.prog 159 = some (.nilFunc) := by kernel_rfl
theorem by159 : (Tryd.prog.info? 159).map (·.bytes) = some 8 := by kernel_rfl
theorem tZ159 : IsZero Tryd.prog 159 z159 := ⟨.nilFunc, by kernel_rfl, by kernel_rfl⟩
theorem nI159 : notIface Tryd.prog 159 := ⟨_, Tryd.underlying159, rfl⟩
theorem tA160 : tyAgg Tryd.prog 160 = some false := by kernel_rfl
theorem tS160 : tySize Tryd.prog 160 = some 1 := by kernel_rfl
def z160 : AV := .v .nilFunc
theorem zv160 : tyZero Tryd.prog 160 = some (.nilFunc) := by kernel_rfl
theorem by160 : (Tryd.prog.info? 160).map (·.bytes) = some 8 := by kernel_rfl
theorem tZ160 : IsZero Tryd.prog 160 z160 := ⟨.nilFunc, by kernel_rfl, by kernel_rfl⟩
theorem nI160 : notIface Tryd.prog 160 := ⟨_, Tryd.underlying160, rfl⟩
theorem tA161 : tyAgg Tryd.prog 161 = some false := by kernel_rfl
theorem tS161 : tySize Tryd.prog 161 = some 1 := by kernel_rfl
def z161 : AV := .v .nilFunc
theorem zv161 : tyZero Tryd.prog 161 = some (.nilFunc) := by kernel_rfl
theorem by161 : (Tryd.prog.info? 161).map (·.bytes) = some 8 := by kernel_rfl
theorem tZ161 : IsZero Tryd.prog 161 z161 := ⟨.nilFunc, by kernel_rfl, by kernel_rfl⟩
theorem nI161 : notIface Tryd.prog 161 := ⟨_, Tryd.underlying161, rfl⟩
theorem tA162 : tyAgg Tryd.prog 162 = some false := by kernel_rfl
theorem tS162 : tySize Tryd.prog 162 = some 1 := by kernel_rfl
def z162 : AV := .v (.pointer none)
theorem zv162 : tyZero Tryd.prog 162 = some (.pointer none) := by kernel_rfl
theorem by162 : (Tryd.prog.info? 162).map (·.bytes) = some 8 := by kernel_rfl
theorem tZ162 : IsZero Tryd.prog 162 z162 := ⟨.pointer none, by kernel_rfl, by kernel_rfl⟩
theorem nI162 : notIface Tryd.prog 162 := ⟨_, Tryd.underlying162, rfl⟩
theorem tA163 : tyAgg Tryd.prog 163 = some false := by kernel_rfl
theorem tS163 : tySize Tryd.prog 163 = some 1 := by kernel_rfl
def z163 : AV := .v (.map none)
theorem zv163 : tyZero Tryd.prog 163 = some (.map none) := by kernel_rfl
theorem by163 : (Tryd.prog.info? 163).map (·.bytes) = some 8 := by kernel_rfl
theorem tZ163 : IsZero Tryd.prog 163 z163 := ⟨.map none, by kernel_rfl, by kernel_rfl⟩
theorem nI163 : notIface Tryd.prog 163 := ⟨_, Tryd.underlying163, rfl⟩
theorem tA164 : tyAgg Tryd.prog 164 = some true := by kernel_rfl
theorem tS164 : tySize Tryd.prog 164 = some 2 := by kernel_rfl
def z164 : AV := .agg [.v (.map none), .v (.slice none 0 0)]
theorem zv164 : tyZero Tryd.prog 164 = some (.agg #[.map none, .slice none 0 0]) := by kernel_rfl
theorem by164 : (Tryd.prog.info? 164).map (·.bytes) = some 32 := by kernel_rfl
theorem tZ164 : IsZero Tryd.prog 164 z164 := ⟨.agg #[.map none, .slice none 0 0], by kernel_rfl, by kernel_rfl⟩
def zs164 : AV := .agg [.v (.map none), .sl 2 []]
theorem tU164 : IsZero Tryd.prog 164 zs164 := ⟨.agg #[.map none, .slice none 0 0], by kernel_rfl, by kernel_rfl⟩
theorem nI164 : notIface Tryd.prog 164 := ⟨_, Tryd.underlying164, rfl⟩
theorem fa164_0 : fieldAt Tryd.prog 164 0 0 1 false := ⟨_, _, Tryd.underlying164, rfl, rfl, tS163, tA163⟩
theorem fa164_1 : fieldAt Tryd.prog 164 1 1 1 false := ⟨_, _, Tryd.underlying164, rfl, rfl, tS22, tA22⟩
theorem pl164 : places Tryd.prog (Program.fieldsOf Tryd.prog 164).toList = some [(0, 1), (1, 1)] := by kernel_rfl
theorem us164 : Tryd.prog.underlying 164 = some (.struct (Program.fieldsOf Tryd.prog 164)) := by kernel_rfl
theorem tA165 : tyAgg Tryd.prog 165 = some true := by kernel_rfl
theorem tS165 : tySize Tryd.prog 165 = some 2 := by kernel_rfl
def z165 : AV := .agg [.v (.map none), .v (.slice none 0 0)]
theorem zv165 : tyZero Tryd.prog 165 = some (.agg #[.map none, .slice none 0 0]) := by kernel_rfl
theorem by165 : (Tryd.prog.info? 165).map (·.bytes) = some 32 := by kernel_rfl
theorem tZ165 : IsZero Tryd.prog 165 z165 := ⟨.agg #[.map none, .slice none 0 0], by kernel_rfl, by kernel_rfl⟩
def zs165 : AV := .agg [.v (.map none), .sl 2 []]
theorem tU165 : IsZero Tryd.prog 165 zs165 := ⟨.agg #[.map none, .slice none 0 0], by kernel_rfl, by kernel_rfl⟩
theorem nI165 : notIface Tryd.prog 165 := ⟨_, Tryd.underlying165, rfl⟩
theorem fa165_0 : fieldAt Tryd.prog 165 0 0 1 false := ⟨_, _, Tryd.underlying165, rfl, rfl, tS163, tA163⟩
theorem fa165_1 : fieldAt Tryd.prog 165 1 1 1 false := ⟨_, _, Tryd.underlying165, rfl, rfl, tS22, tA22⟩
theorem pl165 : places Tryd.prog (Program.fieldsOf Tryd.prog 165).toList = some [(0, 1), (1, 1)] := by kernel_rfl
theorem us165 : Tryd.prog.underlying 165 = some (.struct (Program.fieldsOf Tryd.prog 165)) := by kernel_rfl
theorem tA166 : tyAgg Tryd.prog 166 = some false := by kernel_rfl
theorem tS166 : tySize Tryd.prog 166 = some 1 := by kernel_rfl
def z166 : AV := .v .nilFunc
theorem zv166 : tyZero Tryd.prog 166 = some (.nilFunc) := by kernel_rfl
theorem by166 : (Tryd.prog.info? 166).map (·.bytes) = some 8 := by kernel_rfl
theorem tZ166 : IsZero Tryd.prog 166 z166 := ⟨.nilFunc, by kernel_rfl, by kernel_rfl⟩
theorem nI166 : notIface Tryd.prog 166 := ⟨_, Tryd.underlying166, rfl⟩
theorem tA167 : tyAgg Tryd.prog 167 = some false := by kernel_rfl
theorem tS167 : tySize Tryd.prog 167 = some 1 := by kernel_rfl
def z167 : AV := .v .nilFunc
theorem zv167 : tyZero Tryd.prog 167 = some (.nilFunc) := by kernel_rfl
theorem by167 : (Tryd.prog.info? 167).map (·.bytes) = some 8 := by kernel_rfl
theorem tZ167 : IsZero Tryd.prog 167 z167 := ⟨.nilFunc, by kernel_rfl, by kernel_rfl⟩
theorem nI167 : notIface Tryd.prog 167 := ⟨_, Tryd.underlying167, rfl⟩
theorem tA169 : tyAgg Tryd.prog 169 = some false := by kernel_rfl
theorem tS169 : tySize Tryd.prog 169 = some 1 := by kernel_rfl
def z169 : AV := .v .nilFunc
theorem zv169 : tyZero Tryd.prog 169 = some (.nilFunc) := by kernel_rfl
theorem by169 : (Tryd.prog.info? 169).map (·.bytes) = some 8 := by kernel_rfl
theorem tZ169 : IsZero Tryd.prog 169 z169 := ⟨.nilFunc, by kernel_rfl, by kernel_rfl⟩
theorem nI169 : notIface Tryd.prog 169 := ⟨_, Tryd.underlying169, rfl⟩
theorem tA170 : tyAgg Tryd.prog 170 = some false := by kernel_rfl
theorem tS170 : tySize Tryd.prog 170 = some 1 := by kernel_rfl
def z170 : AV := .v .nilFunc
theorem zv170 : tyZero Tryd.prog 170 = some (.nilFunc) := by kernel_rfl
theorem by170 : (Tryd.prog.info? 170).map (·.bytes) = some 8 := by kernel_rfl
theorem tZ170 : IsZero Tryd.prog 170 z170 := ⟨.nilFunc, by kernel_rfl, by kernel_rfl⟩
theorem nI170 : notIface Tryd.prog 170 := ⟨_, Tryd.underlying170, rfl⟩
theorem tA171 : tyAgg Tryd.prog 171 = some false := by kernel_rfl
theorem tS171 : tySize Tryd.prog 171 = some 1 := by kernel_rfl
def z171 : AV := .v .nilFunc
theorem zv171 : tyZero Tryd.prog 171 = some (.nilFunc) := by kernel_rfl
theorem by171 : (Tryd.prog.info? 171).map (·.bytes) = some 8 := by kernel_rfl
theorem tZ171 : IsZero Tryd.prog 171 z171 := ⟨.nilFunc, by kernel_rfl, by kernel_rfl⟩
theorem nI171 : notIface Tryd.prog 171 := ⟨_, Tryd.underlying171, rfl⟩
theorem tA172 : tyAgg Tryd.prog 172 = some false := by kernel_rfl
theorem tS172 : tySize Tryd.prog 172 = some 1 := by kernel_rfl
def z172 : AV := .v .nilFunc
theorem zv172 : tyZero Tryd.prog 172 = some (.nilFunc) := by kernel_rfl
theorem by172 : (Tryd.prog.info? 172).map (·.bytes) = some 8 := by kernel_rfl
theorem tZ172 : IsZero Tryd.prog 172 z172 := ⟨.nilFunc, by kernel_rfl, by kernel_rfl⟩
theorem nI172 : notIface Tryd.prog 172 := ⟨_, Tryd.underlying172, rfl⟩
theorem tA173 : tyAgg Tryd.prog 173 = some false := by kernel_rfl
theorem tS173 : tySize Tryd.prog 173 = some 1 := by kernel_rfl
def z173 : AV := .v .nilFunc
theorem zv173 : tyZero Tryd.prog 173 = some (.nilFunc) := by kernel_rfl
theorem by173 : (Tryd.prog.info? 173).map (·.bytes) = some 8 := by kernel_rfl
theorem tZ173 : IsZero Tryd.prog 173 z173 := ⟨.nilFunc, by kernel_rfl, by kernel_rfl⟩
theorem nI173 : notIface Tryd.prog 173 := ⟨_, Tryd.underlying173, rfl⟩
theorem tA174 : tyAgg Tryd.prog 174 = some false := by kernel_rfl
theorem tS174 : tySize Tryd.prog 174 = some 1 := by kernel_rfl
def z174 : AV := .v .nilFunc
theorem zv174 : tyZero Tryd.prog 174 = some (.nilFunc) := by kernel_rfl
theorem by174 : (Tryd.prog.info? 174).map (·.bytes) = some 8 := by kernel_rfl
theorem tZ174 : IsZero Tryd.prog 174 z174 := ⟨.nilFunc, by kernel_rfl, by kernel_rfl⟩
theorem nI174 : notIface Tryd.prog 174 := ⟨_, Tryd.underlying174, rfl⟩
theorem tA175 : tyAgg Tryd.prog 175 = some false := by kernel_rfl
theorem tS175 : tySize Tryd.prog 175 = some 1 := by kernel_rfl
def z175 : AV := .v .nilFunc
theorem zv175 : tyZero Tryd.prog 175 = some (.nilFunc) := by kernel_rfl
theorem by175 : (Tryd.prog.info? 175).map (·.bytes) = some 8 := by kernel_rfl
theorem tZ175 : IsZero Tryd.prog 175 z175 := ⟨.nilFunc, by kernel_rfl, by kernel_rfl⟩
theorem nI175 : notIface Tryd.prog 175 := ⟨_, Tryd.underlying175, rfl⟩
theorem tA176 : tyAgg Tryd.prog 176 = some false := by kernel_rfl
theorem tS176 : tySize Tryd.prog 176 = some 1 := by kernel_rfl
def z176 : AV := .v .nilFunc
theorem zv176 : tyZero Tryd.prog 176 = some (.nilFunc) := by kernel_rfl
theorem by176 : (Tryd.prog.info? 176).map (·.bytes) = some 8 := by kernel_rfl
theorem tZ176 : IsZero Tryd.prog 176 z176 := ⟨.nilFunc, by kernel_rfl, by kernel_rfl⟩
theorem nI176 : notIface Tryd.prog 176 := ⟨_, Tryd.underlying176, rfl⟩
theorem tA177 : tyAgg Tryd.prog 177 = some false := by kernel_rfl
theorem tS177 : tySize Tryd.prog 177 = some 1 := by kernel_rfl
def z177 : AV := .v .nilFunc
theorem zv177 : tyZero Tryd.prog 177 = some (.nilFunc) := by kernel_rfl
theorem by177 : (Tryd.prog.info? 177).map (·.bytes) = some 8 := by kernel_rfl
theorem tZ177 : IsZero Tryd.prog 177 z177 := ⟨.nilFunc, by kernel_rfl, by kernel_rfl⟩
theorem nI177 : notIface Tryd.prog 177 := ⟨_, Tryd.underlying177, rfl⟩
theorem tA178 : tyAgg Tryd.prog 178 = some false := by kernel_rfl
theorem tS178 : tySize Tryd.prog 178 = some 1 := by kernel_rfl
def z178 : AV := .v .nilFunc
theorem zv178 : tyZero Tryd.prog 178 = some (.nilFunc) := by kernel_rfl
theorem by178 : (Tryd.prog.info? 178).map (·.bytes) = some 8 := by kernel_rfl
theorem tZ178 : IsZero Tryd.prog 178 z178 := ⟨.nilFunc, by kernel_rfl, by kernel_rfl⟩
theorem nI178 : notIface Tryd.prog 178 := ⟨_, Tryd.underlying178, rfl⟩
theorem tA179 : tyAgg Tryd.prog 179 = some false := by kernel_rfl
theorem tS179 : tySize Tryd.prog 179 = some 1 := by kernel_rfl
def z179 : AV := .v .nilFunc
theorem zv179 : tyZero Tryd.prog 179 = some (.nilFunc) := by kernel_rfl
theorem by179 : (Tryd.prog.info? 179).map (·.bytes) = some 8 := by kernel_rfl
theorem tZ179 : IsZero Tryd.prog 179 z179 := ⟨.nilFunc, by kernel_rfl, by kernel_rfl⟩
theorem nI179 : notIface Tryd.prog 179 := ⟨_, Tryd.underlying179, rfl⟩
theorem tA180 : tyAgg Tryd.prog 180 = some false := by kernel_rfl
theorem tS180 : tySize Tryd.prog 180 = some 1 := by kernel_rfl
def z180 : AV := .v .nilFunc
theorem zv180 : tyZero Tryd.prog 180 = some (.nilFunc) := by kernel_rfl
theorem by180 : (Tryd.prog.info? 180).map (·.bytes) = some 8 := by kernel_rfl
theorem tZ180 : IsZero Tryd.prog 180 z180 := ⟨.nilFunc, by kernel_rfl, by kernel_rfl⟩
theorem nI180 : notIface Tryd.prog 180 := ⟨_, Tryd.underlying180, rfl⟩
theorem tA181 : tyAgg Tryd.prog 181 = some false := by kernel_rfl
theorem tS181 : tySize Tryd.prog 181 = some 1 := by kernel_rfl
def z181 : AV := .v .nilFunc
theorem zv181 : tyZero Tryd.prog 181 = some (.nilFunc) := by kernel_rfl
theorem by181 : (Tryd.prog.info? 181).map (·.bytes) = some 8 := by kernel_rfl
theorem tZ181 : IsZero Tryd.prog 181 z181 := ⟨.nilFunc, by kernel_rfl, by kernel_rfl⟩
theorem nI181 : notIface Tryd.prog 181 := ⟨_, Tryd.underlying181, rfl⟩
theorem tA182 : tyAgg Tryd.prog 182 = some false := by kernel_rfl
theorem tS182 : tySize Tryd.prog 182 = some 1 := by kernel_rfl
def z182 : AV := .v .nilFunc
theorem zv182 : tyZero Tryd.prog 182 = some (.nilFunc) := by kernel_rfl
theorem by182 : (Tryd.prog.info? 182).map (·.bytes) = some 8 := by kernel_rfl
theorem tZ182 : IsZero Tryd.prog 182 z182 := ⟨.nilFunc, by kernel_rfl, by kernel_rfl⟩
theorem nI182 : notIface Tryd.prog 182 := ⟨_, Tryd.underlying182, rfl⟩
theorem tA183 : tyAgg Tryd.prog 183 = some false := by kernel_rfl
theorem tS183 : tySize Tryd.prog 183 = some 1 := by kernel_rfl
def z183 : AV := .v .nilFunc
theorem zv183 : tyZero Tryd.prog 183 = some (.nilFunc) := by kernel_rfl
theorem by183 : (Tryd.prog.info? 183).map (·.bytes) = some 8 := by kernel_rfl
theorem tZ183 : IsZero Tryd.prog 183 z183 := ⟨.nilFunc, by kernel_rfl, by kernel_rfl⟩
theorem nI183 : notIface Tryd.prog 183 := ⟨_, Tryd.underlying183, rfl⟩
theorem tA184 : tyAgg Tryd.prog 184 = some false := by kernel_rfl
theorem tS184 : tySize Tryd.prog 184 = some 1 := by kernel_rfl
def z184 : AV := .v .nilFunc
theorem zv184 : tyZero Tryd.prog 184 = some (.nilFunc) := by kernel_rfl
theorem by184 : (Tryd.prog.info? 184).map (·.bytes) = some 8 := by kernel_rfl
theorem tZ184 : IsZero Tryd.prog 184 z184 := ⟨.nilFunc, by kernel_rfl, by kernel_rfl⟩
theorem nI184 : notIface Tryd.prog 184 := ⟨_, Tryd.underlying184, rfl⟩
theorem tA185 : tyAgg Tryd.prog 185 = some false := by kernel_rfl
theorem tS185 : tySize Tryd.prog 185 = some 1 := by kernel_rfl
def z185 : AV := .v .nilFunc
theorem zv185 : tyZero Tryd.prog 185 = some (.nilFunc) := by kernel_rfl
theorem by185 : (Tryd.prog.info? 185).map (·.bytes) = some 8 := by kernel_rfl
theorem tZ185 : IsZero Tryd.prog 185 z185 := ⟨.nilFunc, by kernel_rfl, by kernel_rfl⟩
theorem nI185 : notIface Tryd.prog 185 := ⟨_, Tryd.underlying185, rfl⟩
theorem tA186 : tyAgg Tryd.prog 186 = some false := by kernel_rfl
theorem tS186 : tySize Tryd.prog 186 = some 1 := by kernel_rfl
def z186 : AV := .v .nilFunc
theorem zv186 : tyZero Tryd.prog 186 = some (.nilFunc) := by kernel_rfl
theorem by186 : (Tryd.prog.info? 186).map (·.bytes) = some 8 := by kernel_rfl
theorem tZ186 : IsZero Tryd.prog 186 z186 := ⟨.nilFunc, by kernel_rfl, by kernel_rfl⟩
theorem nI186 : notIface Tryd.prog 186 := ⟨_, Tryd.underlying186, rfl⟩
theorem tA187 : tyAgg Tryd.prog 187 = some false := by kernel_rfl
theorem tS187 : tySize Tryd.prog 187 = some 1 := by kernel_rfl
def z187 : AV := .v .nilFunc
theorem zv187 : tyZero Tryd.prog 187 = some (.nilFunc) := by kernel_rfl
theorem by187 : (Tryd.prog.info? 187).map (·.bytes) = some 8 := by kernel_rfl
theorem tZ187 : IsZero Tryd.prog 187 z187 := ⟨.nilFunc, by kernel_rfl, by kernel_rfl⟩
theorem nI187 : notIface Tryd.prog 187 := ⟨_, Tryd.underlying187, rfl⟩
theorem tA188 : tyAgg Tryd.prog 188 = some false := by kernel_rfl
theorem tS188 : tySize Tryd.prog 188 = some 1 := by kernel_rfl
def z188 : AV := .v .nilFunc
theorem zv188 : tyZero Tryd.prog 188 = some (.nilFunc) := by kernel_rfl
theorem by188 : (Tryd.prog.info? 188).map (·.bytes) = some 8 := by kernel_rfl
theorem tZ188 : IsZero Tryd.prog 188 z188 := ⟨.nilFunc, by kernel_rfl, by kernel_rfl⟩
theorem nI188 : notIface Tryd.prog 188 := ⟨_, Tryd.underlying188, rfl⟩
theorem tA189 : tyAgg Tryd.prog 189 = some false := by kernel_rfl
theorem tS189 : tySize Tryd.prog 189 = some 1 := by kernel_rfl
def z189 : AV := .v .nilFunc
theorem zv189 : tyZero Tryd.prog 189 = some (.nilFunc) := by kernel_rfl
theorem by189 : (Tryd.prog.info? 189).map (·.bytes) = some 8 := by kernel_rfl
theorem tZ189 : IsZero Tryd.prog 189 z189 := ⟨.nilFunc, by kernel_rfl, by kernel_rfl⟩
theorem nI189 : notIface Tryd.prog 189 := ⟨_, Tryd.underlying189, rfl⟩
theorem tA190 : tyAgg Tryd.prog 190 = some false := by kernel_rfl
theorem tS190 : tySize Tryd.prog 190 = some 1 := by kernel_rfl
def z190 : AV := .v .nilFunc
theorem zv190 : tyZero Tryd.prog 190 = some (.nilFunc) := by kernel_rfl
theorem by190 : (Tryd.prog.info? 190).map (·.bytes) = some 8 := by kernel_rfl
theorem tZ190 : IsZero Tryd.prog 190 z190 := ⟨.nilFunc, by kernel_rfl, by kernel_rfl⟩
theorem nI190 : notIface Tryd.prog 190 := ⟨_, Tryd.underlying190, rfl⟩
theorem tA191 : tyAgg Tryd.prog 191 = some false := by kernel_rfl
theorem tS191 : tySize Tryd.prog 191 = some 1 := by kernel_rfl
def z191 : AV := .v .nilFunc
theorem zv191 : tyZero Tryd.prog 191 = some (.nilFunc) := by kernel_rfl
theorem by191 : (Tryd.prog.info? 191).map (·.bytes) = some 8 := by kernel_rfl
theorem tZ191 : IsZero Tryd.prog 191 z191 := ⟨.nilFunc, by kernel_rfl, by kernel_rfl⟩
theorem nI191 : notIface Tryd.prog 191 := ⟨_, Tryd.underlying191, rfl⟩
theorem tA192 : tyAgg Tryd.prog 192 = some false := by kernel_rfl
theorem tS192 : tySize Tryd.prog 192 = some 1 := by kernel_rfl
def z192 : AV := .v .nilFunc
theorem zv192 : tyZero Tryd.prog 192 = some (.nilFunc) := by kernel_rfl
theorem by192 : (Tryd.prog.info? 192).map (·.bytes) = some 8 := by kernel_rfl
theorem tZ192 : IsZero Tryd.prog 192 z192 := ⟨.nilFunc, by kernel_rfl, by kernel_rfl⟩
theorem nI192 : notIface Tryd.prog 192 := ⟨_, Tryd.underlying192, rfl⟩
theorem tA193 : tyAgg Tryd.prog 193 = some false := by kernel_rfl
theorem tS193 : tySize Tryd.prog 193 = some 1 := by kernel_rfl
def z193 : AV := .v (.string .empty)
theorem zv193 : tyZero Tryd.prog 193 = some (.string .empty) := by kernel_rfl
theorem by193 : (Tryd.prog.info? 193).map (·.bytes) = some 16 := by kernel_rfl
theorem tZ193 : IsZero Tryd.prog 193 z193 := ⟨.string .empty, by kernel_rfl, by kernel_rfl⟩
theorem nI193 : notIface Tryd.prog 193 := ⟨_, Tryd.underlying193, rfl⟩
theorem tA194 : tyAgg Tryd.prog 194 = some false := by kernel_rfl
theorem tS194 : tySize Tryd.prog 194 = some 1 := by kernel_rfl
def z194 : AV := .v (.string .empty)
theorem zv194 : tyZero Tryd.prog 194 = some (.string .empty) := by kernel_rfl
theorem by194 : (Tryd.prog.info? 194).map (·.bytes) = some 16 := by kernel_rfl
theorem tZ194 : IsZero Tryd.prog 194 z194 := ⟨.string .empty, by kernel_rfl, by kernel_rfl⟩
theorem nI194 : notIface Tryd.prog 194 := ⟨_, Tryd.underlying194, rfl⟩
theorem tA207 : tyAgg Tryd.prog 207 = some false := by kernel_rfl
theorem tS207 : tySize Tryd.prog 207 = some 1 := by kernel_rfl
def z207 : AV := .v .nilFunc
theorem zv207 : tyZero Tryd.prog 207 = some (.nilFunc) := by kernel_rfl
theorem by207 : (Tryd.prog.info? 207).map (·.bytes) = some 8 := by kernel_rfl
theorem tZ207 : IsZero Tryd.prog 207 z207 := ⟨.nilFunc, by kernel_rfl, by kernel_rfl⟩
theorem nI207 : notIface Tryd.prog 207 := ⟨_, Tryd.underlying207, rfl⟩
theorem tA208 : tyAgg Tryd.prog 208 = some false := by kernel_rfl
theorem tS208 : tySize Tryd.prog 208 = some 1 := by kernel_rfl
def z208 : AV := .v .nilFunc
theorem zv208 : tyZero Tryd.prog 208 = some (.nilFunc) := by kernel_rfl
theorem by208 : (Tryd.prog.info? 208).map (·.bytes) = some 8 := by kernel_rfl
theorem tZ208 : IsZero Tryd.prog 208 z208 := ⟨.nilFunc, by kernel_rfl, by kernel_rfl⟩
theorem nI208 : notIface Tryd.prog 208 := ⟨_, Tryd.underlying208, rfl⟩
theorem tA209 : tyAgg Tryd.prog 209 = some false := by kernel_rfl
theorem tS209 : tySize Tryd.prog 209 = some 1 := by kernel_rfl
def z209 : AV := .v .nilFunc
theorem zv209 : tyZero Tryd.prog 209 = some (.nilFunc) := by kernel_rfl
theorem by209 : (Tryd.prog.info? 209).map (·.bytes) = some 8 := by kernel_rfl
theorem tZ209 : IsZero Tryd.prog 209 z209 := ⟨.nilFunc, by kernel_rfl, by kernel_rfl⟩
theorem nI209 : notIface Tryd.prog 209 := ⟨_, Tryd.underlying209, rfl⟩
theorem tA211 : tyAgg Tryd.prog 211 = some false := by kernel_rfl
theorem tS211 : tySize Tryd.prog 211 = some 1 := by kernel_rfl
def z211 : AV := .v .nilFunc
theorem zv211 : tyZero Tryd.prog 211 = some (.nilFunc) := by kernel_rfl
theorem by211 : (Tryd.prog.info? 211).map (·.bytes) = some 8 := by kernel_rfl
theorem tZ211 : IsZero Tryd.prog 211 z211 := ⟨.nilFunc, by kernel_rfl, by kernel_rfl⟩
theorem nI211 : notIface Tryd.prog 211 := ⟨_, Tryd.underlying211, rfl⟩
theorem tA213 : tyAgg Tryd.prog 213 = some false := by kernel_rfl
theorem tS213 : tySize Tryd.prog 213 = some 1 := by kernel_rfl
def z213 : AV := .v .nilFunc
theorem zv213 : tyZero Tryd.prog 213 = some (.nilFunc) := by kernel_rfl
theorem by213 : (Tryd.prog.info? 213).map (·.bytes) = some 8 := by kernel_rfl
theorem tZ213 : IsZero Tryd.prog 213 z213 := ⟨.nilFunc, by kernel_rfl, by kernel_rfl⟩
theorem nI213 : notIface Tryd.prog 213 := ⟨_, Tryd.underlying213, rfl⟩
theorem tA214 : tyAgg Tryd.prog 214 = some false := by kernel_rfl
theorem tS214 : tySize Tryd.prog 214 = some 1 := by kernel_rfl
def z214 : AV := .v .nilFunc
theorem zv214 : tyZero Tryd.prog 214 = some (.nilFunc) := by kernel_rfl
theorem by214 : (Tryd.prog.info? 214).map (·.bytes) = some 8 := by kernel_rfl
theorem tZ214 : IsZero Tryd.prog 214 z214 := ⟨.nilFunc, by kernel_rfl, by kernel_rfl⟩
theorem nI214 : notIface Tryd.prog 214 := ⟨_, Tryd.underlying214, rfl⟩
theorem tA216 : tyAgg Tryd.prog 216 = some false := by kernel_rfl
theorem tS216 : tySize Tryd.prog 216 = some 1 := by kernel_rfl
def z216 : AV := .v .nilFunc
theorem zv216 : tyZero Tryd.prog 216 = some (.nilFunc) := by kernel_rfl
theorem by216 : (Tryd.prog.info? 216).map (·.bytes) = some 8 := by kernel_rfl
theorem tZ216 : IsZero Tryd.prog 216 z216 := ⟨.nilFunc, by kernel_rfl, by kernel_rfl⟩
theorem nI216 : notIface Tryd.prog 216 := ⟨_, Tryd.underlying216, rfl⟩
theorem tA217 : tyAgg Tryd.prog 217 = some false := by kernel_rfl
theorem tS217 : tySize Tryd.prog 217 = some 1 := by kernel_rfl
def z217 : AV := .v .nilFunc
theorem zv217 : tyZero Tryd.prog 217 = some (.nilFunc) := by kernel_rfl
theorem by217 : (Tryd.prog.info? 217).map (·.bytes) = some 8 := by kernel_rfl
theorem tZ217 : IsZero Tryd.prog 217 z217 := ⟨.nilFunc, by kernel_rfl, by kernel_rfl⟩
theorem nI217 : notIface Tryd.prog 217 := ⟨_, Tryd.underlying217, rfl⟩
theorem tA219 : tyAgg Tryd.prog 219 = some false := by kernel_rfl
theorem tS219 : tySize Tryd.prog 219 = some 1 := by kernel_rfl
def z219 : AV := .v .nilFunc
theorem zv219 : tyZero Tryd.prog 219 = some (.nilFunc) := by kernel_rfl
theorem by219 : (Tryd.prog.info? 219).map (·.bytes) = some 8 := by kernel_rfl
theorem tZ219 : IsZero Tryd.prog 219 z219 := ⟨.nilFunc, by kernel_rfl, by kernel_rfl⟩
theorem nI219 : notIface Tryd.prog 219 := ⟨_, Tryd.underlying219, rfl⟩
theorem tA220 : tyAgg Tryd.prog 220 = some false := by kernel_rfl
theorem tS220 : tySize Tryd.prog 220 = some 1 := by kernel_rfl
def z220 : AV := .v .nilFunc
theorem zv220 : tyZero Tryd.prog 220 = some (.nilFunc) := by kernel_rfl
theorem by220 : (Tryd.prog.info? 220).map (·.bytes) = some 8 := by kernel_rfl
theorem tZ220 : IsZero Tryd.prog 220 z220 := ⟨.nilFunc, by kernel_rfl, by kernel_rfl⟩
theorem nI220 : notIface Tryd.prog 220 := ⟨_, Tryd.underlying220, rfl⟩
theorem tA221 : tyAgg Tryd.prog 221 = some false := by kernel_rfl
theorem tS221 : tySize Tryd.prog 221 = some 1 := by kernel_rfl
def z221 : AV := .v (.pointer none)
theorem zv221 : tyZero Tryd.prog 221 = some (.pointer none) := by kernel_rfl
theorem by221 : (Tryd.prog.info? 221).map (·.bytes) = some 8 := by kernel_rfl
theorem tZ221 : IsZero Tryd.prog 221 z221 := ⟨.pointer none, by kernel_rfl, by kernel_rfl⟩
theorem nI221 : notIface Tryd.prog 221 := ⟨_, Tryd.underlying221, rfl⟩
theorem tA222 : tyAgg Tryd.prog 222 = some false := by kernel_rfl
theorem tS222 : tySize Tryd.prog 222 = some 1 := by kernel_rfl
def z222 : AV := .v .nilFunc
theorem zv222 : tyZero Tryd.prog 222 = some (.nilFunc) := by kernel_rfl
theorem by222 : (Tryd.prog.info? 222).map (·.bytes) = some 8 := by kernel_rfl
theorem tZ222 : IsZero Tryd.prog 222 z222 := ⟨.nilFunc, by kernel_rfl, by kernel_rfl⟩
theorem nI222 : notIface Tryd.prog 222 := ⟨_, Tryd.underlying222, rfl⟩
theorem tA223 : tyAgg Tryd.prog 223 = some false := by kernel_rfl
theorem tS223 : tySize Tryd.prog 223 = some 1 := by kernel_rfl
def z223 : AV := .v .nilFunc
theorem zv223 : tyZero Tryd.prog 223 = some (.nilFunc) := by kernel_rfl
theorem by223 : (Tryd.prog.info? 223).map (·.bytes) = some 8 := by kernel_rfl
theorem tZ223 : IsZero Tryd.prog 223 z223 := ⟨.nilFunc, by kernel_rfl, by kernel_rfl⟩
theorem nI223 : notIface Tryd.prog 223 := ⟨_, Tryd.underlying223, rfl⟩
theorem tA224 : tyAgg Tryd.prog 224 = some false := by kernel_rfl
theorem tS224 : tySize Tryd.prog 224 = some 1 := by kernel_rfl
def z224 : AV := .v .nilFunc
theorem zv224 : tyZero Tryd.prog 224 = some (.nilFunc) := by kernel_rfl
theorem by224 : (Tryd.prog.info? 224).map (·.bytes) = some 8 := by kernel_rfl
theorem tZ224 : IsZero Tryd.prog 224 z224 := ⟨.nilFunc, by kernel_rfl, by kernel_rfl⟩
theorem nI224 : notIface Tryd.prog 224 := ⟨_, Tryd.underlying224, rfl⟩
theorem tA225 : tyAgg Tryd.prog 225 = some false := by kernel_rfl
theorem tS225 : tySize Tryd.prog 225 = some 1 := by kernel_rfl
def z225 : AV := .v .nilFunc
theorem zv225 : tyZero Tryd.prog 225 = some (.nilFunc) := by kernel_rfl
theorem by225 : (Tryd.prog.info? 225).map (·.bytes) = some 8 := by kernel_rfl
theorem tZ225 : IsZero Tryd.prog 225 z225 := ⟨.nilFunc, by kernel_rfl, by kernel_rfl⟩
theorem nI225 : notIface Tryd.prog 225 := ⟨_, Tryd.underlying225, rfl⟩
theorem tA226 : tyAgg Tryd.prog 226 = some false := by kernel_rfl
theorem tS226 : tySize Tryd.prog 226 = some 1 := by kernel_rfl
def z226 : AV := .v .nilFunc
theorem zv226 : tyZero Tryd.prog 226 = some (.nilFunc) := by kernel_rfl
theorem by226 : (Tryd.prog.info? 226).map (·.bytes) = some 8 := by kernel_rfl
theorem tZ226 : IsZero Tryd.prog 226 z226 := ⟨.nilFunc, by kernel_rfl, by kernel_rfl⟩
theorem nI226 : notIface Tryd.prog 226 := ⟨_, Tryd.underlying226, rfl⟩
theorem tA227 : tyAgg Tryd.prog 227 = some false := by kernel_rfl
theorem tS227 : tySize Tryd.prog 227 = some 1 := by kernel_rfl
def z227 : AV := .v .nilFunc
theorem zv227 : tyZero Tryd.prog 227 = some (.nilFunc) := by kernel_rfl
theorem by227 : (Tryd.prog.info? 227).map (·.bytes) = some 8 := by kernel_rfl
theorem tZ227 : IsZero Tryd.prog 227 z227 := ⟨.nilFunc, by kernel_rfl, by kernel_rfl⟩
theorem nI227 : notIface Tryd.prog 227 := ⟨_, Tryd.underlying227, rfl⟩
theorem tA228 : tyAgg Tryd.prog 228 = some false := by kernel_rfl
theorem tS228 : tySize Tryd.prog 228 = some 1 := by kernel_rfl
def z228 : AV := .v .nilFunc
theorem zv228 : tyZero Tryd.prog 228 = some (.nilFunc) := by kernel_rfl
theorem by228 : (Tryd.prog.info? 228).map (·.bytes) = some 8 := by kernel_rfl
theorem tZ228 : IsZero Tryd.prog 228 z228 := ⟨.nilFunc, by kernel_rfl, by kernel_rfl⟩
theorem nI228 : notIface Tryd.prog 228 := ⟨_, Tryd.underlying228, rfl⟩
theorem tA229 : tyAgg Tryd.prog 229 = some false := by kernel_rfl
theorem tS229 : tySize Tryd.prog 229 = some 1 := by kernel_rfl
def z229 : AV := .v .nilFunc
theorem zv229 : tyZero Tryd.prog 229 = some (.nilFunc) := by kernel_rfl
theorem by229 : (Tryd.prog.info? 229).map (·.bytes) = some 8 := by kernel_rfl
theorem tZ229 : IsZero Tryd.prog 229 z229 := ⟨.nilFunc, by kernel_rfl, by kernel_rfl⟩
theorem nI229 : notIface Tryd.prog 229 := ⟨_, Tryd.underlying229, rfl⟩
theorem tA230 : tyAgg Tryd.prog 230 = some false := by kernel_rfl
theorem tS230 : tySize Tryd.prog 230 = some 1 := by kernel_rfl
def z230 : AV := .v .nilFunc
theorem zv230 : tyZero Tryd.prog 230 = some (.nilFunc) := by kernel_rfl
theorem by230 : (Tryd.prog.info? 230).map (·.bytes) = some 8 := by kernel_rfl
theorem tZ230 : IsZero Tryd.prog 230 z230 := ⟨.nilFunc, by kernel_rfl, by kernel_rfl⟩
theorem nI230 : notIface Tryd.prog 230 := ⟨_, Tryd.underlying230, rfl⟩
theorem tA231 : tyAgg Tryd.prog 231 = some false := by kernel_rfl
theorem tS231 : tySize Tryd.prog 231 = some 1 := by kernel_rfl
def z231 : AV := .v .nilFunc
theorem zv231 : tyZero Tryd.prog 231 = some (.nilFunc) := by kernel_rfl
theorem by231 : (Tryd.prog.info? 231).map (·.bytes) = some 8 := by kernel_rfl
theorem tZ231 : IsZero Tryd.prog 231 z231 := ⟨.nilFunc, by kernel_rfl, by kernel_rfl⟩
theorem nI231 : notIface Tryd.prog 231 := ⟨_, Tryd.underlying231, rfl⟩
theorem tA232 : tyAgg Tryd.prog 232 = some false := by kernel_rfl
theorem tS232 : tySize Tryd.prog 232 = some 1 := by kernel_rfl
def z232 : AV := .v .nilFunc
theorem zv232 : tyZero Tryd.prog 232 = some (.nilFunc) := by kernel_rfl
theorem by232 : (Tryd.prog.info? 232).map (·.bytes) = some 8 := by kernel_rfl
theorem tZ232 : IsZero Tryd.prog 232 z232 := ⟨.nilFunc, by kernel_rfl, by kernel_rfl⟩
theorem nI232 : notIface Tryd.prog 232 := ⟨_, Tryd.underlying232, rfl⟩
theorem tA233 : tyAgg Tryd.prog 233 = some false := by kernel_rfl
theorem tS233 : tySize Tryd.prog 233 = some 1 := by kernel_rfl
def z233 : AV := .v (.slice none 0 0)
theorem zv233 : tyZero Tryd.prog 233 = some (.slice none 0 0) := by kernel_rfl
theorem by233 : (Tryd.prog.info? 233).map (·.bytes) = some 24 := by kernel_rfl
theorem tZ233 : IsZero Tryd.prog 233 z233 := ⟨.slice none 0 0, by kernel_rfl, by kernel_rfl⟩
theorem nI233 : notIface Tryd.prog 233 := ⟨_, Tryd.underlying233, rfl⟩
theorem tA234 : tyAgg Tryd.prog 234 = some false := by kernel_rfl
theorem tS234 : tySize Tryd.prog 234 = some 1 := by kernel_rfl
def z234 : AV := .v .nilFunc
theorem zv234 : tyZero Tryd.prog 234 = some (.nilFunc) := by kernel_rfl
theorem by234 : (Tryd.prog.info? 234).map (·.bytes) = some 8 := by kernel_rfl
theorem tZ234 : IsZero Tryd.prog 234 z234 := ⟨.nilFunc, by kernel_rfl, by kernel_rfl⟩
theorem nI234 : notIface Tryd.prog 234 := ⟨_, Tryd.underlying234, rfl⟩
theorem tA235 : tyAgg Tryd.prog 235 = some false := by kernel_rfl
theorem tS235 : tySize Tryd.prog 235 = some 1 := by kernel_rfl
def z235 : AV := .v .nilFunc
theorem zv235 : tyZero Tryd.prog 235 = some (.nilFunc) := by kernel_rfl
theorem by235 : (Tryd.prog.info? 235).map (·.bytes) = some 8 := by kernel_rfl
theorem tZ235 : IsZero Tryd.prog 235 z235 := ⟨.nilFunc, by kernel_rfl, by kernel_rfl⟩
theorem nI235 : notIface Tryd.prog 235 := ⟨_, Tryd.underlying235, rfl⟩
theorem tA236 : tyAgg Tryd.prog 236 = some false := by kernel_rfl
theorem tS236 : tySize Tryd.prog 236 = some 1 := by kernel_rfl
def z236 : AV := .v .nilFunc
theorem zv236 : tyZero Tryd.prog 236 = some (.nilFunc) := by kernel_rfl
theorem by236 : (Tryd.prog.info? 236).map (·.bytes) = some 8 := by kernel_rfl
theorem tZ236 : IsZero Tryd.prog 236 z236 := ⟨.nilFunc, by kernel_rfl, by kernel_rfl⟩
theorem nI236 : notIface Tryd.prog 236 := ⟨_, Tryd.underlying236, rfl⟩
theorem tA237 : tyAgg Tryd.prog 237 = some false := by kernel_rfl
theorem tS237 : tySize Tryd.prog 237 = some 1 := by kernel_rfl
def z237 : AV := .v (.slice none 0 0)
theorem zv237 : tyZero Tryd.prog 237 = some (.slice none 0 0) := by kernel_rfl
theorem by237 : (Tryd.prog.info? 237).map (·.bytes) = some 24 := by kernel_rfl
theorem tZ237 : IsZero Tryd.prog 237 z237 := ⟨.slice none 0 0, by kernel_rfl, by kernel_rfl⟩
theorem nI237 : notIface Tryd.prog 237 := ⟨_, Tryd.underlying237, rfl⟩
theorem tA238 : tyAgg Tryd.prog 238 = some false := by kernel_rfl
theorem tS238 : tySize Tryd.prog 238 = some 1 := by kernel_rfl
def z238 : AV := .v (.slice none 0 0)
theorem zv238 : tyZero Tryd.prog 238 = some (.slice none 0 0) := by kernel_rfl
theorem by238 : (Tryd.prog.info? 238).map (·.bytes) = some 24 := by kernel_rfl
theorem tZ238 : IsZero Tryd.prog 238 z238 := ⟨.slice none 0 0, by kernel_rfl, by kernel_rfl⟩
theorem nI238 : notIface Tryd.prog 238 := ⟨_, Tryd.underlying238, rfl⟩
theorem tA239 : tyAgg Tryd.prog 239 = some false := by kernel_rfl
theorem tS239 : tySize Tryd.prog 239 = some 1 := by kernel_rfl
def z239 : AV := .v .nilFunc
theorem zv239 : tyZero Tryd.prog 239 = some (.nilFunc) := by kernel_rfl
theorem by239 : (Tryd.prog.info? 239).map (·.bytes) = some 8 := by kernel_rfl
theorem tZ239 : IsZero Tryd.prog 239 z239 := ⟨.nilFunc, by kernel_rfl, by kernel_rfl⟩
theorem nI239 : notIface Tryd.prog 239 := ⟨_, Tryd.underlying239, rfl⟩
theorem tA240 : tyAgg Tryd.prog 240 = some false := by kernel_rfl
theorem tS240 : tySize Tryd.prog 240 = some 1 := by kernel_rfl
def z240 : AV := .v .nilFunc
theorem zv240 : tyZero Tryd.prog 240 = some (.nilFunc) := by kernel_rfl
theorem by240 : (Tryd.prog.info? 240).map (·.bytes) = some 8 := by kernel_rfl
theorem tZ240 : IsZero Tryd.prog 240 z240 := ⟨.nilFunc, by kernel_rfl, by kernel_rfl⟩
theorem nI240 : notIface Tryd.prog 240 := ⟨_, Tryd.underlying240, rfl⟩
theorem tA246 : tyAgg Tryd.prog 246 = some false := by kernel_rfl
theorem tS246 : tySize Tryd.prog 246 = some 1 := by kernel_rfl
def z246 : AV := .v .nilIface
theorem zv246 : tyZero Tryd.prog 246 = some (.nilIface) := by kernel_rfl
theorem by246 : (Tryd.prog.info? 246).map (·.bytes) = some 16 := by kernel_rfl
theorem tZ246 : IsZero Tryd.prog 246 z246 := ⟨.nilIface, by kernel_rfl, by kernel_rfl⟩
theorem tA248 : tyAgg Tryd.prog 248 = some false := by kernel_rfl
theorem tS248 : tySize Tryd.prog 248 = some 1 := by kernel_rfl
def z248 : AV := .v .nilFunc
theorem zv248 : tyZero Tryd.prog 248 = some (.nilFunc) := by kernel_rfl
theorem by248 : (Tryd.prog.info? 248).map (·.bytes) = some 8 := by kernel_rfl
theorem tZ248 : IsZero Tryd.prog 248 z248 := ⟨.nilFunc, by kernel_rfl, by kernel_rfl⟩
theorem nI248 : notIface Tryd.prog 248 := ⟨_, Tryd.underlying248, rfl⟩
theorem tA249 : tyAgg Tryd.prog 249 = some false := by kernel_rfl
theorem tS249 : tySize Tryd.prog 249 = some 1 := by kernel_rfl
def z249 : AV := .v .nilIface
theorem zv249 : tyZero Tryd.prog 249 = some (.nilIface) := by kernel_rfl
theorem by249 : (Tryd.prog.info? 249).map (·.bytes) = some 16 := by kernel_rfl
theorem tZ249 : IsZero Tryd.prog 249 z249 := ⟨.nilIface, by kernel_rfl, by kernel_rfl⟩
theorem tA250 : tyAgg Tryd.prog 250 = some false := by kernel_rfl
theorem tS250 : tySize Tryd.prog 250 = some 1 := by kernel_rfl
def z250 : AV := .v .nilFunc
theorem zv250 : tyZero Tryd.prog 250 = some (.nilFunc) := by kernel_rfl
theorem by250 : (Tryd.prog.info? 250).map (·.bytes) = some 8 := by kernel_rfl
theorem tZ250 : IsZero Tryd.prog 250 z250 := ⟨.nilFunc, by kernel_rfl, by kernel_rfl⟩
theorem nI250 : notIface Tryd.prog 250 := ⟨_, Tryd.underlying250, rfl⟩
theorem tA251 : tyAgg Tryd.prog 251 = some false := by kernel_rfl
theorem tS251 : tySize Tryd.prog 251 = some 1 := by kernel_rfl
def z251 : AV := .v .nilIface
theorem zv251 : tyZero Tryd.prog 251 = some (.nilIface) := by kernel_rfl
theorem by251 : (Tryd.prog.info? 251).map (·.bytes) = some 16 := by kernel_rfl
theorem tZ251 : IsZero Tryd.prog 251 z251 := ⟨.nilIface, by kernel_rfl, by kernel_rfl⟩
theorem tA252 : tyAgg Tryd.prog 252 = some false := by kernel_rfl
theorem tS252 : tySize Tryd.prog 252 = some 1 := by kernel_rfl
def z252 : AV := .v (.slice none 0 0)
theorem zv252 : tyZero Tryd.prog 252 = some (.slice none 0 0) := by kernel_rfl
theorem by252 : (Tryd.prog.info? 252).map (·.bytes) = some 24 := by kernel_rfl
theorem tZ252 : IsZero Tryd.prog 252 z252 := ⟨.slice none 0 0, by kernel_rfl, by kernel_rfl⟩
theorem nI252 : notIface Tryd.prog 252 := ⟨_, Tryd.underlying252, rfl⟩
theorem tA253 : tyAgg Tryd.prog 253 = some false := by kernel_rfl
theorem tS253 : tySize Tryd.prog 253 = some 1 := by kernel_rfl
def z253 : AV := .v .nilFunc
theorem zv253 : tyZero Tryd.prog 253 = some (.nilFunc) := by kernel_rfl
theorem by253 : (Tryd.prog.info? 253).map (·.bytes) = some 8 := by kernel_rfl
theorem tZ253 : IsZero Tryd.prog 253 z253 := ⟨.nilFunc, by kernel_rfl, by kernel_rfl⟩
theorem nI253 : notIface Tryd.prog 253 := ⟨_, Tryd.underlying253, rfl⟩
theorem tA254 : tyAgg Tryd.prog 254 = some true := by kernel_rfl
theorem tS254 : tySize Tryd.prog 254 = some 20 := by kernel_rfl
def z254 : AV := .arr 20 (List.replicate 20 0)
theorem zv254 : tyZero Tryd.prog 254 = some (.agg #[.int .u8 0, .int .u8 0, .int .u8 0, .int .u8 0, .int .u8 0, .int .u8 0, .int .u8 0, .int .u8 0, .int .u8 0, .int .u8 0, .int .u8 0, .int .u8 0, .int .u8 0, .int .u8 0, .int .u8 0, .int .u8 0, .int .u8 0, .int .u8 0, .int .u8 0, .int .u8 0]) := by kernel_rfl
theorem by254 : (Tryd.prog.info? 254).map (·.bytes) = some 20 := by kernel_rfl
theorem tZ254 : IsZero Tryd.prog 254 z254 := ⟨.agg #[.int .u8 0, .int .u8 0, .int .u8 0, .int .u8 0, .int .u8 0, .int .u8 0, .int .u8 0, .int .u8 0, .int .u8 0, .int .u8 0, .int .u8 0, .int .u8 0, .int .u8 0, .int .u8 0, .int .u8 0, .int .u8 0, .int .u8 0, .int .u8 0, .int .u8 0, .int .u8 0], by kernel_rfl, by kernel_rfl⟩
def zs254 : AV := .arr 20 (List.replicate 20 0)
theorem tU254 : IsZero Tryd.prog 254 zs254 := ⟨.agg #[.int .u8 0, .int .u8 0, .int .u8 0, .int .u8 0, .int .u8 0, .int .u8 0, .int .u8 0, .int .u8 0, .int .u8 0, .int .u8 0, .int .u8 0, .int .u8 0, .int .u8 0, .int .u8 0, .int .u8 0, .int .u8 0, .int .u8 0, .int .u8 0, .int .u8 0, .int .u8 0], by kernel_rfl, by kernel_rfl⟩
theorem nI254 : notIface Tryd.prog 254 := ⟨_, Tryd.underlying254, rfl⟩
theorem eg254 : Tryd.prog.eqGuardType Tryd.prog.depth 254 = false := by kernel_rfl
theorem tA255 : tyAgg Tryd.prog 255 = some false := by kernel_rfl
theorem tS255 : tySize Tryd.prog 255 = some 1 := by kernel_rfl
def z255 : AV := .v .nilIface
theorem zv255 : tyZero Tryd.prog 255 = some (.nilIface) := by kernel_rfl
theorem by255 : (Tryd.prog.info? 255).map (·.bytes) = some 16 := by kernel_rfl
theorem tZ255 : IsZero Tryd.prog 255 z255 := ⟨.nilIface, by kernel_rfl, by kernel_rfl⟩
theorem tA257 : tyAgg Tryd.prog 257 = some false := by kernel_rfl
theorem tS257 : tySize Tryd.prog 257 = some 1 := by kernel_rfl
def z257 : AV := .v .nilFunc
theorem zv257 : tyZero Tryd.prog 257 = some (.nilFunc) := by kernel_rfl
theorem by257 : (Tryd.prog.info? 257).map (·.bytes) = some 8 := by kernel_rfl
theorem tZ257 : IsZero Tryd.prog 257 z257 := ⟨.nilFunc, by kernel_rfl, by kernel_rfl⟩
theorem nI257 : notIface Tryd.prog 257 := ⟨_, Tryd.underlying257, rfl⟩
theorem tA258 : tyAgg Tryd.prog 258 = some false := by kernel_rfl
theorem tS258 : tySize Tryd.prog 258 = some 1 := by kernel_rfl
def z258 : AV := .v .nilFunc
theorem zv258 : tyZero Tryd.prog 258 = some (.nilFunc) := by kernel_rfl
theorem by258 : (Tryd.prog.info? 258).map (·.bytes) = some 8 := by kernel_rfl
theorem tZ258 : IsZero Tryd.prog 258 z258 := ⟨.nilFunc, by kernel_rfl, by kernel_rfl⟩
theorem nI258 : notIface Tryd.prog 258 := ⟨_, Tryd.underlying258, rfl⟩
theorem tA259 : tyAgg Tryd.prog 259 = some false := by kernel_rfl
theorem tS259 : tySize Tryd.prog 259 = some 1 := by kernel_rfl
def z259 : AV := .v .nilFunc
theorem zv259 : tyZero Tryd.prog 259 = some (.nilFunc) := by kernel_rfl
theorem by259 : (Tryd.prog.info? 259).map (·.bytes) = some 8 := by kernel_rfl
theorem tZ259 : IsZero Tryd.prog 259 z259 := ⟨.nilFunc, by kernel_rfl, by kernel_rfl⟩
theorem nI259 : notIface Tryd.prog 259 := ⟨_, Tryd.underlying259, rfl⟩
theorem tA260 : tyAgg Tryd.prog 260 = some false := by kernel_rfl
theorem tS260 : tySize Tryd.prog 260 = some 1 := by kernel_rfl
def z260 : AV := .v .nilFunc
theorem zv260 : tyZero Tryd.prog 260 = some (.nilFunc) := by kernel_rfl
theorem by260 : (Tryd.prog.info? 260).map (·.bytes) = some 8 := by kernel_rfl
theorem tZ260 : IsZero Tryd.prog 260 z260 := ⟨.nilFunc, by kernel_rfl, by kernel_rfl⟩
theorem nI260 : notIface Tryd.prog 260 := ⟨_, Tryd.underlying260, rfl⟩
theorem tA261 : tyAgg Tryd.prog 261 = some false := by kernel_rfl
theorem tS261 : tySize Tryd.prog 261 = some 1 := by kernel_rfl
def z261 : AV := .v .nilFunc
theorem zv261 : tyZero Tryd.prog 261 = some (.nilFunc) := by kernel_rfl
theorem by261 : (Tryd.prog.info? 261).map (·.bytes) = some 8 := by kernel_rfl
theorem tZ261 : IsZero Tryd.prog 261 z261 := ⟨.nilFunc, by kernel_rfl, by kernel_rfl⟩
theorem nI261 : notIface Tryd.prog 261 := ⟨_, Tryd.underlying261, rfl⟩
theorem tA262 : tyAgg Tryd.prog 262 = some false := by kernel_rfl
theorem tS262 : tySize Tryd.prog 262 = some 1 := by kernel_rfl
def z262 : AV := .v .nilFunc
theorem zv262 : tyZero Tryd.prog 262 = some (.nilFunc) := by kernel_rfl
theorem by262 : (Tryd.prog.info? 262).map (·.bytes) = some 8 := by kernel_rfl
theorem tZ262 : IsZero Tryd.prog 262 z262 := ⟨.nilFunc, by kernel_rfl, by kernel_rfl⟩
theorem nI262 : notIface Tryd.prog 262 := ⟨_, Tryd.underlying262, rfl⟩
theorem tA263 : tyAgg Tryd.prog 263 = some false := by kernel_rfl
theorem tS263 : tySize Tryd.prog 263 = some 1 := by kernel_rfl
def z263 : AV := .v (.int .u64 0)
theorem zv263 : tyZero Tryd.prog 263 = some (.int .u64 0) := by kernel_rfl
theorem by263 : (Tryd.prog.info? 263).map (·.bytes) = some 8 := by kernel_rfl
theorem tZ263 : IsZero Tryd.prog 263 z263 := ⟨.int .u64 0, by kernel_rfl, by kernel_rfl⟩
theorem nI263 : notIface Tryd.prog 263 := ⟨_, Tryd.underlying263, rfl⟩
theorem tA264 : tyAgg Tryd.prog 264 = some false := by kernel_rfl
theorem tS264 : tySize Tryd.prog 264 = some 1 := by kernel_rfl
def z264 : AV := .v .nilFunc
theorem zv264 : tyZero Tryd.prog 264 = some (.nilFunc) := by kernel_rfl
theorem by264 : (Tryd.prog.info? 264).map (·.bytes) = some 8 := by kernel_rfl
theorem tZ264 : IsZero Tryd.prog 264 z264 := ⟨.nilFunc, by kernel_rfl, by kernel_rfl⟩
theorem nI264 : notIface Tryd.prog 264 := ⟨_, Tryd.underlying264, rfl⟩
theorem tA265 : tyAgg Tryd.prog 265 = some false := by kernel_rfl
theorem tS265 : tySize Tryd.prog 265 = some 1 := by kernel_rfl
def z265 : AV := .v .nilFunc
theorem zv265 : tyZero Tryd.prog 265 = some (.nilFunc) := by kernel_rfl
theorem by265 : (Tryd.prog.info? 265).map (·.bytes) = some 8 := by kernel_rfl
theorem tZ265 : IsZero Tryd.prog 265 z265 := ⟨.nilFunc, by kernel_rfl, by kernel_rfl⟩
theorem nI265 : notIface Tryd.prog 265 := ⟨_, Tryd.underlying265, rfl⟩
theorem tA266 : tyAgg Tryd.prog 266 = some false := by kernel_rfl
theorem tS266 : tySize Tryd.prog 266 = some 1 := by kernel_rfl
def z266 : AV := .v .nilFunc
theorem zv266 : tyZero Tryd.prog 266 = some (.nilFunc) := by kernel_rfl
theorem by266 : (Tryd.prog.info? 266).map (·.bytes) = some 8 := by kernel_rfl
theorem tZ266 : IsZero Tryd.prog 266 z266 := ⟨.nilFunc, by kernel_rfl, by kernel_rfl⟩
theorem nI266 : notIface Tryd.prog 266 := ⟨_, Tryd.underlying266, rfl⟩
theorem tA268 : tyAgg Tryd.prog 268 = some false := by kernel_rfl
theorem tS268 : tySize Tryd.prog 268 = some 1 := by kernel_rfl
def z268 : AV := .v .nilFunc
theorem zv268 : tyZero Tryd.prog 268 = some (.nilFunc) := by kernel_rfl
theorem by268 : (Tryd.prog.info? 268).map (·.bytes) = some 8 := by kernel_rfl
theorem tZ268 : IsZero Tryd.prog 268 z268 := ⟨.nilFunc, by kernel_rfl, by kernel_rfl⟩
theorem nI268 : notIface Tryd.prog 268 := ⟨_, Tryd.underlying268, rfl⟩
theorem tA269 : tyAgg Tryd.prog 269 = some false := by kernel_rfl
theorem tS269 : tySize Tryd.prog 269 = some 1 := by kernel_rfl
def z269 : AV := .v .nilFunc
theorem zv269 : tyZero Tryd.prog 269 = some (.nilFunc) := by kernel_rfl
theorem by269 : (Tryd.prog.info? 269).map (·.bytes) = some 8 := by kernel_rfl
theorem tZ269 : IsZero Tryd.prog 269 z269 := ⟨.nilFunc, by kernel_rfl, by kernel_rfl⟩
theorem nI269 : notIface Tryd.prog 269 := ⟨_, Tryd.underlying269, rfl⟩
theorem tA270 : tyAgg Tryd.prog 270 = some false := by kernel_rfl
theorem tS270 : tySize Tryd.prog 270 = some 1 := by kernel_rfl
def z270 : AV := .v .nilFunc
theorem zv270 : tyZero Tryd.prog 270 = some (.nilFunc) := by kernel_rfl
theorem by270 : (Tryd.prog.info? 270).map (·.bytes) = some 8 := by kernel_rfl
theorem tZ270 : IsZero Tryd.prog 270 z270 := ⟨.nilFunc, by kernel_rfl, by kernel_rfl⟩
theorem nI270 : notIface Tryd.prog 270 := ⟨_, Tryd.underlying270, rfl⟩
theorem tA272 : tyAgg Tryd.prog 272 = some false := by kernel_rfl
theorem tS272 : tySize Tryd.prog 272 = some 1 := by kernel_rfl
def z272 : AV := .v .nilFunc
theorem zv272 : tyZero Tryd.prog 272 = some (.nilFunc) := by kernel_rfl
theorem by272 : (Tryd.prog.info? 272).map (·.bytes) = some 8 := by kernel_rfl
theorem tZ272 : IsZero Tryd.prog 272 z272 := ⟨.nilFunc, by kernel_rfl, by kernel_rfl⟩
theorem nI272 : notIface Tryd.prog 272 := ⟨_, Tryd.underlying272, rfl⟩
theorem tA273 : tyAgg Tryd.prog 273 = some false := by kernel_rfl
theorem tS273 : tySize Tryd.prog 273 = some 1 := by kernel_rfl
def z273 : AV := .v .nilFunc
theorem zv273 : tyZero Tryd.prog 273 = some (.nilFunc) := by kernel_rfl
theorem by273 : (Tryd.prog.info? 273).map (·.bytes) = some 8 := by kernel_rfl
theorem tZ273 : IsZero Tryd.prog 273 z273 := ⟨.nilFunc, by kernel_rfl, by kernel_rfl⟩
theorem nI273 : notIface Tryd.prog 273 := ⟨_, Tryd.underlying273, rfl⟩
theorem tA277 : tyAgg Tryd.prog 277 = some false := by kernel_rfl
theorem tS277 : tySize Tryd.prog 277 = some 1 := by kernel_rfl
def z277 : AV := .v .nilFunc
theorem zv277 : tyZero Tryd.prog 277 = some (.nilFunc) := by kernel_rfl
theorem by277 : (Tryd.prog.info? 277).map (·.bytes) = some 8 := by kernel_rfl
theorem tZ277 : IsZero Tryd.prog 277 z277 := ⟨.nilFunc, by kernel_rfl, by kernel_rfl⟩
theorem nI277 : notIface Tryd.prog 277 := ⟨_, Tryd.underlying277, rfl⟩
theorem tA278 : tyAgg Tryd.prog 278 = some false := by kernel_rfl
theorem tS278 : tySize Tryd.prog 278 = some 1 := by kernel_rfl
def z278 : AV := .v .nilFunc
theorem zv278 : tyZero Tryd.prog 278 = some (.nilFunc) := by kernel_rfl
theorem by278 : (Tryd.prog.info? 278).map (·.bytes) = some 8 := by kernel_rfl
theorem tZ278 : IsZero Tryd.prog 278 z278 := ⟨.nilFunc, by kernel_rfl, by kernel_rfl⟩
theorem nI278 : notIface Tryd.prog 278 := ⟨_, Tryd.underlying278, rfl⟩
theorem tA279 : tyAgg Tryd.prog 279 = some false := by kernel_rfl
theorem tS279 : tySize Tryd.prog 279 = some 1 := by kernel_rfl
def z279 : AV := .v .nilFunc
theorem zv279 : tyZero Tryd.prog 279 = some (.nilFunc) := by kernel_rfl
theorem by279 : (Tryd.prog.info? 279).map (·.bytes) = some 8 := by kernel_rfl
theorem tZ279 : IsZero Tryd.prog 279 z279 := ⟨.nilFunc, by kernel_rfl, by kernel_rfl⟩
theorem nI279 : notIface Tryd.prog 279 := ⟨_, Tryd.underlying279, rfl⟩
theorem tA280 : tyAgg Tryd.prog 280 = some false := by kernel_rfl
theorem tS280 : tySize Tryd.prog 280 = some 1 := by kernel_rfl
def z280 : AV := .v .nilFunc
theorem zv280 : tyZero Tryd.prog 280 = some (.nilFunc) := by kernel_rfl
theorem by280 : (Tryd.prog.info? 280).map (·.bytes) = some 8 := by kernel_rfl
theorem tZ280 : IsZero Tryd.prog 280 z280 := ⟨.nilFunc, by kernel_rfl, by kernel_rfl⟩
theorem nI280 : notIface Tryd.prog 280 := ⟨_, Tryd.underlying280, rfl⟩
theorem tA281 : tyAgg Tryd.prog 281 = some false := by kernel_rfl
theorem tS281 : tySize Tryd.prog 281 = some 1 := by kernel_rfl
def z281 : AV := .v .nilFunc
theorem zv281 : tyZero Tryd.prog 281 = some (.nilFunc) := by kernel_rfl
theorem by281 : (Tryd.prog.info? 281).map (·.bytes) = some 8 := by kernel_rfl
theorem tZ281 : IsZero Tryd.prog 281 z281 := ⟨.nilFunc, by kernel_rfl, by kernel_rfl⟩
theorem nI281 : notIface Tryd.prog 281 := ⟨_, Tryd.underlying281, rfl⟩
theorem tA282 : tyAgg Tryd.prog 282 = some false := by kernel_rfl
theorem tS282 : tySize Tryd.prog 282 = some 1 := by kernel_rfl
def z282 : AV := .v (.int .u32 0)
theorem zv282 : tyZero Tryd.prog 282 = some (.int .u32 0) := by kernel_rfl
theorem by282 : (Tryd.prog.info? 282).map (·.bytes) = some 4 := by kernel_rfl
theorem tZ282 : IsZero Tryd.prog 282 z282 := ⟨.int .u32 0, by kernel_rfl, by kernel_rfl⟩
theorem nI282 : notIface Tryd.prog 282 := ⟨_, Tryd.underlying282, rfl⟩
theorem tA283 : tyAgg Tryd.prog 283 = some false := by kernel_rfl
theorem tS283 : tySize Tryd.prog 283 = some 1 := by kernel_rfl
def z283 : AV := .v .nilFunc
theorem zv283 : tyZero Tryd.prog 283 = some (.nilFunc) := by kernel_rfl
theorem by283 : (Tryd.prog.info? 283).map (·.bytes) = some 8 := by kernel_rfl
theorem tZ283 : IsZero Tryd.prog 283 z283 := ⟨.nilFunc, by kernel_rfl, by kernel_rfl⟩
theorem nI283 : notIface Tryd.prog 283 := ⟨_, Tryd.underlying283, rfl⟩
theorem tA284 : tyAgg Tryd.prog 284 = some false := by kernel_rfl
theorem tS284 : tySize Tryd.prog 284 = some 1 := by kernel_rfl
def z284 : AV := .v .nilFunc
theorem zv284 : tyZero Tryd.prog 284 = some (.nilFunc) := by kernel_rfl
theorem by284 : (Tryd.prog.info? 284).map (·.bytes) = some 8 := by kernel_rfl
theorem tZ284 : IsZero Tryd.prog 284 z284 := ⟨.nilFunc, by kernel_rfl, by kernel_rfl⟩
theorem nI284 : notIface Tryd.prog 284 := ⟨_, Tryd.underlying284, rfl⟩
theorem tA285 : tyAgg Tryd.prog 285 = some false := by kernel_rfl
theorem tS285 : tySize Tryd.prog 285 = some 1 := by kernel_rfl
def z285 : AV := .v .nilFunc
theorem zv285 : tyZero Tryd.prog 285 = some (.nilFunc) := by kernel_rfl
theorem by285 : (Tryd.prog.info? 285).map (·.bytes) = some 8 := by kernel_rfl
theorem tZ285 : IsZero Tryd.prog 285 z285 := ⟨.nilFunc, by kernel_rfl, by kernel_rfl⟩
theorem nI285 : notIface Tryd.prog 285 := ⟨_, Tryd.underlying285, rfl⟩
theorem tA286 : tyAgg Tryd.prog 286 = some false := by kernel_rfl
theorem tS286 : tySize Tryd.prog 286 = some 1 := by kernel_rfl
def z286 : AV := .v .nilFunc
theorem zv286 : tyZero Tryd.prog 286 = some (.nilFunc) := by kernel_rfl
theorem by286 : (Tryd.prog.info? 286).map (·.bytes) = some 8 := by kernel_rfl
theorem tZ286 : IsZero Tryd.prog 286 z286 := ⟨.nilFunc, by kernel_rfl, by kernel_rfl⟩
theorem nI286 : notIface Tryd.prog 286 := ⟨_, Tryd.underlying286, rfl⟩
theorem tA287 : tyAgg Tryd.prog 287 = some false := by kernel_rfl
theorem tS287 : tySize Tryd.prog 287 = some 1 := by kernel_rfl
def z287 : AV := .v .nilFunc
theorem zv287 : tyZero Tryd.prog 287 = some (.nilFunc) := by kernel_rfl
theorem by287 : (Tryd.prog.info? 287).map (·.bytes) = some 8 := by kernel_rfl
theorem tZ287 : IsZero Tryd.prog 287 z287 := ⟨.nilFunc, by kernel_rfl, by kernel_rfl⟩
theorem nI287 : notIface Tryd.prog 287 := ⟨_, Tryd.underlying287, rfl⟩
theorem tA289 : tyAgg Tryd.prog 289 = some false := by kernel_rfl
theorem tS289 : tySize Tryd.prog 289 = some 1 := by kernel_rfl
def z289 : AV := .v .nilFunc
theorem zv289 : tyZero Tryd.prog 289 = some (.nilFunc) := by kernel_rfl
theorem by289 : (Tryd.prog.info? 289).map (·.bytes) = some 8 := by kernel_rfl
theorem tZ289 : IsZero Tryd.prog 289 z289 := ⟨.nilFunc, by kernel_rfl, by kernel_rfl⟩
theorem nI289 : notIface Tryd.prog 289 := ⟨_, Tryd.underlying289, rfl⟩
theorem tA290 : tyAgg Tryd.prog 290 = some false := by kernel_rfl
theorem tS290 : tySize Tryd.prog 290 = some 1 := by kernel_rfl
def z290 : AV := .v .nilFunc
theorem zv290 : tyZero Tryd.prog 290 = some (.nilFunc) := by kernel_rfl
theorem by290 : (Tryd.prog.info? 290).map (·.bytes) = some 8 := by kernel_rfl
theorem tZ290 : IsZero Tryd.prog 290 z290 := ⟨.nilFunc, by kernel_rfl, by kernel_rfl⟩
theorem nI290 : notIface Tryd.prog 290 := ⟨_, Tryd.underlying290, rfl⟩
theorem tA291 : tyAgg Tryd.prog 291 = some false := by kernel_rfl
theorem tS291 : tySize Tryd.prog 291 = some 1 := by kernel_rfl
def z291 : AV := .v (.pointer none)
theorem zv291 : tyZero Tryd.prog 291 = some (.pointer none) := by kernel_rfl
theorem by291 : (Tryd.prog.info? 291).map (·.bytes) = some 8 := by kernel_rfl
theorem tZ291 : IsZero Tryd.prog 291 z291 := ⟨.pointer none, by kernel_rfl, by kernel_rfl⟩
theorem nI291 : notIface Tryd.prog 291 := ⟨_, Tryd.underlying291, rfl⟩
theorem tA292 : tyAgg Tryd.prog 292 = some false := by kernel_rfl
theorem tS292 : tySize Tryd.prog 292 = some 1 := by kernel_rfl
def z292 : AV := .v .nilFunc
theorem zv292 : tyZero Tryd.prog 292 = some (.nilFunc) := by kernel_rfl
theorem by292 : (Tryd.prog.info? 292).map (·.bytes) = some 8 := by kernel_rfl
theorem tZ292 : IsZero Tryd.prog 292 z292 := ⟨.nilFunc, by kernel_rfl, by kernel_rfl⟩
theorem nI292 : notIface Tryd.prog 292 := ⟨_, Tryd.underlying292, rfl⟩
theorem tA293 : tyAgg Tryd.prog 293 = some false := by kernel_rfl
theorem tS293 : tySize Tryd.prog 293 = some 1 := by kernel_rfl
def z293 : AV := .v .nilFunc
theorem zv293 : tyZero Tryd.prog 293 = some (.nilFunc) := by kernel_rfl
theorem by293 : (Tryd.prog.info? 293).map (·.bytes) = some 8 := by kernel_rfl
theorem tZ293 : IsZero Tryd.prog 293 z293 := ⟨.nilFunc, by kernel_rfl, by kernel_rfl⟩
theorem nI293 : notIface Tryd.prog 293 := ⟨_, Tryd.underlying293, rfl⟩
theorem tA295 : tyAgg Tryd.prog 295 = some false := by kernel_rfl
theorem tS295 : tySize Tryd.prog 295 = some 1 := by kernel_rfl
def z295 : AV := .v .nilFunc
theorem zv295 : tyZero Tryd.prog 295 = some (.nilFunc) := by kernel_rfl
theorem by295 : (Tryd.prog.info? 295).map (·.bytes) = some 8 := by kernel_rfl
theorem tZ295 : IsZero Tryd.prog 295 z295 := ⟨.nilFunc, by kernel_rfl, by kernel_rfl⟩
theorem nI295 : notIface Tryd.prog 295 := ⟨_, Tryd.underlying295, rfl⟩
theorem tA304 : tyAgg Tryd.prog 304 = some false := by kernel_rfl
theorem tS304 : tySize Tryd.prog 304 = some 1 := by kernel_rfl
def z304 : AV := .v (.pointer none)
theorem zv304 : tyZero Tryd.prog 304 = some (.pointer none) := by kernel_rfl
theorem by304 : (Tryd.prog.info? 304).map (·.bytes) = some 8 := by kernel_rfl
theorem tZ304 : IsZero Tryd.prog 304 z304 := ⟨.pointer none, by kernel_rfl, by kernel_rfl⟩
theorem nI304 : notIface Tryd.prog 304 := ⟨_, Tryd.underlying304, rfl⟩
theorem tA310 : tyAgg Tryd.prog 310 = some false := by kernel_rfl
theorem tS310 : tySize Tryd.prog 310 = some 1 := by kernel_rfl
def z310 : AV := .v .nilFunc
theorem zv310 : tyZero Tryd.prog 310 = some (.nilFunc) := by kernel_rfl
theorem by310 : (Tryd.prog.info? 310).map (·.bytes) = some 8 := by kernel_rfl
theorem tZ310 : IsZero Tryd.prog 310 z310 := ⟨.nilFunc, by kernel_rfl, by kernel_rfl⟩
theorem nI310 : notIface Tryd.prog 310 := ⟨_, Tryd.underlying310, rfl⟩
theorem tA316 : tyAgg Tryd.prog 316 = some false := by kernel_rfl
theorem tS316 : tySize Tryd.prog 316 = some 1 := by kernel_rfl
def z316 : AV := .v (.int .u16 0)
theorem zv316 : tyZero Tryd.prog 316 = some (.int .u16 0) := by kernel_rfl
theorem by316 : (Tryd.prog.info? 316).map (·.bytes) = some 2 := by kernel_rfl
theorem tZ316 : IsZero Tryd.prog 316 z316 := ⟨.int .u16 0, by kernel_rfl, by kernel_rfl⟩
theorem nI316 : notIface Tryd.prog 316 := ⟨_, Tryd.underlying316, rfl⟩
theorem tA323 : tyAgg Tryd.prog 323 = some false := by kernel_rfl
theorem tS323 : tySize Tryd.prog 323 = some 1 := by kernel_rfl
def z323 : AV := .v (.pointer none)
theorem zv323 : tyZero Tryd.prog 323 = some (.pointer none) := by kernel_rfl
theorem by323 : (Tryd.prog.info? 323).map (·.bytes) = some 8 := by kernel_rfl
theorem tZ323 : IsZero Tryd.prog 323 z323 := ⟨.pointer none, by kernel_rfl, by kernel_rfl⟩
theorem nI323 : notIface Tryd.prog 323 := ⟨_, Tryd.underlying323, rfl⟩
end Go.Proofs
