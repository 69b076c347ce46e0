/- Closed facts on the types of this program: sizes, zeros, places of fields. -/
import Derived.Test.YtdbcdeihinboeaaAm
import Derived.Test.YtdbcdeihinboeaaProg
import Derived.KernelRfl
set_option linter.unusedSimpArgs false
set_option linter.unusedVariables false
namespace Go.Proofs
open Go Go.Al
set_option maxRecDepth 10000
theorem mixed : Try.prog.follows .mixedOrders = true := by kernel_rfl
theorem tA1 : tyAgg Try.prog 1 = some false := by kernel_rfl
theorem tS1 : tySize Try.prog 1 = some 1 := by kernel_rfl
def z1 : AV := .v .nilFunc
theorem zv1 : tyZero Try.prog 1 = some (.nilFunc) := by kernel_rfl
theorem by1 : (Try.prog.info? 1).map (·.bytes) = some 8 := by kernel_rfl
theorem tZ1 : IsZero Try.prog 1 z1 := ⟨.nilFunc, by kernel_rfl, by kernel_rfl⟩
theorem tA2 : tyAgg Try.prog 2 = some false := by kernel_rfl
theorem tS2 : tySize Try.prog 2 = some 1 := by kernel_rfl
def z2 : AV := .v (.int .i64 0)
theorem zv2 : tyZero Try.prog 2 = some (.int .i64 0) := by kernel_rfl
theorem by2 : (Try.prog.info? 2).map (·.bytes) = some 8 := by kernel_rfl
theorem tZ2 : IsZero Try.prog 2 z2 := ⟨.int .i64 0, by kernel_rfl, by kernel_rfl⟩
theorem tA3 : tyAgg Try.prog 3 = some false := by kernel_rfl
theorem tS3 : tySize Try.prog 3 = some 1 := by kernel_rfl
def z3 : AV := .v (.int .i64 0)
theorem zv3 : tyZero Try.prog 3 = some (.int .i64 0) := by kernel_rfl
theorem by3 : (Try.prog.info? 3).map (·.bytes) = some 8 := by kernel_rfl
theorem tZ3 : IsZero Try.prog 3 z3 := ⟨.int .i64 0, by kernel_rfl, by kernel_rfl⟩
theorem tA4 : tyAgg Try.prog 4 = some false := by kernel_rfl
theorem tS4 : tySize Try.prog 4 = some 1 := by kernel_rfl
def z4 : AV := .v (.bool false)
theorem zv4 : tyZero Try.prog 4 = some (.bool false) := by kernel_rfl
theorem by4 : (Try.prog.info? 4).map (·.bytes) = some 1 := by kernel_rfl
theorem tZ4 : IsZero Try.prog 4 z4 := ⟨.bool false, by kernel_rfl, by kernel_rfl⟩
theorem tA5 : tyAgg Try.prog 5 = some false := by kernel_rfl
theorem tS5 : tySize Try.prog 5 = some 1 := by kernel_rfl
def z5 : AV := .v (.int .u8 0)
theorem zv5 : tyZero Try.prog 5 = some (.int .u8 0) := by kernel_rfl
theorem by5 : (Try.prog.info? 5).map (·.bytes) = some 1 := by kernel_rfl
theorem tZ5 : IsZero Try.prog 5 z5 := ⟨.int .u8 0, by kernel_rfl, by kernel_rfl⟩
theorem tA9 : tyAgg Try.prog 9 = some false := by kernel_rfl
theorem tS9 : tySize Try.prog 9 = some 1 := by kernel_rfl
def z9 : AV := .v (.string .empty)
theorem zv9 : tyZero Try.prog 9 = some (.string .empty) := by kernel_rfl
theorem by9 : (Try.prog.info? 9).map (·.bytes) = some 16 := by kernel_rfl
theorem tZ9 : IsZero Try.prog 9 z9 := ⟨.string .empty, by kernel_rfl, by kernel_rfl⟩
theorem tA12 : tyAgg Try.prog 12 = some false := by kernel_rfl
theorem tS12 : tySize Try.prog 12 = some 1 := by kernel_rfl
def z12 : AV := .v (.int .u64 0)
theorem zv12 : tyZero Try.prog 12 = some (.int .u64 0) := by kernel_rfl
theorem by12 : (Try.prog.info? 12).map (·.bytes) = some 8 := by kernel_rfl
theorem tZ12 : IsZero Try.prog 12 z12 := ⟨.int .u64 0, by kernel_rfl, by kernel_rfl⟩
theorem tA13 : tyAgg Try.prog 13 = some true := by kernel_rfl
theorem tS13 : tySize Try.prog 13 = some 2 := by kernel_rfl
def z13 : AV := .agg [.v (.string .empty), .v (.int .u64 0)]
theorem zv13 : tyZero Try.prog 13 = some (.agg #[.string .empty, .int .u64 0]) := by kernel_rfl
theorem by13 : (Try.prog.info? 13).map (·.bytes) = some 24 := by kernel_rfl
theorem tZ13 : IsZero Try.prog 13 z13 := ⟨.agg #[.string .empty, .int .u64 0], by kernel_rfl, by kernel_rfl⟩
theorem fa13_0 : fieldAt Try.prog 13 0 0 1 false := ⟨_, _, Try.underlying13, rfl, rfl, tS9, tA9⟩
theorem fa13_1 : fieldAt Try.prog 13 1 1 1 false := ⟨_, _, Try.underlying13, rfl, rfl, tS12, tA12⟩
theorem pl13 : places Try.prog (Program.fieldsOf Try.prog 13).toList = some [(0, 1), (1, 1)] := by kernel_rfl
theorem us13 : Try.prog.underlying 13 = some (.struct (Program.fieldsOf Try.prog 13)) := by kernel_rfl
theorem eg13 : Try.prog.eqGuardType Try.prog.depth 13 = false := by kernel_rfl
theorem tA20 : tyAgg Try.prog 20 = some false := by kernel_rfl
theorem tS20 : tySize Try.prog 20 = some 1 := by kernel_rfl
def z20 : AV := .v .nilIface
theorem zv20 : tyZero Try.prog 20 = some (.nilIface) := by kernel_rfl
theorem by20 : (Try.prog.info? 20).map (·.bytes) = some 16 := by kernel_rfl
theorem tZ20 : IsZero Try.prog 20 z20 := ⟨.nilIface, by kernel_rfl, by kernel_rfl⟩
theorem tA21 : tyAgg Try.prog 21 = some false := by kernel_rfl
theorem tS21 : tySize Try.prog 21 = some 1 := by kernel_rfl
def z21 : AV := .v (.int .i32 0)
theorem zv21 : tyZero Try.prog 21 = some (.int .i32 0) := by kernel_rfl
theorem by21 : (Try.prog.info? 21).map (·.bytes) = some 4 := by kernel_rfl
theorem tZ21 : IsZero Try.prog 21 z21 := ⟨.int .i32 0, by kernel_rfl, by kernel_rfl⟩
theorem tA22 : tyAgg Try.prog 22 = some false := by kernel_rfl
theorem tS22 : tySize Try.prog 22 = some 1 := by kernel_rfl
def z22 : AV := .v (.int .u64 0)
theorem zv22 : tyZero Try.prog 22 = some (.int .u64 0) := by kernel_rfl
theorem by22 : (Try.prog.info? 22).map (·.bytes) = some 8 := by kernel_rfl
theorem tZ22 : IsZero Try.prog 22 z22 := ⟨.int .u64 0, by kernel_rfl, by kernel_rfl⟩
theorem tA23 : tyAgg Try.prog 23 = some true := by kernel_rfl
theorem tS23 : tySize Try.prog 23 = some 2 := by kernel_rfl
def z23 : AV := .agg [.v (.int .u64 0), .v (.int .u64 0)]
theorem zv23 : tyZero Try.prog 23 = some (.agg #[.int .u64 0, .int .u64 0]) := by kernel_rfl
theorem by23 : (Try.prog.info? 23).map (·.bytes) = some 16 := by kernel_rfl
theorem tZ23 : IsZero Try.prog 23 z23 := ⟨.agg #[.int .u64 0, .int .u64 0], by kernel_rfl, by kernel_rfl⟩
theorem fa23_0 : fieldAt Try.prog 23 0 0 1 false := ⟨_, _, Try.underlying23, rfl, rfl, tS22, tA22⟩
theorem fa23_1 : fieldAt Try.prog 23 1 1 1 false := ⟨_, _, Try.underlying23, rfl, rfl, tS22, tA22⟩
theorem pl23 : places Try.prog (Program.fieldsOf Try.prog 23).toList = some [(0, 1), (1, 1)] := by kernel_rfl
theorem us23 : Try.prog.underlying 23 = some (.struct (Program.fieldsOf Try.prog 23)) := by kernel_rfl
theorem eg23 : Try.prog.eqGuardType Try.prog.depth 23 = false := by kernel_rfl
theorem tA24 : tyAgg Try.prog 24 = some true := by kernel_rfl
theorem tS24 : tySize Try.prog 24 = some 2 := by kernel_rfl
def z24 : AV := .agg [.v (.int .u64 0), .v (.int .u64 0)]
theorem zv24 : tyZero Try.prog 24 = some (.agg #[.int .u64 0, .int .u64 0]) := by kernel_rfl
theorem by24 : (Try.prog.info? 24).map (·.bytes) = some 16 := by kernel_rfl
theorem tZ24 : IsZero Try.prog 24 z24 := ⟨.agg #[.int .u64 0, .int .u64 0], by kernel_rfl, by kernel_rfl⟩
theorem fa24_0 : fieldAt Try.prog 24 0 0 1 false := ⟨_, _, Try.underlying24, rfl, rfl, tS22, tA22⟩
theorem fa24_1 : fieldAt Try.prog 24 1 1 1 false := ⟨_, _, Try.underlying24, rfl, rfl, tS22, tA22⟩
theorem pl24 : places Try.prog (Program.fieldsOf Try.prog 24).toList = some [(0, 1), (1, 1)] := by kernel_rfl
theorem us24 : Try.prog.underlying 24 = some (.struct (Program.fieldsOf Try.prog 24)) := by kernel_rfl
theorem eg24 : Try.prog.eqGuardType Try.prog.depth 24 = false := by kernel_rfl
theorem tA26 : tyAgg Try.prog 26 = some false := by kernel_rfl
theorem tS26 : tySize Try.prog 26 = some 1 := by kernel_rfl
def z26 : AV := .v .nilFunc
theorem zv26 : tyZero Try.prog 26 = some (.nilFunc) := by kernel_rfl
theorem by26 : (Try.prog.info? 26).map (·.bytes) = some 8 := by kernel_rfl
theorem tZ26 : IsZero Try.prog 26 z26 := ⟨.nilFunc, by kernel_rfl, by kernel_rfl⟩
theorem tA27 : tyAgg Try.prog 27 = some false := by kernel_rfl
theorem tS27 : tySize Try.prog 27 = some 1 := by kernel_rfl
def z27 : AV := .v .nilFunc
theorem zv27 : tyZero Try.prog 27 = some (.nilFunc) := by kernel_rfl
theorem by27 : (Try.prog.info? 27).map (·.bytes) = some 8 := by kernel_rfl
theorem tZ27 : IsZero Try.prog 27 z27 := ⟨.nilFunc, by kernel_rfl, by kernel_rfl⟩
theorem tA28 : tyAgg Try.prog 28 = some false := by kernel_rfl
theorem tS28 : tySize Try.prog 28 = some 1 := by kernel_rfl
def z28 : AV := .v (.int .i64 0)
theorem zv28 : tyZero Try.prog 28 = some (.int .i64 0) := by kernel_rfl
theorem by28 : (Try.prog.info? 28).map (·.bytes) = some 8 := by kernel_rfl
theorem tZ28 : IsZero Try.prog 28 z28 := ⟨.int .i64 0, by kernel_rfl, by kernel_rfl⟩
theorem tA29 : tyAgg Try.prog 29 = some false := by kernel_rfl
theorem tS29 : tySize Try.prog 29 = some 1 := by kernel_rfl
def z29 : AV := .v .nilFunc
theorem zv29 : tyZero Try.prog 29 = some (.nilFunc) := by kernel_rfl
theorem by29 : (Try.prog.info? 29).map (·.bytes) = some 8 := by kernel_rfl
theorem tZ29 : IsZero Try.prog 29 z29 := ⟨.nilFunc, by kernel_rfl, by kernel_rfl⟩
theorem tA30 : tyAgg Try.prog 30 = some false := by kernel_rfl
theorem tS30 : tySize Try.prog 30 = some 1 := by kernel_rfl
def z30 : AV := .v .nilFunc
theorem zv30 : tyZero Try.prog 30 = some (.nilFunc) := by kernel_rfl
theorem by30 : (Try.prog.info? 30).map (·.bytes) = some 8 := by kernel_rfl
theorem tZ30 : IsZero Try.prog 30 z30 := ⟨.nilFunc, by kernel_rfl, by kernel_rfl⟩
theorem tA31 : tyAgg Try.prog 31 = some false := by kernel_rfl
theorem tS31 : tySize Try.prog 31 = some 1 := by kernel_rfl
def z31 : AV := .v .nilFunc
theorem zv31 : tyZero Try.prog 31 = some (.nilFunc) := by kernel_rfl
theorem by31 : (Try.prog.info? 31).map (·.bytes) = some 8 := by kernel_rfl
theorem tZ31 : IsZero Try.prog 31 z31 := ⟨.nilFunc, by kernel_rfl, by kernel_rfl⟩
theorem tA32 : tyAgg Try.prog 32 = some false := by kernel_rfl
theorem tS32 : tySize Try.prog 32 = some 1 := by kernel_rfl
def z32 : AV := .v .nilFunc
theorem zv32 : tyZero Try.prog 32 = some (.nilFunc) := by kernel_rfl
theorem by32 : (Try.prog.info? 32).map (·.bytes) = some 8 := by kernel_rfl
theorem tZ32 : IsZero Try.prog 32 z32 := ⟨.nilFunc, by kernel_rfl, by kernel_rfl⟩
theorem tA33 : tyAgg Try.prog 33 = some false := by kernel_rfl
theorem tS33 : tySize Try.prog 33 = some 1 := by kernel_rfl
def z33 : AV := .v .nilFunc
theorem zv33 : tyZero Try.prog 33 = some (.nilFunc) := by kernel_rfl
theorem by33 : (Try.prog.info? 33).map (·.bytes) = some 8 := by kernel_rfl
theorem tZ33 : IsZero Try.prog 33 z33 := ⟨.nilFunc, by kernel_rfl, by kernel_rfl⟩
theorem tA35 : tyAgg Try.prog 35 = some false := by kernel_rfl
theorem tS35 : tySize Try.prog 35 = some 1 := by kernel_rfl
def z35 : AV := .v .nilFunc
theorem zv35 : tyZero Try.prog 35 = some (.nilFunc) := by kernel_rfl
theorem by35 : (Try.prog.info? 35).map (·.bytes) = some 8 := by kernel_rfl
theorem tZ35 : IsZero Try.prog 35 z35 := ⟨.nilFunc, by kernel_rfl, by kernel_rfl⟩
theorem tA37 : tyAgg Try.prog 37 = some false := by kernel_rfl
theorem tS37 : tySize Try.prog 37 = some 1 := by kernel_rfl
def z37 : AV := .v .nilFunc
theorem zv37 : tyZero Try.prog 37 = some (.nilFunc) := by kernel_rfl
theorem by37 : (Try.prog.info? 37).map (·.bytes) = some 8 := by kernel_rfl
theorem tZ37 : IsZero Try.prog 37 z37 := ⟨.nilFunc, by kernel_rfl, by kernel_rfl⟩
theorem tA39 : tyAgg Try.prog 39 = some false := by kernel_rfl
theorem tS39 : tySize Try.prog 39 = some 1 := by kernel_rfl
def z39 : AV := .v .nilFunc
theorem zv39 : tyZero Try.prog 39 = some (.nilFunc) := by kernel_rfl
theorem by39 : (Try.prog.info? 39).map (·.bytes) = some 8 := by kernel_rfl
theorem tZ39 : IsZero Try.prog 39 z39 := ⟨.nilFunc, by kernel_rfl, by kernel_rfl⟩
theorem tA40 : tyAgg Try.prog 40 = some false := by kernel_rfl
theorem tS40 : tySize Try.prog 40 = some 1 := by kernel_rfl
def z40 : AV := .v .nilFunc
theorem zv40 : tyZero Try.prog 40 = some (.nilFunc) := by kernel_rfl
theorem by40 : (Try.prog.info? 40).map (·.bytes) = some 8 := by kernel_rfl
theorem tZ40 : IsZero Try.prog 40 z40 := ⟨.nilFunc, by kernel_rfl, by kernel_rfl⟩
theorem tA41 : tyAgg Try.prog 41 = some false := by kernel_rfl
theorem tS41 : tySize Try.prog 41 = some 1 := by kernel_rfl
def z41 : AV := .v .nilFunc
theorem zv41 : tyZero Try.prog 41 = some (.nilFunc) := by kernel_rfl
theorem by41 : (Try.prog.info? 41).map (·.bytes) = some 8 := by kernel_rfl
theorem tZ41 : IsZero Try.prog 41 z41 := ⟨.nilFunc, by kernel_rfl, by kernel_rfl⟩
theorem tA43 : tyAgg Try.prog 43 = some false := by kernel_rfl
theorem tS43 : tySize Try.prog 43 = some 1 := by kernel_rfl
def z43 : AV := .v .nilFunc
theorem zv43 : tyZero Try.prog 43 = some (.nilFunc) := by kernel_rfl
theorem by43 : (Try.prog.info? 43).map (·.bytes) = some 8 := by kernel_rfl
theorem tZ43 : IsZero Try.prog 43 z43 := ⟨.nilFunc, by kernel_rfl, by kernel_rfl⟩
theorem tA44 : tyAgg Try.prog 44 = some false := by kernel_rfl
theorem tS44 : tySize Try.prog 44 = some 1 := by kernel_rfl
def z44 : AV := .v .nilFunc
theorem zv44 : tyZero Try.prog 44 = some (.nilFunc) := by kernel_rfl
theorem by44 : (Try.prog.info? 44).map (·.bytes) = some 8 := by kernel_rfl
theorem tZ44 : IsZero Try.prog 44 z44 := ⟨.nilFunc, by kernel_rfl, by kernel_rfl⟩
theorem tA45 : tyAgg Try.prog 45 = some false := by kernel_rfl
theorem tS45 : tySize Try.prog 45 = some 1 := by kernel_rfl
def z45 : AV := .v .nilFunc
theorem zv45 : tyZero Try.prog 45 = some (.nilFunc) := by kernel_rfl
theorem by45 : (Try.prog.info? 45).map (·.bytes) = some 8 := by kernel_rfl
theorem tZ45 : IsZero Try.prog 45 z45 := ⟨.nilFunc, by kernel_rfl, by kernel_rfl⟩
theorem tA46 : tyAgg Try.prog 46 = some false := by kernel_rfl
theorem tS46 : tySize Try.prog 46 = some 1 := by kernel_rfl
def z46 : AV := .v .nilFunc
theorem zv46 : tyZero Try.prog 46 = some (.nilFunc) := by kernel_rfl
theorem by46 : (Try.prog.info? 46).map (·.bytes) = some 8 := by kernel_rfl
theorem tZ46 : IsZero Try.prog 46 z46 := ⟨.nilFunc, by kernel_rfl, by kernel_rfl⟩
theorem tA47 : tyAgg Try.prog 47 = some false := by kernel_rfl
theorem tS47 : tySize Try.prog 47 = some 1 := by kernel_rfl
def z47 : AV := .v (.slice none 0 0)
theorem zv47 : tyZero Try.prog 47 = some (.slice none 0 0) := by kernel_rfl
theorem by47 : (Try.prog.info? 47).map (·.bytes) = some 24 := by kernel_rfl
theorem tZ47 : IsZero Try.prog 47 z47 := ⟨.slice none 0 0, by kernel_rfl, by kernel_rfl⟩
theorem tA48 : tyAgg Try.prog 48 = some false := by kernel_rfl
theorem tS48 : tySize Try.prog 48 = some 1 := by kernel_rfl
def z48 : AV := .v .nilFunc
theorem zv48 : tyZero Try.prog 48 = some (.nilFunc) := by kernel_rfl
theorem by48 : (Try.prog.info? 48).map (·.bytes) = some 8 := by kernel_rfl
theorem tZ48 : IsZero Try.prog 48 z48 := ⟨.nilFunc, by kernel_rfl, by kernel_rfl⟩
theorem tA49 : tyAgg Try.prog 49 = some false := by kernel_rfl
theorem tS49 : tySize Try.prog 49 = some 1 := by kernel_rfl
def z49 : AV := .v .nilFunc
theorem zv49 : tyZero Try.prog 49 = some (.nilFunc) := by kernel_rfl
theorem by49 : (Try.prog.info? 49).map (·.bytes) = some 8 := by kernel_rfl
theorem tZ49 : IsZero Try.prog 49 z49 := ⟨.nilFunc, by kernel_rfl, by kernel_rfl⟩
theorem tA50 : tyAgg Try.prog 50 = some false := by kernel_rfl
theorem tS50 : tySize Try.prog 50 = some 1 := by kernel_rfl
def z50 : AV := .v .nilFunc
theorem zv50 : tyZero Try.prog 50 = some (.nilFunc) := by kernel_rfl
theorem by50 : (Try.prog.info? 50).map (·.bytes) = some 8 := by kernel_rfl
theorem tZ50 : IsZero Try.prog 50 z50 := ⟨.nilFunc, by kernel_rfl, by kernel_rfl⟩
theorem tA51 : tyAgg Try.prog 51 = some false := by kernel_rfl
theorem tS51 : tySize Try.prog 51 = some 1 := by kernel_rfl
def z51 : AV := .v .nilFunc
theorem zv51 : tyZero Try.prog 51 = some (.nilFunc) := by kernel_rfl
theorem by51 : (Try.prog.info? 51).map (·.bytes) = some 8 := by kernel_rfl
theorem tZ51 : IsZero Try.prog 51 z51 := ⟨.nilFunc, by kernel_rfl, by kernel_rfl⟩
theorem tA52 : tyAgg Try.prog 52 = some false := by kernel_rfl
theorem tS52 : tySize Try.prog 52 = some 1 := by kernel_rfl
def z52 : AV := .v .nilFunc
theorem zv52 : tyZero Try.prog 52 = some (.nilFunc) := by kernel_rfl
theorem by52 : (Try.prog.info? 52).map (·.bytes) = some 8 := by kernel_rfl
theorem tZ52 : IsZero Try.prog 52 z52 := ⟨.nilFunc, by kernel_rfl, by kernel_rfl⟩
theorem tA53 : tyAgg Try.prog 53 = some false := by kernel_rfl
theorem tS53 : tySize Try.prog 53 = some 1 := by kernel_rfl
def z53 : AV := .v (.slice none 0 0)
theorem zv53 : tyZero Try.prog 53 = some (.slice none 0 0) := by kernel_rfl
theorem by53 : (Try.prog.info? 53).map (·.bytes) = some 24 := by kernel_rfl
theorem tZ53 : IsZero Try.prog 53 z53 := ⟨.slice none 0 0, by kernel_rfl, by kernel_rfl⟩
theorem tA54 : tyAgg Try.prog 54 = some true := by kernel_rfl
theorem tS54 : tySize Try.prog 54 = some 1 := by kernel_rfl
def z54 : AV := .agg [.v (.slice none 0 0)]
theorem zv54 : tyZero Try.prog 54 = some (.agg #[.slice none 0 0]) := by kernel_rfl
theorem by54 : (Try.prog.info? 54).map (·.bytes) = some 24 := by kernel_rfl
theorem tZ54 : IsZero Try.prog 54 z54 := ⟨.agg #[.slice none 0 0], by kernel_rfl, by kernel_rfl⟩
theorem fa54_0 : fieldAt Try.prog 54 0 0 1 false := ⟨_, _, Try.underlying54, rfl, rfl, tS53, tA53⟩
theorem pl54 : places Try.prog (Program.fieldsOf Try.prog 54).toList = some [(0, 1)] := by kernel_rfl
theorem us54 : Try.prog.underlying 54 = some (.struct (Program.fieldsOf Try.prog 54)) := by kernel_rfl
theorem eg54 : Try.prog.eqGuardType Try.prog.depth 54 = false := by kernel_rfl
theorem tA55 : tyAgg Try.prog 55 = some true := by kernel_rfl
theorem tS55 : tySize Try.prog 55 = some 1 := by kernel_rfl
def z55 : AV := .agg [.v (.slice none 0 0)]
theorem zv55 : tyZero Try.prog 55 = some (.agg #[.slice none 0 0]) := by kernel_rfl
theorem by55 : (Try.prog.info? 55).map (·.bytes) = some 24 := by kernel_rfl
theorem tZ55 : IsZero Try.prog 55 z55 := ⟨.agg #[.slice none 0 0], by kernel_rfl, by kernel_rfl⟩
theorem fa55_0 : fieldAt Try.prog 55 0 0 1 false := ⟨_, _, Try.underlying55, rfl, rfl, tS53, tA53⟩
theorem pl55 : places Try.prog (Program.fieldsOf Try.prog 55).toList = some [(0, 1)] := by kernel_rfl
theorem us55 : Try.prog.underlying 55 = some (.struct (Program.fieldsOf Try.prog 55)) := by kernel_rfl
theorem eg55 : Try.prog.eqGuardType Try.prog.depth 55 = false := by kernel_rfl
theorem tA56 : tyAgg Try.prog 56 = some true := by kernel_rfl
theorem tS56 : tySize Try.prog 56 = some 16 := by kernel_rfl
def z56 : AV := .arr 16 (List.replicate 16 0)
theorem zv56 : tyZero Try.prog 56 = some (.agg #[.int .u8 0, .int .u8 0, .int .u8 0, .int .u8 0, .int .u8 0, .int .u8 0, .int .u8 0, .int .u8 0, .int .u8 0, .int .u8 0, .int .u8 0, .int .u8 0, .int .u8 0, .int .u8 0, .int .u8 0, .int .u8 0]) := by kernel_rfl
theorem by56 : (Try.prog.info? 56).map (·.bytes) = some 16 := by kernel_rfl
theorem tZ56 : IsZero Try.prog 56 z56 := ⟨.agg #[.int .u8 0, .int .u8 0, .int .u8 0, .int .u8 0, .int .u8 0, .int .u8 0, .int .u8 0, .int .u8 0, .int .u8 0, .int .u8 0, .int .u8 0, .int .u8 0, .int .u8 0, .int .u8 0, .int .u8 0, .int .u8 0], by kernel_rfl, by kernel_rfl⟩
theorem eg56 : Try.prog.eqGuardType Try.prog.depth 56 = false := by kernel_rfl
theorem tA57 : tyAgg Try.prog 57 = some true := by kernel_rfl
theorem tS57 : tySize Try.prog 57 = some 16 := by kernel_rfl
def z57 : AV := .arr 16 (List.replicate 16 0)
theorem zv57 : tyZero Try.prog 57 = some (.agg #[.int .u8 0, .int .u8 0, .int .u8 0, .int .u8 0, .int .u8 0, .int .u8 0, .int .u8 0, .int .u8 0, .int .u8 0, .int .u8 0, .int .u8 0, .int .u8 0, .int .u8 0, .int .u8 0, .int .u8 0, .int .u8 0]) := by kernel_rfl
theorem by57 : (Try.prog.info? 57).map (·.bytes) = some 16 := by kernel_rfl
theorem tZ57 : IsZero Try.prog 57 z57 := ⟨.agg #[.int .u8 0, .int .u8 0, .int .u8 0, .int .u8 0, .int .u8 0, .int .u8 0, .int .u8 0, .int .u8 0, .int .u8 0, .int .u8 0, .int .u8 0, .int .u8 0, .int .u8 0, .int .u8 0, .int .u8 0, .int .u8 0], by kernel_rfl, by kernel_rfl⟩
theorem eg57 : Try.prog.eqGuardType Try.prog.depth 57 = false := by kernel_rfl
theorem tA58 : tyAgg Try.prog 58 = some true := by kernel_rfl
theorem tS58 : tySize Try.prog 58 = some 8 := by kernel_rfl
def z58 : AV := .arr 8 (List.replicate 8 0)
theorem zv58 : tyZero Try.prog 58 = some (.agg #[.int .u8 0, .int .u8 0, .int .u8 0, .int .u8 0, .int .u8 0, .int .u8 0, .int .u8 0, .int .u8 0]) := by kernel_rfl
theorem by58 : (Try.prog.info? 58).map (·.bytes) = some 8 := by kernel_rfl
theorem tZ58 : IsZero Try.prog 58 z58 := ⟨.agg #[.int .u8 0, .int .u8 0, .int .u8 0, .int .u8 0, .int .u8 0, .int .u8 0, .int .u8 0, .int .u8 0], by kernel_rfl, by kernel_rfl⟩
theorem eg58 : Try.prog.eqGuardType Try.prog.depth 58 = false := by kernel_rfl
theorem tA59 : tyAgg Try.prog 59 = some true := by kernel_rfl
theorem tS59 : tySize Try.prog 59 = some 8 := by kernel_rfl
def z59 : AV := .arr 8 (List.replicate 8 0)
theorem zv59 : tyZero Try.prog 59 = some (.agg #[.int .u8 0, .int .u8 0, .int .u8 0, .int .u8 0, .int .u8 0, .int .u8 0, .int .u8 0, .int .u8 0]) := by kernel_rfl
theorem by59 : (Try.prog.info? 59).map (·.bytes) = some 8 := by kernel_rfl
theorem tZ59 : IsZero Try.prog 59 z59 := ⟨.agg #[.int .u8 0, .int .u8 0, .int .u8 0, .int .u8 0, .int .u8 0, .int .u8 0, .int .u8 0, .int .u8 0], by kernel_rfl, by kernel_rfl⟩
theorem eg59 : Try.prog.eqGuardType Try.prog.depth 59 = false := by kernel_rfl
theorem tA60 : tyAgg Try.prog 60 = some false := by kernel_rfl
theorem tS60 : tySize Try.prog 60 = some 1 := by kernel_rfl
def z60 : AV := .v .nilFunc
theorem zv60 : tyZero Try.prog 60 = some (.nilFunc) := by kernel_rfl
theorem by60 : (Try.prog.info? 60).map (·.bytes) = some 8 := by kernel_rfl
theorem tZ60 : IsZero Try.prog 60 z60 := ⟨.nilFunc, by kernel_rfl, by kernel_rfl⟩
theorem tA61 : tyAgg Try.prog 61 = some false := by kernel_rfl
theorem tS61 : tySize Try.prog 61 = some 1 := by kernel_rfl
def z61 : AV := .v (.pointer none)
theorem zv61 : tyZero Try.prog 61 = some (.pointer none) := by kernel_rfl
theorem by61 : (Try.prog.info? 61).map (·.bytes) = some 8 := by kernel_rfl
theorem tZ61 : IsZero Try.prog 61 z61 := ⟨.pointer none, by kernel_rfl, by kernel_rfl⟩
theorem tA62 : tyAgg Try.prog 62 = some false := by kernel_rfl
theorem tS62 : tySize Try.prog 62 = some 1 := by kernel_rfl
def z62 : AV := .v .nilFunc
theorem zv62 : tyZero Try.prog 62 = some (.nilFunc) := by kernel_rfl
theorem by62 : (Try.prog.info? 62).map (·.bytes) = some 8 := by kernel_rfl
theorem tZ62 : IsZero Try.prog 62 z62 := ⟨.nilFunc, by kernel_rfl, by kernel_rfl⟩
theorem tA63 : tyAgg Try.prog 63 = some false := by kernel_rfl
theorem tS63 : tySize Try.prog 63 = some 1 := by kernel_rfl
def z63 : AV := .v (.slice none 0 0)
theorem zv63 : tyZero Try.prog 63 = some (.slice none 0 0) := by kernel_rfl
theorem by63 : (Try.prog.info? 63).map (·.bytes) = some 24 := by kernel_rfl
theorem tZ63 : IsZero Try.prog 63 z63 := ⟨.slice none 0 0, by kernel_rfl, by kernel_rfl⟩
theorem tA64 : tyAgg Try.prog 64 = some false := by kernel_rfl
theorem tS64 : tySize Try.prog 64 = some 1 := by kernel_rfl
def z64 : AV := .v .nilFunc
theorem zv64 : tyZero Try.prog 64 = some (.nilFunc) := by kernel_rfl
theorem by64 : (Try.prog.info? 64).map (·.bytes) = some 8 := by kernel_rfl
theorem tZ64 : IsZero Try.prog 64 z64 := ⟨.nilFunc, by kernel_rfl, by kernel_rfl⟩
theorem tA65 : tyAgg Try.prog 65 = some false := by kernel_rfl
theorem tS65 : tySize Try.prog 65 = some 1 := by kernel_rfl
def z65 : AV := .v (.slice none 0 0)
theorem zv65 : tyZero Try.prog 65 = some (.slice none 0 0) := by kernel_rfl
theorem by65 : (Try.prog.info? 65).map (·.bytes) = some 24 := by kernel_rfl
theorem tZ65 : IsZero Try.prog 65 z65 := ⟨.slice none 0 0, by kernel_rfl, by kernel_rfl⟩
theorem tA66 : tyAgg Try.prog 66 = some false := by kernel_rfl
theorem tS66 : tySize Try.prog 66 = some 1 := by kernel_rfl
def z66 : AV := .v .nilFunc
theorem zv66 : tyZero Try.prog 66 = some (.nilFunc) := by kernel_rfl
theorem by66 : (Try.prog.info? 66).map (·.bytes) = some 8 := by kernel_rfl
theorem tZ66 : IsZero Try.prog 66 z66 := ⟨.nilFunc, by kernel_rfl, by kernel_rfl⟩
theorem tA67 : tyAgg Try.prog 67 = some true := by kernel_rfl
theorem tS67 : tySize Try.prog 67 = some 3 := by kernel_rfl
def z67 : AV := .agg [.v (.int .i64 0), .v (.int .i64 0), .v (.int .i64 0)]
theorem zv67 : tyZero Try.prog 67 = some (.agg #[.int .i64 0, .int .i64 0, .int .i64 0]) := by kernel_rfl
theorem by67 : (Try.prog.info? 67).map (·.bytes) = some 24 := by kernel_rfl
theorem tZ67 : IsZero Try.prog 67 z67 := ⟨.agg #[.int .i64 0, .int .i64 0, .int .i64 0], by kernel_rfl, by kernel_rfl⟩
theorem fa67_0 : fieldAt Try.prog 67 0 0 1 false := ⟨_, _, Try.underlying67, rfl, rfl, tS3, tA3⟩
theorem fa67_1 : fieldAt Try.prog 67 1 1 1 false := ⟨_, _, Try.underlying67, rfl, rfl, tS3, tA3⟩
theorem fa67_2 : fieldAt Try.prog 67 2 2 1 false := ⟨_, _, Try.underlying67, rfl, rfl, tS3, tA3⟩
theorem pl67 : places Try.prog (Program.fieldsOf Try.prog 67).toList = some [(0, 1), (1, 1), (2, 1)] := by kernel_rfl
theorem us67 : Try.prog.underlying 67 = some (.struct (Program.fieldsOf Try.prog 67)) := by kernel_rfl
theorem eg67 : Try.prog.eqGuardType Try.prog.depth 67 = false := by kernel_rfl
theorem tA68 : tyAgg Try.prog 68 = some true := by kernel_rfl
theorem tS68 : tySize Try.prog 68 = some 3 := by kernel_rfl
def z68 : AV := .agg [.v (.int .i64 0), .v (.int .i64 0), .v (.int .i64 0)]
theorem zv68 : tyZero Try.prog 68 = some (.agg #[.int .i64 0, .int .i64 0, .int .i64 0]) := by kernel_rfl
theorem by68 : (Try.prog.info? 68).map (·.bytes) = some 24 := by kernel_rfl
theorem tZ68 : IsZero Try.prog 68 z68 := ⟨.agg #[.int .i64 0, .int .i64 0, .int .i64 0], by kernel_rfl, by kernel_rfl⟩
theorem fa68_0 : fieldAt Try.prog 68 0 0 1 false := ⟨_, _, Try.underlying68, rfl, rfl, tS3, tA3⟩
theorem fa68_1 : fieldAt Try.prog 68 1 1 1 false := ⟨_, _, Try.underlying68, rfl, rfl, tS3, tA3⟩
theorem fa68_2 : fieldAt Try.prog 68 2 2 1 false := ⟨_, _, Try.underlying68, rfl, rfl, tS3, tA3⟩
theorem pl68 : places Try.prog (Program.fieldsOf Try.prog 68).toList = some [(0, 1), (1, 1), (2, 1)] := by kernel_rfl
theorem us68 : Try.prog.underlying 68 = some (.struct (Program.fieldsOf Try.prog 68)) := by kernel_rfl
theorem eg68 : Try.prog.eqGuardType Try.prog.depth 68 = false := by kernel_rfl
theorem tA70 : tyAgg Try.prog 70 = some false := by kernel_rfl
theorem tS70 : tySize Try.prog 70 = some 1 := by kernel_rfl
def z70 : AV := .v .nilFunc
theorem zv70 : tyZero Try.prog 70 = some (.nilFunc) := by kernel_rfl
theorem by70 : (Try.prog.info? 70).map (·.bytes) = some 8 := by kernel_rfl
theorem tZ70 : IsZero Try.prog 70 z70 := ⟨.nilFunc, by kernel_rfl, by kernel_rfl⟩
theorem tA71 : tyAgg Try.prog 71 = some false := by kernel_rfl
theorem tS71 : tySize Try.prog 71 = some 1 := by kernel_rfl
def z71 : AV := .v .nilFunc
theorem zv71 : tyZero Try.prog 71 = some (.nilFunc) := by kernel_rfl
theorem by71 : (Try.prog.info? 71).map (·.bytes) = some 8 := by kernel_rfl
theorem tZ71 : IsZero Try.prog 71 z71 := ⟨.nilFunc, by kernel_rfl, by kernel_rfl⟩
theorem tA72 : tyAgg Try.prog 72 = some true := by kernel_rfl
theorem tS72 : tySize Try.prog 72 = some 3 := by kernel_rfl
def z72 : AV := .agg [.v (.int .i64 0), .v (.int .i64 0), .v (.int .i64 0)]
theorem zv72 : tyZero Try.prog 72 = some (.agg #[.int .i64 0, .int .i64 0, .int .i64 0]) := by kernel_rfl
theorem by72 : (Try.prog.info? 72).map (·.bytes) = some 24 := by kernel_rfl
theorem tZ72 : IsZero Try.prog 72 z72 := ⟨.agg #[.int .i64 0, .int .i64 0, .int .i64 0], by kernel_rfl, by kernel_rfl⟩
theorem fa72_0 : fieldAt Try.prog 72 0 0 1 false := ⟨_, _, Try.underlying72, rfl, rfl, tS3, tA3⟩
theorem fa72_1 : fieldAt Try.prog 72 1 1 1 false := ⟨_, _, Try.underlying72, rfl, rfl, tS3, tA3⟩
theorem fa72_2 : fieldAt Try.prog 72 2 2 1 false := ⟨_, _, Try.underlying72, rfl, rfl, tS3, tA3⟩
theorem pl72 : places Try.prog (Program.fieldsOf Try.prog 72).toList = some [(0, 1), (1, 1), (2, 1)] := by kernel_rfl
theorem us72 : Try.prog.underlying 72 = some (.struct (Program.fieldsOf Try.prog 72)) := by kernel_rfl
theorem eg72 : Try.prog.eqGuardType Try.prog.depth 72 = false := by kernel_rfl
theorem tA73 : tyAgg Try.prog 73 = some true := by kernel_rfl
theorem tS73 : tySize Try.prog 73 = some 35 := by kernel_rfl
def z73 : AV := .agg [.arr 16 (List.replicate 16 0), .arr 8 (List.replicate 8 0), .arr 8 (List.replicate 8 0), .v (.string .empty), .v (.int .i64 0), .v (.int .i64 0)]
theorem zv73 : tyZero Try.prog 73 = some (.agg #[.int .u8 0, .int .u8 0, .int .u8 0, .int .u8 0, .int .u8 0, .int .u8 0, .int .u8 0, .int .u8 0, .int .u8 0, .int .u8 0, .int .u8 0, .int .u8 0, .int .u8 0, .int .u8 0, .int .u8 0, .int .u8 0, .int .u8 0, .int .u8 0, .int .u8 0, .int .u8 0, .int .u8 0, .int .u8 0, .int .u8 0, .int .u8 0, .int .u8 0, .int .u8 0, .int .u8 0, .int .u8 0, .int .u8 0, .int .u8 0, .int .u8 0, .int .u8 0, .string .empty, .int .i64 0, .int .i64 0]) := by kernel_rfl
theorem by73 : (Try.prog.info? 73).map (·.bytes) = some 64 := by kernel_rfl
theorem tZ73 : IsZero Try.prog 73 z73 := ⟨.agg #[.int .u8 0, .int .u8 0, .int .u8 0, .int .u8 0, .int .u8 0, .int .u8 0, .int .u8 0, .int .u8 0, .int .u8 0, .int .u8 0, .int .u8 0, .int .u8 0, .int .u8 0, .int .u8 0, .int .u8 0, .int .u8 0, .int .u8 0, .int .u8 0, .int .u8 0, .int .u8 0, .int .u8 0, .int .u8 0, .int .u8 0, .int .u8 0, .int .u8 0, .int .u8 0, .int .u8 0, .int .u8 0, .int .u8 0, .int .u8 0, .int .u8 0, .int .u8 0, .string .empty, .int .i64 0, .int .i64 0], by kernel_rfl, by kernel_rfl⟩
theorem fa73_0 : fieldAt Try.prog 73 0 0 16 true := ⟨_, _, Try.underlying73, rfl, rfl, tS57, tA57⟩
theorem fa73_1 : fieldAt Try.prog 73 1 16 8 true := ⟨_, _, Try.underlying73, rfl, rfl, tS59, tA59⟩
theorem fa73_2 : fieldAt Try.prog 73 2 24 8 true := ⟨_, _, Try.underlying73, rfl, rfl, tS59, tA59⟩
theorem fa73_3 : fieldAt Try.prog 73 3 32 1 false := ⟨_, _, Try.underlying73, rfl, rfl, tS9, tA9⟩
theorem fa73_4 : fieldAt Try.prog 73 4 33 1 false := ⟨_, _, Try.underlying73, rfl, rfl, tS3, tA3⟩
theorem fa73_5 : fieldAt Try.prog 73 5 34 1 false := ⟨_, _, Try.underlying73, rfl, rfl, tS3, tA3⟩
theorem pl73 : places Try.prog (Program.fieldsOf Try.prog 73).toList = some [(0, 16), (16, 8), (24, 8), (32, 1), (33, 1), (34, 1)] := by kernel_rfl
theorem us73 : Try.prog.underlying 73 = some (.struct (Program.fieldsOf Try.prog 73)) := by kernel_rfl
theorem eg73 : Try.prog.eqGuardType Try.prog.depth 73 = false := by kernel_rfl
theorem tA74 : tyAgg Try.prog 74 = some true := by kernel_rfl
theorem tS74 : tySize Try.prog 74 = some 35 := by kernel_rfl
def z74 : AV := .agg [.arr 16 (List.replicate 16 0), .arr 8 (List.replicate 8 0), .arr 8 (List.replicate 8 0), .v (.string .empty), .v (.int .i64 0), .v (.int .i64 0)]
theorem zv74 : tyZero Try.prog 74 = some (.agg #[.int .u8 0, .int .u8 0, .int .u8 0, .int .u8 0, .int .u8 0, .int .u8 0, .int .u8 0, .int .u8 0, .int .u8 0, .int .u8 0, .int .u8 0, .int .u8 0, .int .u8 0, .int .u8 0, .int .u8 0, .int .u8 0, .int .u8 0, .int .u8 0, .int .u8 0, .int .u8 0, .int .u8 0, .int .u8 0, .int .u8 0, .int .u8 0, .int .u8 0, .int .u8 0, .int .u8 0, .int .u8 0, .int .u8 0, .int .u8 0, .int .u8 0, .int .u8 0, .string .empty, .int .i64 0, .int .i64 0]) := by kernel_rfl
theorem by74 : (Try.prog.info? 74).map (·.bytes) = some 64 := by kernel_rfl
theorem tZ74 : IsZero Try.prog 74 z74 := ⟨.agg #[.int .u8 0, .int .u8 0, .int .u8 0, .int .u8 0, .int .u8 0, .int .u8 0, .int .u8 0, .int .u8 0, .int .u8 0, .int .u8 0, .int .u8 0, .int .u8 0, .int .u8 0, .int .u8 0, .int .u8 0, .int .u8 0, .int .u8 0, .int .u8 0, .int .u8 0, .int .u8 0, .int .u8 0, .int .u8 0, .int .u8 0, .int .u8 0, .int .u8 0, .int .u8 0, .int .u8 0, .int .u8 0, .int .u8 0, .int .u8 0, .int .u8 0, .int .u8 0, .string .empty, .int .i64 0, .int .i64 0], by kernel_rfl, by kernel_rfl⟩
theorem fa74_0 : fieldAt Try.prog 74 0 0 16 true := ⟨_, _, Try.underlying74, rfl, rfl, tS57, tA57⟩
theorem fa74_1 : fieldAt Try.prog 74 1 16 8 true := ⟨_, _, Try.underlying74, rfl, rfl, tS59, tA59⟩
theorem fa74_2 : fieldAt Try.prog 74 2 24 8 true := ⟨_, _, Try.underlying74, rfl, rfl, tS59, tA59⟩
theorem fa74_3 : fieldAt Try.prog 74 3 32 1 false := ⟨_, _, Try.underlying74, rfl, rfl, tS9, tA9⟩
theorem fa74_4 : fieldAt Try.prog 74 4 33 1 false := ⟨_, _, Try.underlying74, rfl, rfl, tS3, tA3⟩
theorem fa74_5 : fieldAt Try.prog 74 5 34 1 false := ⟨_, _, Try.underlying74, rfl, rfl, tS3, tA3⟩
theorem pl74 : places Try.prog (Program.fieldsOf Try.prog 74).toList = some [(0, 16), (16, 8), (24, 8), (32, 1), (33, 1), (34, 1)] := by kernel_rfl
theorem us74 : Try.prog.underlying 74 = some (.struct (Program.fieldsOf Try.prog 74)) := by kernel_rfl
theorem eg74 : Try.prog.eqGuardType Try.prog.depth 74 = false := by kernel_rfl
theorem tA75 : tyAgg Try.prog 75 = some false := by kernel_rfl
theorem tS75 : tySize Try.prog 75 = some 1 := by kernel_rfl
def z75 : AV := .v .nilFunc
theorem zv75 : tyZero Try.prog 75 = some (.nilFunc) := by kernel_rfl
theorem by75 : (Try.prog.info? 75).map (·.bytes) = some 8 := by kernel_rfl
theorem tZ75 : IsZero Try.prog 75 z75 := ⟨.nilFunc, by kernel_rfl, by kernel_rfl⟩
theorem tA76 : tyAgg Try.prog 76 = some false := by kernel_rfl
theorem tS76 : tySize Try.prog 76 = some 1 := by kernel_rfl
def z76 : AV := .v (.slice none 0 0)
theorem zv76 : tyZero Try.prog 76 = some (.slice none 0 0) := by kernel_rfl
theorem by76 : (Try.prog.info? 76).map (·.bytes) = some 24 := by kernel_rfl
theorem tZ76 : IsZero Try.prog 76 z76 := ⟨.slice none 0 0, by kernel_rfl, by kernel_rfl⟩
theorem tA77 : tyAgg Try.prog 77 = some false := by kernel_rfl
theorem tS77 : tySize Try.prog 77 = some 1 := by kernel_rfl
def z77 : AV := .v .nilFunc
theorem zv77 : tyZero Try.prog 77 = some (.nilFunc) := by kernel_rfl
theorem by77 : (Try.prog.info? 77).map (·.bytes) = some 8 := by kernel_rfl
theorem tZ77 : IsZero Try.prog 77 z77 := ⟨.nilFunc, by kernel_rfl, by kernel_rfl⟩
theorem tA78 : tyAgg Try.prog 78 = some false := by kernel_rfl
theorem tS78 : tySize Try.prog 78 = some 1 := by kernel_rfl
def z78 : AV := .v (.slice none 0 0)
theorem zv78 : tyZero Try.prog 78 = some (.slice none 0 0) := by kernel_rfl
theorem by78 : (Try.prog.info? 78).map (·.bytes) = some 24 := by kernel_rfl
theorem tZ78 : IsZero Try.prog 78 z78 := ⟨.slice none 0 0, by kernel_rfl, by kernel_rfl⟩
theorem tA79 : tyAgg Try.prog 79 = some false := by kernel_rfl
theorem tS79 : tySize Try.prog 79 = some 1 := by kernel_rfl
def z79 : AV := .v .nilFunc
theorem zv79 : tyZero Try.prog 79 = some (.nilFunc) := by kernel_rfl
theorem by79 : (Try.prog.info? 79).map (·.bytes) = some 8 := by kernel_rfl
theorem tZ79 : IsZero Try.prog 79 z79 := ⟨.nilFunc, by kernel_rfl, by kernel_rfl⟩
theorem tA80 : tyAgg Try.prog 80 = some false := by kernel_rfl
theorem tS80 : tySize Try.prog 80 = some 1 := by kernel_rfl
def z80 : AV := .v .nilFunc
theorem zv80 : tyZero Try.prog 80 = some (.nilFunc) := by kernel_rfl
theorem by80 : (Try.prog.info? 80).map (·.bytes) = some 8 := by kernel_rfl
theorem tZ80 : IsZero Try.prog 80 z80 := ⟨.nilFunc, by kernel_rfl, by kernel_rfl⟩
theorem tA81 : tyAgg Try.prog 81 = some false := by kernel_rfl
theorem tS81 : tySize Try.prog 81 = some 1 := by kernel_rfl
def z81 : AV := .v .nilFunc
theorem zv81 : tyZero Try.prog 81 = some (.nilFunc) := by kernel_rfl
theorem by81 : (Try.prog.info? 81).map (·.bytes) = some 8 := by kernel_rfl
theorem tZ81 : IsZero Try.prog 81 z81 := ⟨.nilFunc, by kernel_rfl, by kernel_rfl⟩
theorem tA82 : tyAgg Try.prog 82 = some false := by kernel_rfl
theorem tS82 : tySize Try.prog 82 = some 1 := by kernel_rfl
def z82 : AV := .v .nilFunc
theorem zv82 : tyZero Try.prog 82 = some (.nilFunc) := by kernel_rfl
theorem by82 : (Try.prog.info? 82).map (·.bytes) = some 8 := by kernel_rfl
theorem tZ82 : IsZero Try.prog 82 z82 := ⟨.nilFunc, by kernel_rfl, by kernel_rfl⟩
theorem tA83 : tyAgg Try.prog 83 = some false := by kernel_rfl
theorem tS83 : tySize Try.prog 83 = some 1 := by kernel_rfl
def z83 : AV := .v (.slice none 0 0)
theorem zv83 : tyZero Try.prog 83 = some (.slice none 0 0) := by kernel_rfl
theorem by83 : (Try.prog.info? 83).map (·.bytes) = some 24 := by kernel_rfl
theorem tZ83 : IsZero Try.prog 83 z83 := ⟨.slice none 0 0, by kernel_rfl, by kernel_rfl⟩
theorem tA84 : tyAgg Try.prog 84 = some false := by kernel_rfl
theorem tS84 : tySize Try.prog 84 = some 1 := by kernel_rfl
def z84 : AV := .v .nilFunc
theorem zv84 : tyZero Try.prog 84 = some (.nilFunc) := by kernel_rfl
theorem by84 : (Try.prog.info? 84).map (·.bytes) = some 8 := by kernel_rfl
theorem tZ84 : IsZero Try.prog 84 z84 := ⟨.nilFunc, by kernel_rfl, by kernel_rfl⟩
theorem tA85 : tyAgg Try.prog 85 = some true := by kernel_rfl
theorem tS85 : tySize Try.prog 85 = some 35 := by kernel_rfl
def z85 : AV := .agg [.arr 16 (List.replicate 16 0), .arr 8 (List.replicate 8 0), .arr 8 (List.replicate 8 0), .v (.string .empty), .v (.int .i64 0), .v (.int .i64 0)]
theorem zv85 : tyZero Try.prog 85 = some (.agg #[.int .u8 0, .int .u8 0, .int .u8 0, .int .u8 0, .int .u8 0, .int .u8 0, .int .u8 0, .int .u8 0, .int .u8 0, .int .u8 0, .int .u8 0, .int .u8 0, .int .u8 0, .int .u8 0, .int .u8 0, .int .u8 0, .int .u8 0, .int .u8 0, .int .u8 0, .int .u8 0, .int .u8 0, .int .u8 0, .int .u8 0, .int .u8 0, .int .u8 0, .int .u8 0, .int .u8 0, .int .u8 0, .int .u8 0, .int .u8 0, .int .u8 0, .int .u8 0, .string .empty, .int .i64 0, .int .i64 0]) := by kernel_rfl
theorem by85 : (Try.prog.info? 85).map (·.bytes) = some 64 := by kernel_rfl
theorem tZ85 : IsZero Try.prog 85 z85 := ⟨.agg #[.int .u8 0, .int .u8 0, .int .u8 0, .int .u8 0, .int .u8 0, .int .u8 0, .int .u8 0, .int .u8 0, .int .u8 0, .int .u8 0, .int .u8 0, .int .u8 0, .int .u8 0, .int .u8 0, .int .u8 0, .int .u8 0, .int .u8 0, .int .u8 0, .int .u8 0, .int .u8 0, .int .u8 0, .int .u8 0, .int .u8 0, .int .u8 0, .int .u8 0, .int .u8 0, .int .u8 0, .int .u8 0, .int .u8 0, .int .u8 0, .int .u8 0, .int .u8 0, .string .empty, .int .i64 0, .int .i64 0], by kernel_rfl, by kernel_rfl⟩
theorem fa85_0 : fieldAt Try.prog 85 0 0 16 true := ⟨_, _, Try.underlying85, rfl, rfl, tS57, tA57⟩
theorem fa85_1 : fieldAt Try.prog 85 1 16 8 true := ⟨_, _, Try.underlying85, rfl, rfl, tS59, tA59⟩
theorem fa85_2 : fieldAt Try.prog 85 2 24 8 true := ⟨_, _, Try.underlying85, rfl, rfl, tS59, tA59⟩
theorem fa85_3 : fieldAt Try.prog 85 3 32 1 false := ⟨_, _, Try.underlying85, rfl, rfl, tS9, tA9⟩
theorem fa85_4 : fieldAt Try.prog 85 4 33 1 false := ⟨_, _, Try.underlying85, rfl, rfl, tS3, tA3⟩
theorem fa85_5 : fieldAt Try.prog 85 5 34 1 false := ⟨_, _, Try.underlying85, rfl, rfl, tS3, tA3⟩
theorem pl85 : places Try.prog (Program.fieldsOf Try.prog 85).toList = some [(0, 16), (16, 8), (24, 8), (32, 1), (33, 1), (34, 1)] := by kernel_rfl
theorem us85 : Try.prog.underlying 85 = some (.struct (Program.fieldsOf Try.prog 85)) := by kernel_rfl
theorem eg85 : Try.prog.eqGuardType Try.prog.depth 85 = false := by kernel_rfl
theorem tA86 : tyAgg Try.prog 86 = some false := by kernel_rfl
theorem tS86 : tySize Try.prog 86 = some 1 := by kernel_rfl
def z86 : AV := .v .nilFunc
theorem zv86 : tyZero Try.prog 86 = some (.nilFunc) := by kernel_rfl
theorem by86 : (Try.prog.info? 86).map (·.bytes) = some 8 := by kernel_rfl
theorem tZ86 : IsZero Try.prog 86 z86 := ⟨.nilFunc, by kernel_rfl, by kernel_rfl⟩
theorem tA87 : tyAgg Try.prog 87 = some false := by kernel_rfl
theorem tS87 : tySize Try.prog 87 = some 1 := by kernel_rfl
def z87 : AV := .v .nilFunc
theorem zv87 : tyZero Try.prog 87 = some (.nilFunc) := by kernel_rfl
theorem by87 : (Try.prog.info? 87).map (·.bytes) = some 8 := by kernel_rfl
theorem tZ87 : IsZero Try.prog 87 z87 := ⟨.nilFunc, by kernel_rfl, by kernel_rfl⟩
theorem tA88 : tyAgg Try.prog 88 = some false := by kernel_rfl
theorem tS88 : tySize Try.prog 88 = some 1 := by kernel_rfl
def z88 : AV := .v .nilFunc
theorem zv88 : tyZero Try.prog 88 = some (.nilFunc) := by kernel_rfl
theorem by88 : (Try.prog.info? 88).map (·.bytes) = some 8 := by kernel_rfl
theorem tZ88 : IsZero Try.prog 88 z88 := ⟨.nilFunc, by kernel_rfl, by kernel_rfl⟩
theorem tA89 : tyAgg Try.prog 89 = some false := by kernel_rfl
theorem tS89 : tySize Try.prog 89 = some 1 := by kernel_rfl
def z89 : AV := .v .nilFunc
theorem zv89 : tyZero Try.prog 89 = some (.nilFunc) := by kernel_rfl
theorem by89 : (Try.prog.info? 89).map (·.bytes) = some 8 := by kernel_rfl
theorem tZ89 : IsZero Try.prog 89 z89 := ⟨.nilFunc, by kernel_rfl, by kernel_rfl⟩
theorem tA90 : tyAgg Try.prog 90 = some false := by kernel_rfl
theorem tS90 : tySize Try.prog 90 = some 1 := by kernel_rfl
def z90 : AV := .v (.slice none 0 0)
theorem zv90 : tyZero Try.prog 90 = some (.slice none 0 0) := by kernel_rfl
theorem by90 : (Try.prog.info? 90).map (·.bytes) = some 24 := by kernel_rfl
theorem tZ90 : IsZero Try.prog 90 z90 := ⟨.slice none 0 0, by kernel_rfl, by kernel_rfl⟩
theorem tA91 : tyAgg Try.prog 91 = some false := by kernel_rfl
theorem tS91 : tySize Try.prog 91 = some 1 := by kernel_rfl
def z91 : AV := .v (.slice none 0 0)
theorem zv91 : tyZero Try.prog 91 = some (.slice none 0 0) := by kernel_rfl
theorem by91 : (Try.prog.info? 91).map (·.bytes) = some 24 := by kernel_rfl
theorem tZ91 : IsZero Try.prog 91 z91 := ⟨.slice none 0 0, by kernel_rfl, by kernel_rfl⟩
theorem tA92 : tyAgg Try.prog 92 = some false := by kernel_rfl
theorem tS92 : tySize Try.prog 92 = some 1 := by kernel_rfl
def z92 : AV := .v (.slice none 0 0)
theorem zv92 : tyZero Try.prog 92 = some (.slice none 0 0) := by kernel_rfl
theorem by92 : (Try.prog.info? 92).map (·.bytes) = some 24 := by kernel_rfl
theorem tZ92 : IsZero Try.prog 92 z92 := ⟨.slice none 0 0, by kernel_rfl, by kernel_rfl⟩
theorem tA93 : tyAgg Try.prog 93 = some true := by kernel_rfl
theorem tS93 : tySize Try.prog 93 = some 2 := by kernel_rfl
def z93 : AV := .agg [.v (.int .i64 0), .v (.string .empty)]
theorem zv93 : tyZero Try.prog 93 = some (.agg #[.int .i64 0, .string .empty]) := by kernel_rfl
theorem by93 : (Try.prog.info? 93).map (·.bytes) = some 24 := by kernel_rfl
theorem tZ93 : IsZero Try.prog 93 z93 := ⟨.agg #[.int .i64 0, .string .empty], by kernel_rfl, by kernel_rfl⟩
theorem fa93_0 : fieldAt Try.prog 93 0 0 1 false := ⟨_, _, Try.underlying93, rfl, rfl, tS3, tA3⟩
theorem fa93_1 : fieldAt Try.prog 93 1 1 1 false := ⟨_, _, Try.underlying93, rfl, rfl, tS9, tA9⟩
theorem pl93 : places Try.prog (Program.fieldsOf Try.prog 93).toList = some [(0, 1), (1, 1)] := by kernel_rfl
theorem us93 : Try.prog.underlying 93 = some (.struct (Program.fieldsOf Try.prog 93)) := by kernel_rfl
theorem eg93 : Try.prog.eqGuardType Try.prog.depth 93 = false := by kernel_rfl
theorem tA94 : tyAgg Try.prog 94 = some true := by kernel_rfl
theorem tS94 : tySize Try.prog 94 = some 2 := by kernel_rfl
def z94 : AV := .agg [.v (.int .i64 0), .v (.string .empty)]
theorem zv94 : tyZero Try.prog 94 = some (.agg #[.int .i64 0, .string .empty]) := by kernel_rfl
theorem by94 : (Try.prog.info? 94).map (·.bytes) = some 24 := by kernel_rfl
theorem tZ94 : IsZero Try.prog 94 z94 := ⟨.agg #[.int .i64 0, .string .empty], by kernel_rfl, by kernel_rfl⟩
theorem fa94_0 : fieldAt Try.prog 94 0 0 1 false := ⟨_, _, Try.underlying94, rfl, rfl, tS3, tA3⟩
theorem fa94_1 : fieldAt Try.prog 94 1 1 1 false := ⟨_, _, Try.underlying94, rfl, rfl, tS9, tA9⟩
theorem pl94 : places Try.prog (Program.fieldsOf Try.prog 94).toList = some [(0, 1), (1, 1)] := by kernel_rfl
theorem us94 : Try.prog.underlying 94 = some (.struct (Program.fieldsOf Try.prog 94)) := by kernel_rfl
theorem eg94 : Try.prog.eqGuardType Try.prog.depth 94 = false := by kernel_rfl
theorem tA95 : tyAgg Try.prog 95 = some true := by kernel_rfl
theorem tS95 : tySize Try.prog 95 = some 42 := by kernel_rfl
def z95 : AV := .agg [.arr 16 (List.replicate 16 0), .arr 8 (List.replicate 8 0), .arr 8 (List.replicate 8 0), .v (.string .empty), .v (.string .empty), .v (.int .i64 0), .v (.int .u64 0), .v (.int .u64 0), .v (.slice none 0 0), .v (.slice none 0 0), .v (.slice none 0 0), .agg [.v (.int .i64 0), .v (.string .empty)]]
theorem zv95 : tyZero Try.prog 95 = some (.agg #[.int .u8 0, .int .u8 0, .int .u8 0, .int .u8 0, .int .u8 0, .int .u8 0, .int .u8 0, .int .u8 0, .int .u8 0, .int .u8 0, .int .u8 0, .int .u8 0, .int .u8 0, .int .u8 0, .int .u8 0, .int .u8 0, .int .u8 0, .int .u8 0, .int .u8 0, .int .u8 0, .int .u8 0, .int .u8 0, .int .u8 0, .int .u8 0, .int .u8 0, .int .u8 0, .int .u8 0, .int .u8 0, .int .u8 0, .int .u8 0, .int .u8 0, .int .u8 0, .string .empty, .string .empty, .int .i64 0, .int .u64 0, .int .u64 0, .slice none 0 0, .slice none 0 0, .slice none 0 0, .int .i64 0, .string .empty]) := by kernel_rfl
theorem by95 : (Try.prog.info? 95).map (·.bytes) = some 184 := by kernel_rfl
theorem tZ95 : IsZero Try.prog 95 z95 := ⟨.agg #[.int .u8 0, .int .u8 0, .int .u8 0, .int .u8 0, .int .u8 0, .int .u8 0, .int .u8 0, .int .u8 0, .int .u8 0, .int .u8 0, .int .u8 0, .int .u8 0, .int .u8 0, .int .u8 0, .int .u8 0, .int .u8 0, .int .u8 0, .int .u8 0, .int .u8 0, .int .u8 0, .int .u8 0, .int .u8 0, .int .u8 0, .int .u8 0, .int .u8 0, .int .u8 0, .int .u8 0, .int .u8 0, .int .u8 0, .int .u8 0, .int .u8 0, .int .u8 0, .string .empty, .string .empty, .int .i64 0, .int .u64 0, .int .u64 0, .slice none 0 0, .slice none 0 0, .slice none 0 0, .int .i64 0, .string .empty], by kernel_rfl, by kernel_rfl⟩
theorem fa95_0 : fieldAt Try.prog 95 0 0 16 true := ⟨_, _, Try.underlying95, rfl, rfl, tS57, tA57⟩
theorem fa95_1 : fieldAt Try.prog 95 1 16 8 true := ⟨_, _, Try.underlying95, rfl, rfl, tS59, tA59⟩
theorem fa95_2 : fieldAt Try.prog 95 2 24 8 true := ⟨_, _, Try.underlying95, rfl, rfl, tS59, tA59⟩
theorem fa95_3 : fieldAt Try.prog 95 3 32 1 false := ⟨_, _, Try.underlying95, rfl, rfl, tS9, tA9⟩
theorem fa95_4 : fieldAt Try.prog 95 4 33 1 false := ⟨_, _, Try.underlying95, rfl, rfl, tS9, tA9⟩
theorem fa95_5 : fieldAt Try.prog 95 5 34 1 false := ⟨_, _, Try.underlying95, rfl, rfl, tS3, tA3⟩
theorem fa95_6 : fieldAt Try.prog 95 6 35 1 false := ⟨_, _, Try.underlying95, rfl, rfl, tS22, tA22⟩
theorem fa95_7 : fieldAt Try.prog 95 7 36 1 false := ⟨_, _, Try.underlying95, rfl, rfl, tS22, tA22⟩
theorem fa95_8 : fieldAt Try.prog 95 8 37 1 false := ⟨_, _, Try.underlying95, rfl, rfl, tS90, tA90⟩
theorem fa95_9 : fieldAt Try.prog 95 9 38 1 false := ⟨_, _, Try.underlying95, rfl, rfl, tS91, tA91⟩
theorem fa95_10 : fieldAt Try.prog 95 10 39 1 false := ⟨_, _, Try.underlying95, rfl, rfl, tS92, tA92⟩
theorem fa95_11 : fieldAt Try.prog 95 11 40 2 true := ⟨_, _, Try.underlying95, rfl, rfl, tS94, tA94⟩
theorem pl95 : places Try.prog (Program.fieldsOf Try.prog 95).toList = some [(0, 16), (16, 8), (24, 8), (32, 1), (33, 1), (34, 1), (35, 1), (36, 1), (37, 1), (38, 1), (39, 1), (40, 2)] := by kernel_rfl
theorem us95 : Try.prog.underlying 95 = some (.struct (Program.fieldsOf Try.prog 95)) := by kernel_rfl
theorem eg95 : Try.prog.eqGuardType Try.prog.depth 95 = false := by kernel_rfl
theorem tA96 : tyAgg Try.prog 96 = some true := by kernel_rfl
theorem tS96 : tySize Try.prog 96 = some 42 := by kernel_rfl
def z96 : AV := .agg [.arr 16 (List.replicate 16 0), .arr 8 (List.replicate 8 0), .arr 8 (List.replicate 8 0), .v (.string .empty), .v (.string .empty), .v (.int .i64 0), .v (.int .u64 0), .v (.int .u64 0), .v (.slice none 0 0), .v (.slice none 0 0), .v (.slice none 0 0), .agg [.v (.int .i64 0), .v (.string .empty)]]
theorem zv96 : tyZero Try.prog 96 = some (.agg #[.int .u8 0, .int .u8 0, .int .u8 0, .int .u8 0, .int .u8 0, .int .u8 0, .int .u8 0, .int .u8 0, .int .u8 0, .int .u8 0, .int .u8 0, .int .u8 0, .int .u8 0, .int .u8 0, .int .u8 0, .int .u8 0, .int .u8 0, .int .u8 0, .int .u8 0, .int .u8 0, .int .u8 0, .int .u8 0, .int .u8 0, .int .u8 0, .int .u8 0, .int .u8 0, .int .u8 0, .int .u8 0, .int .u8 0, .int .u8 0, .int .u8 0, .int .u8 0, .string .empty, .string .empty, .int .i64 0, .int .u64 0, .int .u64 0, .slice none 0 0, .slice none 0 0, .slice none 0 0, .int .i64 0, .string .empty]) := by kernel_rfl
theorem by96 : (Try.prog.info? 96).map (·.bytes) = some 184 := by kernel_rfl
theorem tZ96 : IsZero Try.prog 96 z96 := ⟨.agg #[.int .u8 0, .int .u8 0, .int .u8 0, .int .u8 0, .int .u8 0, .int .u8 0, .int .u8 0, .int .u8 0, .int .u8 0, .int .u8 0, .int .u8 0, .int .u8 0, .int .u8 0, .int .u8 0, .int .u8 0, .int .u8 0, .int .u8 0, .int .u8 0, .int .u8 0, .int .u8 0, .int .u8 0, .int .u8 0, .int .u8 0, .int .u8 0, .int .u8 0, .int .u8 0, .int .u8 0, .int .u8 0, .int .u8 0, .int .u8 0, .int .u8 0, .int .u8 0, .string .empty, .string .empty, .int .i64 0, .int .u64 0, .int .u64 0, .slice none 0 0, .slice none 0 0, .slice none 0 0, .int .i64 0, .string .empty], by kernel_rfl, by kernel_rfl⟩
theorem fa96_0 : fieldAt Try.prog 96 0 0 16 true := ⟨_, _, Try.underlying96, rfl, rfl, tS57, tA57⟩
theorem fa96_1 : fieldAt Try.prog 96 1 16 8 true := ⟨_, _, Try.underlying96, rfl, rfl, tS59, tA59⟩
theorem fa96_2 : fieldAt Try.prog 96 2 24 8 true := ⟨_, _, Try.underlying96, rfl, rfl, tS59, tA59⟩
theorem fa96_3 : fieldAt Try.prog 96 3 32 1 false := ⟨_, _, Try.underlying96, rfl, rfl, tS9, tA9⟩
theorem fa96_4 : fieldAt Try.prog 96 4 33 1 false := ⟨_, _, Try.underlying96, rfl, rfl, tS9, tA9⟩
theorem fa96_5 : fieldAt Try.prog 96 5 34 1 false := ⟨_, _, Try.underlying96, rfl, rfl, tS3, tA3⟩
theorem fa96_6 : fieldAt Try.prog 96 6 35 1 false := ⟨_, _, Try.underlying96, rfl, rfl, tS22, tA22⟩
theorem fa96_7 : fieldAt Try.prog 96 7 36 1 false := ⟨_, _, Try.underlying96, rfl, rfl, tS22, tA22⟩
theorem fa96_8 : fieldAt Try.prog 96 8 37 1 false := ⟨_, _, Try.underlying96, rfl, rfl, tS90, tA90⟩
theorem fa96_9 : fieldAt Try.prog 96 9 38 1 false := ⟨_, _, Try.underlying96, rfl, rfl, tS91, tA91⟩
theorem fa96_10 : fieldAt Try.prog 96 10 39 1 false := ⟨_, _, Try.underlying96, rfl, rfl, tS92, tA92⟩
theorem fa96_11 : fieldAt Try.prog 96 11 40 2 true := ⟨_, _, Try.underlying96, rfl, rfl, tS94, tA94⟩
theorem pl96 : places Try.prog (Program.fieldsOf Try.prog 96).toList = some [(0, 16), (16, 8), (24, 8), (32, 1), (33, 1), (34, 1), (35, 1), (36, 1), (37, 1), (38, 1), (39, 1), (40, 2)] := by kernel_rfl
theorem us96 : Try.prog.underlying 96 = some (.struct (Program.fieldsOf Try.prog 96)) := by kernel_rfl
theorem eg96 : Try.prog.eqGuardType Try.prog.depth 96 = false := by kernel_rfl
theorem tA97 : tyAgg Try.prog 97 = some false := by kernel_rfl
theorem tS97 : tySize Try.prog 97 = some 1 := by kernel_rfl
def z97 : AV := .v .nilFunc
theorem zv97 : tyZero Try.prog 97 = some (.nilFunc) := by kernel_rfl
theorem by97 : (Try.prog.info? 97).map (·.bytes) = some 8 := by kernel_rfl
theorem tZ97 : IsZero Try.prog 97 z97 := ⟨.nilFunc, by kernel_rfl, by kernel_rfl⟩
theorem tA98 : tyAgg Try.prog 98 = some false := by kernel_rfl
theorem tS98 : tySize Try.prog 98 = some 1 := by kernel_rfl
def z98 : AV := .v (.slice none 0 0)
theorem zv98 : tyZero Try.prog 98 = some (.slice none 0 0) := by kernel_rfl
theorem by98 : (Try.prog.info? 98).map (·.bytes) = some 24 := by kernel_rfl
theorem tZ98 : IsZero Try.prog 98 z98 := ⟨.slice none 0 0, by kernel_rfl, by kernel_rfl⟩
theorem tA99 : tyAgg Try.prog 99 = some true := by kernel_rfl
theorem tS99 : tySize Try.prog 99 = some 6 := by kernel_rfl
def z99 : AV := .agg [.v (.int .u8 0), .v (.string .empty), .v (.int .i64 0), .v (.int .u64 0), .v (.slice none 0 0), .v (.slice none 0 0)]
theorem zv99 : tyZero Try.prog 99 = some (.agg #[.int .u8 0, .string .empty, .int .i64 0, .int .u64 0, .slice none 0 0, .slice none 0 0]) := by kernel_rfl
theorem by99 : (Try.prog.info? 99).map (·.bytes) = some 88 := by kernel_rfl
theorem tZ99 : IsZero Try.prog 99 z99 := ⟨.agg #[.int .u8 0, .string .empty, .int .i64 0, .int .u64 0, .slice none 0 0, .slice none 0 0], by kernel_rfl, by kernel_rfl⟩
theorem fa99_0 : fieldAt Try.prog 99 0 0 1 false := ⟨_, _, Try.underlying99, rfl, rfl, tS5, tA5⟩
theorem fa99_1 : fieldAt Try.prog 99 1 1 1 false := ⟨_, _, Try.underlying99, rfl, rfl, tS9, tA9⟩
theorem fa99_2 : fieldAt Try.prog 99 2 2 1 false := ⟨_, _, Try.underlying99, rfl, rfl, tS3, tA3⟩
theorem fa99_3 : fieldAt Try.prog 99 3 3 1 false := ⟨_, _, Try.underlying99, rfl, rfl, tS22, tA22⟩
theorem fa99_4 : fieldAt Try.prog 99 4 4 1 false := ⟨_, _, Try.underlying99, rfl, rfl, tS98, tA98⟩
theorem fa99_5 : fieldAt Try.prog 99 5 5 1 false := ⟨_, _, Try.underlying99, rfl, rfl, tS90, tA90⟩
theorem pl99 : places Try.prog (Program.fieldsOf Try.prog 99).toList = some [(0, 1), (1, 1), (2, 1), (3, 1), (4, 1), (5, 1)] := by kernel_rfl
theorem us99 : Try.prog.underlying 99 = some (.struct (Program.fieldsOf Try.prog 99)) := by kernel_rfl
theorem eg99 : Try.prog.eqGuardType Try.prog.depth 99 = false := by kernel_rfl
theorem tA100 : tyAgg Try.prog 100 = some true := by kernel_rfl
theorem tS100 : tySize Try.prog 100 = some 6 := by kernel_rfl
def z100 : AV := .agg [.v (.int .u8 0), .v (.string .empty), .v (.int .i64 0), .v (.int .u64 0), .v (.slice none 0 0), .v (.slice none 0 0)]
theorem zv100 : tyZero Try.prog 100 = some (.agg #[.int .u8 0, .string .empty, .int .i64 0, .int .u64 0, .slice none 0 0, .slice none 0 0]) := by kernel_rfl
theorem by100 : (Try.prog.info? 100).map (·.bytes) = some 88 := by kernel_rfl
theorem tZ100 : IsZero Try.prog 100 z100 := ⟨.agg #[.int .u8 0, .string .empty, .int .i64 0, .int .u64 0, .slice none 0 0, .slice none 0 0], by kernel_rfl, by kernel_rfl⟩
theorem fa100_0 : fieldAt Try.prog 100 0 0 1 false := ⟨_, _, Try.underlying100, rfl, rfl, tS5, tA5⟩
theorem fa100_1 : fieldAt Try.prog 100 1 1 1 false := ⟨_, _, Try.underlying100, rfl, rfl, tS9, tA9⟩
theorem fa100_2 : fieldAt Try.prog 100 2 2 1 false := ⟨_, _, Try.underlying100, rfl, rfl, tS3, tA3⟩
theorem fa100_3 : fieldAt Try.prog 100 3 3 1 false := ⟨_, _, Try.underlying100, rfl, rfl, tS22, tA22⟩
theorem fa100_4 : fieldAt Try.prog 100 4 4 1 false := ⟨_, _, Try.underlying100, rfl, rfl, tS98, tA98⟩
theorem fa100_5 : fieldAt Try.prog 100 5 5 1 false := ⟨_, _, Try.underlying100, rfl, rfl, tS90, tA90⟩
theorem pl100 : places Try.prog (Program.fieldsOf Try.prog 100).toList = some [(0, 1), (1, 1), (2, 1), (3, 1), (4, 1), (5, 1)] := by kernel_rfl
theorem us100 : Try.prog.underlying 100 = some (.struct (Program.fieldsOf Try.prog 100)) := by kernel_rfl
theorem eg100 : Try.prog.eqGuardType Try.prog.depth 100 = false := by kernel_rfl
theorem tA101 : tyAgg Try.prog 101 = some false := by kernel_rfl
theorem tS101 : tySize Try.prog 101 = some 1 := by kernel_rfl
def z101 : AV := .v .nilFunc
theorem zv101 : tyZero Try.prog 101 = some (.nilFunc) := by kernel_rfl
theorem by101 : (Try.prog.info? 101).map (·.bytes) = some 8 := by kernel_rfl
theorem tZ101 : IsZero Try.prog 101 z101 := ⟨.nilFunc, by kernel_rfl, by kernel_rfl⟩
theorem tA102 : tyAgg Try.prog 102 = some false := by kernel_rfl
theorem tS102 : tySize Try.prog 102 = some 1 := by kernel_rfl
def z102 : AV := .v .nilFunc
theorem zv102 : tyZero Try.prog 102 = some (.nilFunc) := by kernel_rfl
theorem by102 : (Try.prog.info? 102).map (·.bytes) = some 8 := by kernel_rfl
theorem tZ102 : IsZero Try.prog 102 z102 := ⟨.nilFunc, by kernel_rfl, by kernel_rfl⟩
theorem tA103 : tyAgg Try.prog 103 = some false := by kernel_rfl
theorem tS103 : tySize Try.prog 103 = some 1 := by kernel_rfl
def z103 : AV := .v .nilFunc
theorem zv103 : tyZero Try.prog 103 = some (.nilFunc) := by kernel_rfl
theorem by103 : (Try.prog.info? 103).map (·.bytes) = some 8 := by kernel_rfl
theorem tZ103 : IsZero Try.prog 103 z103 := ⟨.nilFunc, by kernel_rfl, by kernel_rfl⟩
theorem tA104 : tyAgg Try.prog 104 = some true := by kernel_rfl
theorem tS104 : tySize Try.prog 104 = some 7 := by kernel_rfl
def z104 : AV := .agg [.v (.string .empty), .agg [.v (.int .u8 0), .v (.string .empty), .v (.int .i64 0), .v (.int .u64 0), .v (.slice none 0 0), .v (.slice none 0 0)]]
theorem zv104 : tyZero Try.prog 104 = some (.agg #[.string .empty, .int .u8 0, .string .empty, .int .i64 0, .int .u64 0, .slice none 0 0, .slice none 0 0]) := by kernel_rfl
theorem by104 : (Try.prog.info? 104).map (·.bytes) = some 104 := by kernel_rfl
theorem tZ104 : IsZero Try.prog 104 z104 := ⟨.agg #[.string .empty, .int .u8 0, .string .empty, .int .i64 0, .int .u64 0, .slice none 0 0, .slice none 0 0], by kernel_rfl, by kernel_rfl⟩
theorem fa104_0 : fieldAt Try.prog 104 0 0 1 false := ⟨_, _, Try.underlying104, rfl, rfl, tS9, tA9⟩
theorem fa104_1 : fieldAt Try.prog 104 1 1 6 true := ⟨_, _, Try.underlying104, rfl, rfl, tS100, tA100⟩
theorem pl104 : places Try.prog (Program.fieldsOf Try.prog 104).toList = some [(0, 1), (1, 6)] := by kernel_rfl
theorem us104 : Try.prog.underlying 104 = some (.struct (Program.fieldsOf Try.prog 104)) := by kernel_rfl
theorem eg104 : Try.prog.eqGuardType Try.prog.depth 104 = false := by kernel_rfl
theorem tA105 : tyAgg Try.prog 105 = some true := by kernel_rfl
theorem tS105 : tySize Try.prog 105 = some 7 := by kernel_rfl
def z105 : AV := .agg [.v (.string .empty), .agg [.v (.int .u8 0), .v (.string .empty), .v (.int .i64 0), .v (.int .u64 0), .v (.slice none 0 0), .v (.slice none 0 0)]]
theorem zv105 : tyZero Try.prog 105 = some (.agg #[.string .empty, .int .u8 0, .string .empty, .int .i64 0, .int .u64 0, .slice none 0 0, .slice none 0 0]) := by kernel_rfl
theorem by105 : (Try.prog.info? 105).map (·.bytes) = some 104 := by kernel_rfl
theorem tZ105 : IsZero Try.prog 105 z105 := ⟨.agg #[.string .empty, .int .u8 0, .string .empty, .int .i64 0, .int .u64 0, .slice none 0 0, .slice none 0 0], by kernel_rfl, by kernel_rfl⟩
theorem fa105_0 : fieldAt Try.prog 105 0 0 1 false := ⟨_, _, Try.underlying105, rfl, rfl, tS9, tA9⟩
theorem fa105_1 : fieldAt Try.prog 105 1 1 6 true := ⟨_, _, Try.underlying105, rfl, rfl, tS100, tA100⟩
theorem pl105 : places Try.prog (Program.fieldsOf Try.prog 105).toList = some [(0, 1), (1, 6)] := by kernel_rfl
theorem us105 : Try.prog.underlying 105 = some (.struct (Program.fieldsOf Try.prog 105)) := by kernel_rfl
theorem eg105 : Try.prog.eqGuardType Try.prog.depth 105 = false := by kernel_rfl
theorem tA106 : tyAgg Try.prog 106 = some false := by kernel_rfl
theorem tS106 : tySize Try.prog 106 = some 1 := by kernel_rfl
def z106 : AV := .v .nilFunc
theorem zv106 : tyZero Try.prog 106 = some (.nilFunc) := by kernel_rfl
theorem by106 : (Try.prog.info? 106).map (·.bytes) = some 8 := by kernel_rfl
theorem tZ106 : IsZero Try.prog 106 z106 := ⟨.nilFunc, by kernel_rfl, by kernel_rfl⟩
theorem tA107 : tyAgg Try.prog 107 = some false := by kernel_rfl
theorem tS107 : tySize Try.prog 107 = some 1 := by kernel_rfl
def z107 : AV := .v .nilFunc
theorem zv107 : tyZero Try.prog 107 = some (.nilFunc) := by kernel_rfl
theorem by107 : (Try.prog.info? 107).map (·.bytes) = some 8 := by kernel_rfl
theorem tZ107 : IsZero Try.prog 107 z107 := ⟨.nilFunc, by kernel_rfl, by kernel_rfl⟩
theorem tA108 : tyAgg Try.prog 108 = some false := by kernel_rfl
theorem tS108 : tySize Try.prog 108 = some 1 := by kernel_rfl
def z108 : AV := .v .nilFunc
theorem zv108 : tyZero Try.prog 108 = some (.nilFunc) := by kernel_rfl
theorem by108 : (Try.prog.info? 108).map (·.bytes) = some 8 := by kernel_rfl
theorem tZ108 : IsZero Try.prog 108 z108 := ⟨.nilFunc, by kernel_rfl, by kernel_rfl⟩
theorem tA109 : tyAgg Try.prog 109 = some false := by kernel_rfl
theorem tS109 : tySize Try.prog 109 = some 1 := by kernel_rfl
def z109 : AV := .v .nilFunc
theorem zv109 : tyZero Try.prog 109 = some (.nilFunc) := by kernel_rfl
theorem by109 : (Try.prog.info? 109).map (·.bytes) = some 8 := by kernel_rfl
theorem tZ109 : IsZero Try.prog 109 z109 := ⟨.nilFunc, by kernel_rfl, by kernel_rfl⟩
theorem tA110 : tyAgg Try.prog 110 = some false := by kernel_rfl
theorem tS110 : tySize Try.prog 110 = some 1 := by kernel_rfl
def z110 : AV := .v .nilFunc
theorem zv110 : tyZero Try.prog 110 = some (.nilFunc) := by kernel_rfl
theorem by110 : (Try.prog.info? 110).map (·.bytes) = some 8 := by kernel_rfl
theorem tZ110 : IsZero Try.prog 110 z110 := ⟨.nilFunc, by kernel_rfl, by kernel_rfl⟩
theorem tA111 : tyAgg Try.prog 111 = some false := by kernel_rfl
theorem tS111 : tySize Try.prog 111 = some 1 := by kernel_rfl
def z111 : AV := .v .nilFunc
theorem zv111 : tyZero Try.prog 111 = some (.nilFunc) := by kernel_rfl
theorem by111 : (Try.prog.info? 111).map (·.bytes) = some 8 := by kernel_rfl
theorem tZ111 : IsZero Try.prog 111 z111 := ⟨.nilFunc, by kernel_rfl, by kernel_rfl⟩
theorem tA112 : tyAgg Try.prog 112 = some false := by kernel_rfl
theorem tS112 : tySize Try.prog 112 = some 1 := by kernel_rfl
def z112 : AV := .v .nilFunc
theorem zv112 : tyZero Try.prog 112 = some (.nilFunc) := by kernel_rfl
theorem by112 : (Try.prog.info? 112).map (·.bytes) = some 8 := by kernel_rfl
theorem tZ112 : IsZero Try.prog 112 z112 := ⟨.nilFunc, by kernel_rfl, by kernel_rfl⟩
theorem tA113 : tyAgg Try.prog 113 = some false := by kernel_rfl
theorem tS113 : tySize Try.prog 113 = some 1 := by kernel_rfl
def z113 : AV := .v .nilFunc
theorem zv113 : tyZero Try.prog 113 = some (.nilFunc) := by kernel_rfl
theorem by113 : (Try.prog.info? 113).map (·.bytes) = some 8 := by kernel_rfl
theorem tZ113 : IsZero Try.prog 113 z113 := ⟨.nilFunc, by kernel_rfl, by kernel_rfl⟩
theorem tA114 : tyAgg Try.prog 114 = some false := by kernel_rfl
theorem tS114 : tySize Try.prog 114 = some 1 := by kernel_rfl
def z114 : AV := .v .nilFunc
theorem zv114 : tyZero Try.prog 114 = some (.nilFunc) := by kernel_rfl
theorem by114 : (Try.prog.info? 114).map (·.bytes) = some 8 := by kernel_rfl
theorem tZ114 : IsZero Try.prog 114 z114 := ⟨.nilFunc, by kernel_rfl, by kernel_rfl⟩
theorem tA115 : tyAgg Try.prog 115 = some false := by kernel_rfl
theorem tS115 : tySize Try.prog 115 = some 1 := by kernel_rfl
def z115 : AV := .v .nilFunc
theorem zv115 : tyZero Try.prog 115 = some (.nilFunc) := by kernel_rfl
theorem by115 : (Try.prog.info? 115).map (·.bytes) = some 8 := by kernel_rfl
theorem tZ115 : IsZero Try.prog 115 z115 := ⟨.nilFunc, by kernel_rfl, by kernel_rfl⟩
theorem tA116 : tyAgg Try.prog 116 = some false := by kernel_rfl
theorem tS116 : tySize Try.prog 116 = some 1 := by kernel_rfl
def z116 : AV := .v .nilFunc
theorem zv116 : tyZero Try.prog 116 = some (.nilFunc) := by kernel_rfl
theorem by116 : (Try.prog.info? 116).map (·.bytes) = some 8 := by kernel_rfl
theorem tZ116 : IsZero Try.prog 116 z116 := ⟨.nilFunc, by kernel_rfl, by kernel_rfl⟩
theorem tA117 : tyAgg Try.prog 117 = some false := by kernel_rfl
theorem tS117 : tySize Try.prog 117 = some 1 := by kernel_rfl
def z117 : AV := .v .nilFunc
theorem zv117 : tyZero Try.prog 117 = some (.nilFunc) := by kernel_rfl
theorem by117 : (Try.prog.info? 117).map (·.bytes) = some 8 := by kernel_rfl
theorem tZ117 : IsZero Try.prog 117 z117 := ⟨.nilFunc, by kernel_rfl, by kernel_rfl⟩
theorem tA118 : tyAgg Try.prog 118 = some false := by kernel_rfl
theorem tS118 : tySize Try.prog 118 = some 1 := by kernel_rfl
def z118 : AV := .v .nilFunc
theorem zv118 : tyZero Try.prog 118 = some (.nilFunc) := by kernel_rfl
theorem by118 : (Try.prog.info? 118).map (·.bytes) = some 8 := by kernel_rfl
theorem tZ118 : IsZero Try.prog 118 z118 := ⟨.nilFunc, by kernel_rfl, by kernel_rfl⟩
theorem tA119 : tyAgg Try.prog 119 = some false := by kernel_rfl
theorem tS119 : tySize Try.prog 119 = some 1 := by kernel_rfl
def z119 : AV := .v .nilFunc
theorem zv119 : tyZero Try.prog 119 = some (.nilFunc) := by kernel_rfl
theorem by119 : (Try.prog.info? 119).map (·.bytes) = some 8 := by kernel_rfl
theorem tZ119 : IsZero Try.prog 119 z119 := ⟨.nilFunc, by kernel_rfl, by kernel_rfl⟩
theorem tA120 : tyAgg Try.prog 120 = some false := by kernel_rfl
theorem tS120 : tySize Try.prog 120 = some 1 := by kernel_rfl
def z120 : AV := .v (.int .u64 0)
theorem zv120 : tyZero Try.prog 120 = some (.int .u64 0) := by kernel_rfl
theorem by120 : (Try.prog.info? 120).map (·.bytes) = some 8 := by kernel_rfl
theorem tZ120 : IsZero Try.prog 120 z120 := ⟨.int .u64 0, by kernel_rfl, by kernel_rfl⟩
theorem tA121 : tyAgg Try.prog 121 = some false := by kernel_rfl
theorem tS121 : tySize Try.prog 121 = some 1 := by kernel_rfl
def z121 : AV := .v .nilFunc
theorem zv121 : tyZero Try.prog 121 = some (.nilFunc) := by kernel_rfl
theorem by121 : (Try.prog.info? 121).map (·.bytes) = some 8 := by kernel_rfl
theorem tZ121 : IsZero Try.prog 121 z121 := ⟨.nilFunc, by kernel_rfl, by kernel_rfl⟩
theorem tA123 : tyAgg Try.prog 123 = some false := by kernel_rfl
theorem tS123 : tySize Try.prog 123 = some 1 := by kernel_rfl
def z123 : AV := .v .nilFunc
theorem zv123 : tyZero Try.prog 123 = some (.nilFunc) := by kernel_rfl
theorem by123 : (Try.prog.info? 123).map (·.bytes) = some 8 := by kernel_rfl
theorem tZ123 : IsZero Try.prog 123 z123 := ⟨.nilFunc, by kernel_rfl, by kernel_rfl⟩
theorem tA124 : tyAgg Try.prog 124 = some false := by kernel_rfl
theorem tS124 : tySize Try.prog 124 = some 1 := by kernel_rfl
def z124 : AV := .v .nilFunc
theorem zv124 : tyZero Try.prog 124 = some (.nilFunc) := by kernel_rfl
theorem by124 : (Try.prog.info? 124).map (·.bytes) = some 8 := by kernel_rfl
theorem tZ124 : IsZero Try.prog 124 z124 := ⟨.nilFunc, by kernel_rfl, by kernel_rfl⟩
theorem tA125 : tyAgg Try.prog 125 = some false := by kernel_rfl
theorem tS125 : tySize Try.prog 125 = some 1 := by kernel_rfl
def z125 : AV := .v (.slice none 0 0)
theorem zv125 : tyZero Try.prog 125 = some (.slice none 0 0) := by kernel_rfl
theorem by125 : (Try.prog.info? 125).map (·.bytes) = some 24 := by kernel_rfl
theorem tZ125 : IsZero Try.prog 125 z125 := ⟨.slice none 0 0, by kernel_rfl, by kernel_rfl⟩
theorem tA126 : tyAgg Try.prog 126 = some true := by kernel_rfl
theorem tS126 : tySize Try.prog 126 = some 2 := by kernel_rfl
def z126 : AV := .agg [.v (.slice none 0 0), .v (.slice none 0 0)]
theorem zv126 : tyZero Try.prog 126 = some (.agg #[.slice none 0 0, .slice none 0 0]) := by kernel_rfl
theorem by126 : (Try.prog.info? 126).map (·.bytes) = some 48 := by kernel_rfl
theorem tZ126 : IsZero Try.prog 126 z126 := ⟨.agg #[.slice none 0 0, .slice none 0 0], by kernel_rfl, by kernel_rfl⟩
theorem fa126_0 : fieldAt Try.prog 126 0 0 1 false := ⟨_, _, Try.underlying126, rfl, rfl, tS90, tA90⟩
theorem fa126_1 : fieldAt Try.prog 126 1 1 1 false := ⟨_, _, Try.underlying126, rfl, rfl, tS125, tA125⟩
theorem pl126 : places Try.prog (Program.fieldsOf Try.prog 126).toList = some [(0, 1), (1, 1)] := by kernel_rfl
theorem us126 : Try.prog.underlying 126 = some (.struct (Program.fieldsOf Try.prog 126)) := by kernel_rfl
theorem eg126 : Try.prog.eqGuardType Try.prog.depth 126 = false := by kernel_rfl
theorem tA127 : tyAgg Try.prog 127 = some true := by kernel_rfl
theorem tS127 : tySize Try.prog 127 = some 2 := by kernel_rfl
def z127 : AV := .agg [.v (.slice none 0 0), .v (.slice none 0 0)]
theorem zv127 : tyZero Try.prog 127 = some (.agg #[.slice none 0 0, .slice none 0 0]) := by kernel_rfl
theorem by127 : (Try.prog.info? 127).map (·.bytes) = some 48 := by kernel_rfl
theorem tZ127 : IsZero Try.prog 127 z127 := ⟨.agg #[.slice none 0 0, .slice none 0 0], by kernel_rfl, by kernel_rfl⟩
theorem fa127_0 : fieldAt Try.prog 127 0 0 1 false := ⟨_, _, Try.underlying127, rfl, rfl, tS90, tA90⟩
theorem fa127_1 : fieldAt Try.prog 127 1 1 1 false := ⟨_, _, Try.underlying127, rfl, rfl, tS125, tA125⟩
theorem pl127 : places Try.prog (Program.fieldsOf Try.prog 127).toList = some [(0, 1), (1, 1)] := by kernel_rfl
theorem us127 : Try.prog.underlying 127 = some (.struct (Program.fieldsOf Try.prog 127)) := by kernel_rfl
theorem eg127 : Try.prog.eqGuardType Try.prog.depth 127 = false := by kernel_rfl
theorem tA128 : tyAgg Try.prog 128 = some false := by kernel_rfl
theorem tS128 : tySize Try.prog 128 = some 1 := by kernel_rfl
def z128 : AV := .v (.slice none 0 0)
theorem zv128 : tyZero Try.prog 128 = some (.slice none 0 0) := by kernel_rfl
theorem by128 : (Try.prog.info? 128).map (·.bytes) = some 24 := by kernel_rfl
theorem tZ128 : IsZero Try.prog 128 z128 := ⟨.slice none 0 0, by kernel_rfl, by kernel_rfl⟩
theorem tA129 : tyAgg Try.prog 129 = some true := by kernel_rfl
theorem tS129 : tySize Try.prog 129 = some 3 := by kernel_rfl
def z129 : AV := .agg [.v (.string .empty), .v (.string .empty), .v (.slice none 0 0)]
theorem zv129 : tyZero Try.prog 129 = some (.agg #[.string .empty, .string .empty, .slice none 0 0]) := by kernel_rfl
theorem by129 : (Try.prog.info? 129).map (·.bytes) = some 56 := by kernel_rfl
theorem tZ129 : IsZero Try.prog 129 z129 := ⟨.agg #[.string .empty, .string .empty, .slice none 0 0], by kernel_rfl, by kernel_rfl⟩
theorem fa129_0 : fieldAt Try.prog 129 0 0 1 false := ⟨_, _, Try.underlying129, rfl, rfl, tS9, tA9⟩
theorem fa129_1 : fieldAt Try.prog 129 1 1 1 false := ⟨_, _, Try.underlying129, rfl, rfl, tS9, tA9⟩
theorem fa129_2 : fieldAt Try.prog 129 2 2 1 false := ⟨_, _, Try.underlying129, rfl, rfl, tS128, tA128⟩
theorem pl129 : places Try.prog (Program.fieldsOf Try.prog 129).toList = some [(0, 1), (1, 1), (2, 1)] := by kernel_rfl
theorem us129 : Try.prog.underlying 129 = some (.struct (Program.fieldsOf Try.prog 129)) := by kernel_rfl
theorem eg129 : Try.prog.eqGuardType Try.prog.depth 129 = false := by kernel_rfl
theorem tA130 : tyAgg Try.prog 130 = some true := by kernel_rfl
theorem tS130 : tySize Try.prog 130 = some 3 := by kernel_rfl
def z130 : AV := .agg [.v (.string .empty), .v (.string .empty), .v (.slice none 0 0)]
theorem zv130 : tyZero Try.prog 130 = some (.agg #[.string .empty, .string .empty, .slice none 0 0]) := by kernel_rfl
theorem by130 : (Try.prog.info? 130).map (·.bytes) = some 56 := by kernel_rfl
theorem tZ130 : IsZero Try.prog 130 z130 := ⟨.agg #[.string .empty, .string .empty, .slice none 0 0], by kernel_rfl, by kernel_rfl⟩
theorem fa130_0 : fieldAt Try.prog 130 0 0 1 false := ⟨_, _, Try.underlying130, rfl, rfl, tS9, tA9⟩
theorem fa130_1 : fieldAt Try.prog 130 1 1 1 false := ⟨_, _, Try.underlying130, rfl, rfl, tS9, tA9⟩
theorem fa130_2 : fieldAt Try.prog 130 2 2 1 false := ⟨_, _, Try.underlying130, rfl, rfl, tS128, tA128⟩
theorem pl130 : places Try.prog (Program.fieldsOf Try.prog 130).toList = some [(0, 1), (1, 1), (2, 1)] := by kernel_rfl
theorem us130 : Try.prog.underlying 130 = some (.struct (Program.fieldsOf Try.prog 130)) := by kernel_rfl
theorem eg130 : Try.prog.eqGuardType Try.prog.depth 130 = false := by kernel_rfl
theorem tA131 : tyAgg Try.prog 131 = some false := by kernel_rfl
theorem tS131 : tySize Try.prog 131 = some 1 := by kernel_rfl
def z131 : AV := .v .nilFunc
theorem zv131 : tyZero Try.prog 131 = some (.nilFunc) := by kernel_rfl
theorem by131 : (Try.prog.info? 131).map (·.bytes) = some 8 := by kernel_rfl
theorem tZ131 : IsZero Try.prog 131 z131 := ⟨.nilFunc, by kernel_rfl, by kernel_rfl⟩
theorem tA132 : tyAgg Try.prog 132 = some false := by kernel_rfl
theorem tS132 : tySize Try.prog 132 = some 1 := by kernel_rfl
def z132 : AV := .v .nilFunc
theorem zv132 : tyZero Try.prog 132 = some (.nilFunc) := by kernel_rfl
theorem by132 : (Try.prog.info? 132).map (·.bytes) = some 8 := by kernel_rfl
theorem tZ132 : IsZero Try.prog 132 z132 := ⟨.nilFunc, by kernel_rfl, by kernel_rfl⟩
theorem tA133 : tyAgg Try.prog 133 = some false := by kernel_rfl
theorem tS133 : tySize Try.prog 133 = some 1 := by kernel_rfl
def z133 : AV := .v .nilFunc
theorem zv133 : tyZero Try.prog 133 = some (.nilFunc) := by kernel_rfl
theorem by133 : (Try.prog.info? 133).map (·.bytes) = some 8 := by kernel_rfl
theorem tZ133 : IsZero Try.prog 133 z133 := ⟨.nilFunc, by kernel_rfl, by kernel_rfl⟩
theorem tA134 : tyAgg Try.prog 134 = some false := by kernel_rfl
theorem tS134 : tySize Try.prog 134 = some 1 := by kernel_rfl
def z134 : AV := .v (.pointer none)
theorem zv134 : tyZero Try.prog 134 = some (.pointer none) := by kernel_rfl
theorem by134 : (Try.prog.info? 134).map (·.bytes) = some 8 := by kernel_rfl
theorem tZ134 : IsZero Try.prog 134 z134 := ⟨.pointer none, by kernel_rfl, by kernel_rfl⟩
theorem tA135 : tyAgg Try.prog 135 = some false := by kernel_rfl
theorem tS135 : tySize Try.prog 135 = some 1 := by kernel_rfl
def z135 : AV := .v .nilFunc
theorem zv135 : tyZero Try.prog 135 = some (.nilFunc) := by kernel_rfl
theorem by135 : (Try.prog.info? 135).map (·.bytes) = some 8 := by kernel_rfl
theorem tZ135 : IsZero Try.prog 135 z135 := ⟨.nilFunc, by kernel_rfl, by kernel_rfl⟩
theorem tA136 : tyAgg Try.prog 136 = some false := by kernel_rfl
theorem tS136 : tySize Try.prog 136 = some 1 := by kernel_rfl
def z136 : AV := .v (.map none)
theorem zv136 : tyZero Try.prog 136 = some (.map none) := by kernel_rfl
theorem by136 : (Try.prog.info? 136).map (·.bytes) = some 8 := by kernel_rfl
theorem tZ136 : IsZero Try.prog 136 z136 := ⟨.map none, by kernel_rfl, by kernel_rfl⟩
theorem tA137 : tyAgg Try.prog 137 = some true := by kernel_rfl
theorem tS137 : tySize Try.prog 137 = some 5 := by kernel_rfl
def z137 : AV := .agg [.v (.slice none 0 0), .v (.slice none 0 0), .v (.slice none 0 0), .v (.pointer none), .v (.map none)]
theorem zv137 : tyZero Try.prog 137 = some (.agg #[.slice none 0 0, .slice none 0 0, .slice none 0 0, .pointer none, .map none]) := by kernel_rfl
theorem by137 : (Try.prog.info? 137).map (·.bytes) = some 88 := by kernel_rfl
theorem tZ137 : IsZero Try.prog 137 z137 := ⟨.agg #[.slice none 0 0, .slice none 0 0, .slice none 0 0, .pointer none, .map none], by kernel_rfl, by kernel_rfl⟩
theorem fa137_0 : fieldAt Try.prog 137 0 0 1 false := ⟨_, _, Try.underlying137, rfl, rfl, tS76, tA76⟩
theorem fa137_1 : fieldAt Try.prog 137 1 1 1 false := ⟨_, _, Try.underlying137, rfl, rfl, tS76, tA76⟩
theorem fa137_2 : fieldAt Try.prog 137 2 2 1 false := ⟨_, _, Try.underlying137, rfl, rfl, tS76, tA76⟩
theorem fa137_3 : fieldAt Try.prog 137 3 3 1 false := ⟨_, _, Try.underlying137, rfl, rfl, tS134, tA134⟩
theorem fa137_4 : fieldAt Try.prog 137 4 4 1 false := ⟨_, _, Try.underlying137, rfl, rfl, tS136, tA136⟩
theorem pl137 : places Try.prog (Program.fieldsOf Try.prog 137).toList = some [(0, 1), (1, 1), (2, 1), (3, 1), (4, 1)] := by kernel_rfl
theorem us137 : Try.prog.underlying 137 = some (.struct (Program.fieldsOf Try.prog 137)) := by kernel_rfl
theorem eg137 : Try.prog.eqGuardType Try.prog.depth 137 = false := by kernel_rfl
theorem tA138 : tyAgg Try.prog 138 = some true := by kernel_rfl
theorem tS138 : tySize Try.prog 138 = some 5 := by kernel_rfl
def z138 : AV := .agg [.v (.slice none 0 0), .v (.slice none 0 0), .v (.slice none 0 0), .v (.pointer none), .v (.map none)]
theorem zv138 : tyZero Try.prog 138 = some (.agg #[.slice none 0 0, .slice none 0 0, .slice none 0 0, .pointer none, .map none]) := by kernel_rfl
theorem by138 : (Try.prog.info? 138).map (·.bytes) = some 88 := by kernel_rfl
theorem tZ138 : IsZero Try.prog 138 z138 := ⟨.agg #[.slice none 0 0, .slice none 0 0, .slice none 0 0, .pointer none, .map none], by kernel_rfl, by kernel_rfl⟩
theorem fa138_0 : fieldAt Try.prog 138 0 0 1 false := ⟨_, _, Try.underlying138, rfl, rfl, tS76, tA76⟩
theorem fa138_1 : fieldAt Try.prog 138 1 1 1 false := ⟨_, _, Try.underlying138, rfl, rfl, tS76, tA76⟩
theorem fa138_2 : fieldAt Try.prog 138 2 2 1 false := ⟨_, _, Try.underlying138, rfl, rfl, tS76, tA76⟩
theorem fa138_3 : fieldAt Try.prog 138 3 3 1 false := ⟨_, _, Try.underlying138, rfl, rfl, tS134, tA134⟩
theorem fa138_4 : fieldAt Try.prog 138 4 4 1 false := ⟨_, _, Try.underlying138, rfl, rfl, tS136, tA136⟩
theorem pl138 : places Try.prog (Program.fieldsOf Try.prog 138).toList = some [(0, 1), (1, 1), (2, 1), (3, 1), (4, 1)] := by kernel_rfl
theorem us138 : Try.prog.underlying 138 = some (.struct (Program.fieldsOf Try.prog 138)) := by kernel_rfl
theorem eg138 : Try.prog.eqGuardType Try.prog.depth 138 = false := by kernel_rfl
theorem tA140 : tyAgg Try.prog 140 = some false := by kernel_rfl
theorem tS140 : tySize Try.prog 140 = some 1 := by kernel_rfl
def z140 : AV := .v .nilFunc
theorem zv140 : tyZero Try.prog 140 = some (.nilFunc) := by kernel_rfl
theorem by140 : (Try.prog.info? 140).map (·.bytes) = some 8 := by kernel_rfl
theorem tZ140 : IsZero Try.prog 140 z140 := ⟨.nilFunc, by kernel_rfl, by kernel_rfl⟩
theorem tA141 : tyAgg Try.prog 141 = some true := by kernel_rfl
theorem tS141 : tySize Try.prog 141 = some 24 := by kernel_rfl
def z141 : AV := .agg [.arr 16 (List.replicate 16 0), .arr 8 (List.replicate 8 0)]
theorem zv141 : tyZero Try.prog 141 = some (.agg #[.int .u8 0, .int .u8 0, .int .u8 0, .int .u8 0, .int .u8 0, .int .u8 0, .int .u8 0, .int .u8 0, .int .u8 0, .int .u8 0, .int .u8 0, .int .u8 0, .int .u8 0, .int .u8 0, .int .u8 0, .int .u8 0, .int .u8 0, .int .u8 0, .int .u8 0, .int .u8 0, .int .u8 0, .int .u8 0, .int .u8 0, .int .u8 0]) := by kernel_rfl
theorem by141 : (Try.prog.info? 141).map (·.bytes) = some 24 := by kernel_rfl
theorem tZ141 : IsZero Try.prog 141 z141 := ⟨.agg #[.int .u8 0, .int .u8 0, .int .u8 0, .int .u8 0, .int .u8 0, .int .u8 0, .int .u8 0, .int .u8 0, .int .u8 0, .int .u8 0, .int .u8 0, .int .u8 0, .int .u8 0, .int .u8 0, .int .u8 0, .int .u8 0, .int .u8 0, .int .u8 0, .int .u8 0, .int .u8 0, .int .u8 0, .int .u8 0, .int .u8 0, .int .u8 0], by kernel_rfl, by kernel_rfl⟩
theorem fa141_0 : fieldAt Try.prog 141 0 0 16 true := ⟨_, _, Try.underlying141, rfl, rfl, tS57, tA57⟩
theorem fa141_1 : fieldAt Try.prog 141 1 16 8 true := ⟨_, _, Try.underlying141, rfl, rfl, tS59, tA59⟩
theorem pl141 : places Try.prog (Program.fieldsOf Try.prog 141).toList = some [(0, 16), (16, 8)] := by kernel_rfl
theorem us141 : Try.prog.underlying 141 = some (.struct (Program.fieldsOf Try.prog 141)) := by kernel_rfl
theorem eg141 : Try.prog.eqGuardType Try.prog.depth 141 = false := by kernel_rfl
theorem tA142 : tyAgg Try.prog 142 = some true := by kernel_rfl
theorem tS142 : tySize Try.prog 142 = some 24 := by kernel_rfl
def z142 : AV := .agg [.arr 16 (List.replicate 16 0), .arr 8 (List.replicate 8 0)]
theorem zv142 : tyZero Try.prog 142 = some (.agg #[.int .u8 0, .int .u8 0, .int .u8 0, .int .u8 0, .int .u8 0, .int .u8 0, .int .u8 0, .int .u8 0, .int .u8 0, .int .u8 0, .int .u8 0, .int .u8 0, .int .u8 0, .int .u8 0, .int .u8 0, .int .u8 0, .int .u8 0, .int .u8 0, .int .u8 0, .int .u8 0, .int .u8 0, .int .u8 0, .int .u8 0, .int .u8 0]) := by kernel_rfl
theorem by142 : (Try.prog.info? 142).map (·.bytes) = some 24 := by kernel_rfl
theorem tZ142 : IsZero Try.prog 142 z142 := ⟨.agg #[.int .u8 0, .int .u8 0, .int .u8 0, .int .u8 0, .int .u8 0, .int .u8 0, .int .u8 0, .int .u8 0, .int .u8 0, .int .u8 0, .int .u8 0, .int .u8 0, .int .u8 0, .int .u8 0, .int .u8 0, .int .u8 0, .int .u8 0, .int .u8 0, .int .u8 0, .int .u8 0, .int .u8 0, .int .u8 0, .int .u8 0, .int .u8 0], by kernel_rfl, by kernel_rfl⟩
theorem fa142_0 : fieldAt Try.prog 142 0 0 16 true := ⟨_, _, Try.underlying142, rfl, rfl, tS57, tA57⟩
theorem fa142_1 : fieldAt Try.prog 142 1 16 8 true := ⟨_, _, Try.underlying142, rfl, rfl, tS59, tA59⟩
theorem pl142 : places Try.prog (Program.fieldsOf Try.prog 142).toList = some [(0, 16), (16, 8)] := by kernel_rfl
theorem us142 : Try.prog.underlying 142 = some (.struct (Program.fieldsOf Try.prog 142)) := by kernel_rfl
theorem eg142 : Try.prog.eqGuardType Try.prog.depth 142 = false := by kernel_rfl
theorem tA143 : tyAgg Try.prog 143 = some false := by kernel_rfl
theorem tS143 : tySize Try.prog 143 = some 1 := by kernel_rfl
def z143 : AV := .v .nilFunc
theorem zv143 : tyZero Try.prog 143 = some (.nilFunc) := by kernel_rfl
theorem by143 : (Try.prog.info? 143).map (·.bytes) = some 8 := by kernel_rfl
theorem tZ143 : IsZero Try.prog 143 z143 := ⟨.nilFunc, by kernel_rfl, by kernel_rfl⟩
theorem tA144 : tyAgg Try.prog 144 = some false := by kernel_rfl
theorem tS144 : tySize Try.prog 144 = some 1 := by kernel_rfl
def z144 : AV := .v .nilFunc
theorem zv144 : tyZero Try.prog 144 = some (.nilFunc) := by kernel_rfl
theorem by144 : (Try.prog.info? 144).map (·.bytes) = some 8 := by kernel_rfl
theorem tZ144 : IsZero Try.prog 144 z144 := ⟨.nilFunc, by kernel_rfl, by kernel_rfl⟩
theorem tA145 : tyAgg Try.prog 145 = some false := by kernel_rfl
theorem tS145 : tySize Try.prog 145 = some 1 := by kernel_rfl
def z145 : AV := .v .nilFunc
theorem zv145 : tyZero Try.prog 145 = some (.nilFunc) := by kernel_rfl
theorem by145 : (Try.prog.info? 145).map (·.bytes) = some 8 := by kernel_rfl
theorem tZ145 : IsZero Try.prog 145 z145 := ⟨.nilFunc, by kernel_rfl, by kernel_rfl⟩
theorem tA146 : tyAgg Try.prog 146 = some false := by kernel_rfl
theorem tS146 : tySize Try.prog 146 = some 1 := by kernel_rfl
def z146 : AV := .v (.map none)
theorem zv146 : tyZero Try.prog 146 = some (.map none) := by kernel_rfl
theorem by146 : (Try.prog.info? 146).map (·.bytes) = some 8 := by kernel_rfl
theorem tZ146 : IsZero Try.prog 146 z146 := ⟨.map none, by kernel_rfl, by kernel_rfl⟩
theorem tA147 : tyAgg Try.prog 147 = some false := by kernel_rfl
theorem tS147 : tySize Try.prog 147 = some 1 := by kernel_rfl
def z147 : AV := .v .nilFunc
theorem zv147 : tyZero Try.prog 147 = some (.nilFunc) := by kernel_rfl
theorem by147 : (Try.prog.info? 147).map (·.bytes) = some 8 := by kernel_rfl
theorem tZ147 : IsZero Try.prog 147 z147 := ⟨.nilFunc, by kernel_rfl, by kernel_rfl⟩
theorem tA148 : tyAgg Try.prog 148 = some false := by kernel_rfl
theorem tS148 : tySize Try.prog 148 = some 1 := by kernel_rfl
def z148 : AV := .v .nilFunc
theorem zv148 : tyZero Try.prog 148 = some (.nilFunc) := by kernel_rfl
theorem by148 : (Try.prog.info? 148).map (·.bytes) = some 8 := by kernel_rfl
theorem tZ148 : IsZero Try.prog 148 z148 := ⟨.nilFunc, by kernel_rfl, by kernel_rfl⟩
theorem tA149 : tyAgg Try.prog 149 = some false := by kernel_rfl
theorem tS149 : tySize Try.prog 149 = some 1 := by kernel_rfl
def z149 : AV := .v .nilFunc
theorem zv149 : tyZero Try.prog 149 = some (.nilFunc) := by kernel_rfl
theorem by149 : (Try.prog.info? 149).map (·.bytes) = some 8 := by kernel_rfl
theorem tZ149 : IsZero Try.prog 149 z149 := ⟨.nilFunc, by kernel_rfl, by kernel_rfl⟩
theorem tA150 : tyAgg Try.prog 150 = some false := by kernel_rfl
theorem tS150 : tySize Try.prog 150 = some 1 := by kernel_rfl
def z150 : AV := .v .nilFunc
theorem zv150 : tyZero Try.prog 150 = some (.nilFunc) := by kernel_rfl
theorem by150 : (Try.prog.info? 150).map (·.bytes) = some 8 := by kernel_rfl
theorem tZ150 : IsZero Try.prog 150 z150 := ⟨.nilFunc, by kernel_rfl, by kernel_rfl⟩
theorem tA151 : tyAgg Try.prog 151 = some false := by kernel_rfl
theorem tS151 : tySize Try.prog 151 = some 1 := by kernel_rfl
def z151 : AV := .v (.map none)
theorem zv151 : tyZero Try.prog 151 = some (.map none) := by kernel_rfl
theorem by151 : (Try.prog.info? 151).map (·.bytes) = some 8 := by kernel_rfl
theorem tZ151 : IsZero Try.prog 151 z151 := ⟨.map none, by kernel_rfl, by kernel_rfl⟩
theorem tA152 : tyAgg Try.prog 152 = some false := by kernel_rfl
theorem tS152 : tySize Try.prog 152 = some 1 := by kernel_rfl
def z152 : AV := .v (.slice none 0 0)
theorem zv152 : tyZero Try.prog 152 = some (.slice none 0 0) := by kernel_rfl
theorem by152 : (Try.prog.info? 152).map (·.bytes) = some 24 := by kernel_rfl
theorem tZ152 : IsZero Try.prog 152 z152 := ⟨.slice none 0 0, by kernel_rfl, by kernel_rfl⟩
theorem tA153 : tyAgg Try.prog 153 = some false := by kernel_rfl
theorem tS153 : tySize Try.prog 153 = some 1 := by kernel_rfl
def z153 : AV := .v .nilFunc
theorem zv153 : tyZero Try.prog 153 = some (.nilFunc) := by kernel_rfl
theorem by153 : (Try.prog.info? 153).map (·.bytes) = some 8 := by kernel_rfl
theorem tZ153 : IsZero Try.prog 153 z153 := ⟨.nilFunc, by kernel_rfl, by kernel_rfl⟩
theorem tA154 : tyAgg Try.prog 154 = some false := by kernel_rfl
theorem tS154 : tySize Try.prog 154 = some 1 := by kernel_rfl
def z154 : AV := .v .nilFunc
theorem zv154 : tyZero Try.prog 154 = some (.nilFunc) := by kernel_rfl
theorem by154 : (Try.prog.info? 154).map (·.bytes) = some 8 := by kernel_rfl
theorem tZ154 : IsZero Try.prog 154 z154 := ⟨.nilFunc, by kernel_rfl, by kernel_rfl⟩
theorem tA155 : tyAgg Try.prog 155 = some false := by kernel_rfl
theorem tS155 : tySize Try.prog 155 = some 1 := by kernel_rfl
def z155 : AV := .v .nilFunc
theorem zv155 : tyZero Try.prog 155 = some (.nilFunc) := by kernel_rfl
theorem by155 : (Try.prog.info? 155).map (·.bytes) = some 8 := by kernel_rfl
theorem tZ155 : IsZero Try.prog 155 z155 := ⟨.nilFunc, by kernel_rfl, by kernel_rfl⟩
theorem tA156 : tyAgg Try.prog 156 = some false := by kernel_rfl
theorem tS156 : tySize Try.prog 156 = some 1 := by kernel_rfl
def z156 : AV := .v .nilFunc
theorem zv156 : tyZero Try.prog 156 = some (.nilFunc) := by kernel_rfl
theorem by156 : (Try.prog.info? 156).map (·.bytes) = some 8 := by kernel_rfl
theorem tZ156 : IsZero Try.prog 156 z156 := ⟨.nilFunc, by kernel_rfl, by kernel_rfl⟩
theorem tA157 : tyAgg Try.prog 157 = some true := by kernel_rfl
theorem tS157 : tySize Try.prog 157 = some 3 := by kernel_rfl
def z157 : AV := .agg [.v (.int .u64 0), .v (.string .empty), .v (.slice none 0 0)]
theorem zv157 : tyZero Try.prog 157 = some (.agg #[.int .u64 0, .string .empty, .slice none 0 0]) := by kernel_rfl
theorem by157 : (Try.prog.info? 157).map (·.bytes) = some 48 := by kernel_rfl
theorem tZ157 : IsZero Try.prog 157 z157 := ⟨.agg #[.int .u64 0, .string .empty, .slice none 0 0], by kernel_rfl, by kernel_rfl⟩
theorem fa157_0 : fieldAt Try.prog 157 0 0 1 false := ⟨_, _, Try.underlying157, rfl, rfl, tS22, tA22⟩
theorem fa157_1 : fieldAt Try.prog 157 1 1 1 false := ⟨_, _, Try.underlying157, rfl, rfl, tS9, tA9⟩
theorem fa157_2 : fieldAt Try.prog 157 2 2 1 false := ⟨_, _, Try.underlying157, rfl, rfl, tS90, tA90⟩
theorem pl157 : places Try.prog (Program.fieldsOf Try.prog 157).toList = some [(0, 1), (1, 1), (2, 1)] := by kernel_rfl
theorem us157 : Try.prog.underlying 157 = some (.struct (Program.fieldsOf Try.prog 157)) := by kernel_rfl
theorem eg157 : Try.prog.eqGuardType Try.prog.depth 157 = false := by kernel_rfl
theorem tA158 : tyAgg Try.prog 158 = some true := by kernel_rfl
theorem tS158 : tySize Try.prog 158 = some 3 := by kernel_rfl
def z158 : AV := .agg [.v (.int .u64 0), .v (.string .empty), .v (.slice none 0 0)]
theorem zv158 : tyZero Try.prog 158 = some (.agg #[.int .u64 0, .string .empty, .slice none 0 0]) := by kernel_rfl
theorem by158 : (Try.prog.info? 158).map (·.bytes) = some 48 := by kernel_rfl
theorem tZ158 : IsZero Try.prog 158 z158 := ⟨.agg #[.int .u64 0, .string .empty, .slice none 0 0], by kernel_rfl, by kernel_rfl⟩
theorem fa158_0 : fieldAt Try.prog 158 0 0 1 false := ⟨_, _, Try.underlying158, rfl, rfl, tS22, tA22⟩
theorem fa158_1 : fieldAt Try.prog 158 1 1 1 false := ⟨_, _, Try.underlying158, rfl, rfl, tS9, tA9⟩
theorem fa158_2 : fieldAt Try.prog 158 2 2 1 false := ⟨_, _, Try.underlying158, rfl, rfl, tS90, tA90⟩
theorem pl158 : places Try.prog (Program.fieldsOf Try.prog 158).toList = some [(0, 1), (1, 1), (2, 1)] := by kernel_rfl
theorem us158 : Try.prog.underlying 158 = some (.struct (Program.fieldsOf Try.prog 158)) := by kernel_rfl
theorem eg158 : Try.prog.eqGuardType Try.prog.depth 158 = false := by kernel_rfl
theorem tA159 : tyAgg Try.prog 159 = some true := by kernel_rfl
theorem tS159 : tySize Try.prog 159 = some 26 := by kernel_rfl
def z159 : AV := .agg [.arr 16 (List.replicate 16 0), .arr 8 (List.replicate 8 0), .v (.string .empty), .v (.slice none 0 0)]
theorem zv159 : tyZero Try.prog 159 = some (.agg #[.int .u8 0, .int .u8 0, .int .u8 0, .int .u8 0, .int .u8 0, .int .u8 0, .int .u8 0, .int .u8 0, .int .u8 0, .int .u8 0, .int .u8 0, .int .u8 0, .int .u8 0, .int .u8 0, .int .u8 0, .int .u8 0, .int .u8 0, .int .u8 0, .int .u8 0, .int .u8 0, .int .u8 0, .int .u8 0, .int .u8 0, .int .u8 0, .string .empty, .slice none 0 0]) := by kernel_rfl
theorem by159 : (Try.prog.info? 159).map (·.bytes) = some 64 := by kernel_rfl
theorem tZ159 : IsZero Try.prog 159 z159 := ⟨.agg #[.int .u8 0, .int .u8 0, .int .u8 0, .int .u8 0, .int .u8 0, .int .u8 0, .int .u8 0, .int .u8 0, .int .u8 0, .int .u8 0, .int .u8 0, .int .u8 0, .int .u8 0, .int .u8 0, .int .u8 0, .int .u8 0, .int .u8 0, .int .u8 0, .int .u8 0, .int .u8 0, .int .u8 0, .int .u8 0, .int .u8 0, .int .u8 0, .string .empty, .slice none 0 0], by kernel_rfl, by kernel_rfl⟩
theorem fa159_0 : fieldAt Try.prog 159 0 0 16 true := ⟨_, _, Try.underlying159, rfl, rfl, tS57, tA57⟩
theorem fa159_1 : fieldAt Try.prog 159 1 16 8 true := ⟨_, _, Try.underlying159, rfl, rfl, tS59, tA59⟩
theorem fa159_2 : fieldAt Try.prog 159 2 24 1 false := ⟨_, _, Try.underlying159, rfl, rfl, tS9, tA9⟩
theorem fa159_3 : fieldAt Try.prog 159 3 25 1 false := ⟨_, _, Try.underlying159, rfl, rfl, tS90, tA90⟩
theorem pl159 : places Try.prog (Program.fieldsOf Try.prog 159).toList = some [(0, 16), (16, 8), (24, 1), (25, 1)] := by kernel_rfl
theorem us159 : Try.prog.underlying 159 = some (.struct (Program.fieldsOf Try.prog 159)) := by kernel_rfl
theorem eg159 : Try.prog.eqGuardType Try.prog.depth 159 = false := by kernel_rfl
theorem tA160 : tyAgg Try.prog 160 = some true := by kernel_rfl
theorem tS160 : tySize Try.prog 160 = some 26 := by kernel_rfl
def z160 : AV := .agg [.arr 16 (List.replicate 16 0), .arr 8 (List.replicate 8 0), .v (.string .empty), .v (.slice none 0 0)]
theorem zv160 : tyZero Try.prog 160 = some (.agg #[.int .u8 0, .int .u8 0, .int .u8 0, .int .u8 0, .int .u8 0, .int .u8 0, .int .u8 0, .int .u8 0, .int .u8 0, .int .u8 0, .int .u8 0, .int .u8 0, .int .u8 0, .int .u8 0, .int .u8 0, .int .u8 0, .int .u8 0, .int .u8 0, .int .u8 0, .int .u8 0, .int .u8 0, .int .u8 0, .int .u8 0, .int .u8 0, .string .empty, .slice none 0 0]) := by kernel_rfl
theorem by160 : (Try.prog.info? 160).map (·.bytes) = some 64 := by kernel_rfl
theorem tZ160 : IsZero Try.prog 160 z160 := ⟨.agg #[.int .u8 0, .int .u8 0, .int .u8 0, .int .u8 0, .int .u8 0, .int .u8 0, .int .u8 0, .int .u8 0, .int .u8 0, .int .u8 0, .int .u8 0, .int .u8 0, .int .u8 0, .int .u8 0, .int .u8 0, .int .u8 0, .int .u8 0, .int .u8 0, .int .u8 0, .int .u8 0, .int .u8 0, .int .u8 0, .int .u8 0, .int .u8 0, .string .empty, .slice none 0 0], by kernel_rfl, by kernel_rfl⟩
theorem fa160_0 : fieldAt Try.prog 160 0 0 16 true := ⟨_, _, Try.underlying160, rfl, rfl, tS57, tA57⟩
theorem fa160_1 : fieldAt Try.prog 160 1 16 8 true := ⟨_, _, Try.underlying160, rfl, rfl, tS59, tA59⟩
theorem fa160_2 : fieldAt Try.prog 160 2 24 1 false := ⟨_, _, Try.underlying160, rfl, rfl, tS9, tA9⟩
theorem fa160_3 : fieldAt Try.prog 160 3 25 1 false := ⟨_, _, Try.underlying160, rfl, rfl, tS90, tA90⟩
theorem pl160 : places Try.prog (Program.fieldsOf Try.prog 160).toList = some [(0, 16), (16, 8), (24, 1), (25, 1)] := by kernel_rfl
theorem us160 : Try.prog.underlying 160 = some (.struct (Program.fieldsOf Try.prog 160)) := by kernel_rfl
theorem eg160 : Try.prog.eqGuardType Try.prog.depth 160 = false := by kernel_rfl
theorem tA161 : tyAgg Try.prog 161 = some false := by kernel_rfl
theorem tS161 : tySize Try.prog 161 = some 1 := by kernel_rfl
def z161 : AV := .v (.map none)
theorem zv161 : tyZero Try.prog 161 = some (.map none) := by kernel_rfl
theorem by161 : (Try.prog.info? 161).map (·.bytes) = some 8 := by kernel_rfl
theorem tZ161 : IsZero Try.prog 161 z161 := ⟨.map none, by kernel_rfl, by kernel_rfl⟩
theorem tA162 : tyAgg Try.prog 162 = some true := by kernel_rfl
theorem tS162 : tySize Try.prog 162 = some 1 := by kernel_rfl
def z162 : AV := .agg [.v (.map none)]
theorem zv162 : tyZero Try.prog 162 = some (.agg #[.map none]) := by kernel_rfl
theorem by162 : (Try.prog.info? 162).map (·.bytes) = some 8 := by kernel_rfl
theorem tZ162 : IsZero Try.prog 162 z162 := ⟨.agg #[.map none], by kernel_rfl, by kernel_rfl⟩
theorem fa162_0 : fieldAt Try.prog 162 0 0 1 false := ⟨_, _, Try.underlying162, rfl, rfl, tS161, tA161⟩
theorem pl162 : places Try.prog (Program.fieldsOf Try.prog 162).toList = some [(0, 1)] := by kernel_rfl
theorem us162 : Try.prog.underlying 162 = some (.struct (Program.fieldsOf Try.prog 162)) := by kernel_rfl
theorem eg162 : Try.prog.eqGuardType Try.prog.depth 162 = false := by kernel_rfl
theorem tA163 : tyAgg Try.prog 163 = some true := by kernel_rfl
theorem tS163 : tySize Try.prog 163 = some 1 := by kernel_rfl
def z163 : AV := .agg [.v (.map none)]
theorem zv163 : tyZero Try.prog 163 = some (.agg #[.map none]) := by kernel_rfl
theorem by163 : (Try.prog.info? 163).map (·.bytes) = some 8 := by kernel_rfl
theorem tZ163 : IsZero Try.prog 163 z163 := ⟨.agg #[.map none], by kernel_rfl, by kernel_rfl⟩
theorem fa163_0 : fieldAt Try.prog 163 0 0 1 false := ⟨_, _, Try.underlying163, rfl, rfl, tS161, tA161⟩
theorem pl163 : places Try.prog (Program.fieldsOf Try.prog 163).toList = some [(0, 1)] := by kernel_rfl
theorem us163 : Try.prog.underlying 163 = some (.struct (Program.fieldsOf Try.prog 163)) := by kernel_rfl
theorem eg163 : Try.prog.eqGuardType Try.prog.depth 163 = false := by kernel_rfl
theorem tA164 : tyAgg Try.prog 164 = some true := by kernel_rfl
theorem tS164 : tySize Try.prog 164 = some 24 := by kernel_rfl
def z164 : AV := .agg [.arr 16 (List.replicate 16 0), .arr 8 (List.replicate 8 0)]
theorem zv164 : tyZero Try.prog 164 = some (.agg #[.int .u8 0, .int .u8 0, .int .u8 0, .int .u8 0, .int .u8 0, .int .u8 0, .int .u8 0, .int .u8 0, .int .u8 0, .int .u8 0, .int .u8 0, .int .u8 0, .int .u8 0, .int .u8 0, .int .u8 0, .int .u8 0, .int .u8 0, .int .u8 0, .int .u8 0, .int .u8 0, .int .u8 0, .int .u8 0, .int .u8 0, .int .u8 0]) := by kernel_rfl
theorem by164 : (Try.prog.info? 164).map (·.bytes) = some 24 := by kernel_rfl
theorem tZ164 : IsZero Try.prog 164 z164 := ⟨.agg #[.int .u8 0, .int .u8 0, .int .u8 0, .int .u8 0, .int .u8 0, .int .u8 0, .int .u8 0, .int .u8 0, .int .u8 0, .int .u8 0, .int .u8 0, .int .u8 0, .int .u8 0, .int .u8 0, .int .u8 0, .int .u8 0, .int .u8 0, .int .u8 0, .int .u8 0, .int .u8 0, .int .u8 0, .int .u8 0, .int .u8 0, .int .u8 0], by kernel_rfl, by kernel_rfl⟩
theorem fa164_0 : fieldAt Try.prog 164 0 0 16 true := ⟨_, _, Try.underlying164, rfl, rfl, tS57, tA57⟩
theorem fa164_1 : fieldAt Try.prog 164 1 16 8 true := ⟨_, _, Try.underlying164, rfl, rfl, tS59, tA59⟩
theorem pl164 : places Try.prog (Program.fieldsOf Try.prog 164).toList = some [(0, 16), (16, 8)] := by kernel_rfl
theorem us164 : Try.prog.underlying 164 = some (.struct (Program.fieldsOf Try.prog 164)) := by kernel_rfl
theorem eg164 : Try.prog.eqGuardType Try.prog.depth 164 = false := by kernel_rfl
theorem tA165 : tyAgg Try.prog 165 = some true := by kernel_rfl
theorem tS165 : tySize Try.prog 165 = some 24 := by kernel_rfl
def z165 : AV := .agg [.arr 16 (List.replicate 16 0), .arr 8 (List.replicate 8 0)]
theorem zv165 : tyZero Try.prog 165 = some (.agg #[.int .u8 0, .int .u8 0, .int .u8 0, .int .u8 0, .int .u8 0, .int .u8 0, .int .u8 0, .int .u8 0, .int .u8 0, .int .u8 0, .int .u8 0, .int .u8 0, .int .u8 0, .int .u8 0, .int .u8 0, .int .u8 0, .int .u8 0, .int .u8 0, .int .u8 0, .int .u8 0, .int .u8 0, .int .u8 0, .int .u8 0, .int .u8 0]) := by kernel_rfl
theorem by165 : (Try.prog.info? 165).map (·.bytes) = some 24 := by kernel_rfl
theorem tZ165 : IsZero Try.prog 165 z165 := ⟨.agg #[.int .u8 0, .int .u8 0, .int .u8 0, .int .u8 0, .int .u8 0, .int .u8 0, .int .u8 0, .int .u8 0, .int .u8 0, .int .u8 0, .int .u8 0, .int .u8 0, .int .u8 0, .int .u8 0, .int .u8 0, .int .u8 0, .int .u8 0, .int .u8 0, .int .u8 0, .int .u8 0, .int .u8 0, .int .u8 0, .int .u8 0, .int .u8 0], by kernel_rfl, by kernel_rfl⟩
theorem fa165_0 : fieldAt Try.prog 165 0 0 16 true := ⟨_, _, Try.underlying165, rfl, rfl, tS57, tA57⟩
theorem fa165_1 : fieldAt Try.prog 165 1 16 8 true := ⟨_, _, Try.underlying165, rfl, rfl, tS59, tA59⟩
theorem pl165 : places Try.prog (Program.fieldsOf Try.prog 165).toList = some [(0, 16), (16, 8)] := by kernel_rfl
theorem us165 : Try.prog.underlying 165 = some (.struct (Program.fieldsOf Try.prog 165)) := by kernel_rfl
theorem eg165 : Try.prog.eqGuardType Try.prog.depth 165 = false := by kernel_rfl
theorem tA166 : tyAgg Try.prog 166 = some false := by kernel_rfl
theorem tS166 : tySize Try.prog 166 = some 1 := by kernel_rfl
def z166 : AV := .v .nilFunc
theorem zv166 : tyZero Try.prog 166 = some (.nilFunc) := by kernel_rfl
theorem by166 : (Try.prog.info? 166).map (·.bytes) = some 8 := by kernel_rfl
theorem tZ166 : IsZero Try.prog 166 z166 := ⟨.nilFunc, by kernel_rfl, by kernel_rfl⟩
theorem tA167 : tyAgg Try.prog 167 = some false := by kernel_rfl
theorem tS167 : tySize Try.prog 167 = some 1 := by kernel_rfl
def z167 : AV := .v .nilFunc
theorem zv167 : tyZero Try.prog 167 = some (.nilFunc) := by kernel_rfl
theorem by167 : (Try.prog.info? 167).map (·.bytes) = some 8 := by kernel_rfl
theorem tZ167 : IsZero Try.prog 167 z167 := ⟨.nilFunc, by kernel_rfl, by kernel_rfl⟩
theorem tA168 : tyAgg Try.prog 168 = some false := by kernel_rfl
theorem tS168 : tySize Try.prog 168 = some 1 := by kernel_rfl
def z168 : AV := .v .nilFunc
theorem zv168 : tyZero Try.prog 168 = some (.nilFunc) := by kernel_rfl
theorem by168 : (Try.prog.info? 168).map (·.bytes) = some 8 := by kernel_rfl
theorem tZ168 : IsZero Try.prog 168 z168 := ⟨.nilFunc, by kernel_rfl, by kernel_rfl⟩
theorem tA169 : tyAgg Try.prog 169 = some false := by kernel_rfl
theorem tS169 : tySize Try.prog 169 = some 1 := by kernel_rfl
def z169 : AV := .v (.int .i64 0)
theorem zv169 : tyZero Try.prog 169 = some (.int .i64 0) := by kernel_rfl
theorem by169 : (Try.prog.info? 169).map (·.bytes) = some 8 := by kernel_rfl
theorem tZ169 : IsZero Try.prog 169 z169 := ⟨.int .i64 0, by kernel_rfl, by kernel_rfl⟩
theorem tA171 : tyAgg Try.prog 171 = some false := by kernel_rfl
theorem tS171 : tySize Try.prog 171 = some 1 := by kernel_rfl
def z171 : AV := .v .nilFunc
theorem zv171 : tyZero Try.prog 171 = some (.nilFunc) := by kernel_rfl
theorem by171 : (Try.prog.info? 171).map (·.bytes) = some 8 := by kernel_rfl
theorem tZ171 : IsZero Try.prog 171 z171 := ⟨.nilFunc, by kernel_rfl, by kernel_rfl⟩
theorem tA172 : tyAgg Try.prog 172 = some false := by kernel_rfl
theorem tS172 : tySize Try.prog 172 = some 1 := by kernel_rfl
def z172 : AV := .v .nilFunc
theorem zv172 : tyZero Try.prog 172 = some (.nilFunc) := by kernel_rfl
theorem by172 : (Try.prog.info? 172).map (·.bytes) = some 8 := by kernel_rfl
theorem tZ172 : IsZero Try.prog 172 z172 := ⟨.nilFunc, by kernel_rfl, by kernel_rfl⟩
theorem tA173 : tyAgg Try.prog 173 = some false := by kernel_rfl
theorem tS173 : tySize Try.prog 173 = some 1 := by kernel_rfl
def z173 : AV := .v .nilFunc
theorem zv173 : tyZero Try.prog 173 = some (.nilFunc) := by kernel_rfl
theorem by173 : (Try.prog.info? 173).map (·.bytes) = some 8 := by kernel_rfl
theorem tZ173 : IsZero Try.prog 173 z173 := ⟨.nilFunc, by kernel_rfl, by kernel_rfl⟩
theorem tA174 : tyAgg Try.prog 174 = some false := by kernel_rfl
theorem tS174 : tySize Try.prog 174 = some 1 := by kernel_rfl
def z174 : AV := .v .nilFunc
theorem zv174 : tyZero Try.prog 174 = some (.nilFunc) := by kernel_rfl
theorem by174 : (Try.prog.info? 174).map (·.bytes) = some 8 := by kernel_rfl
theorem tZ174 : IsZero Try.prog 174 z174 := ⟨.nilFunc, by kernel_rfl, by kernel_rfl⟩
theorem tA175 : tyAgg Try.prog 175 = some false := by kernel_rfl
theorem tS175 : tySize Try.prog 175 = some 1 := by kernel_rfl
def z175 : AV := .v .nilFunc
theorem zv175 : tyZero Try.prog 175 = some (.nilFunc) := by kernel_rfl
theorem by175 : (Try.prog.info? 175).map (·.bytes) = some 8 := by kernel_rfl
theorem tZ175 : IsZero Try.prog 175 z175 := ⟨.nilFunc, by kernel_rfl, by kernel_rfl⟩
theorem tA176 : tyAgg Try.prog 176 = some false := by kernel_rfl
theorem tS176 : tySize Try.prog 176 = some 1 := by kernel_rfl
def z176 : AV := .v .nilFunc
theorem zv176 : tyZero Try.prog 176 = some (.nilFunc) := by kernel_rfl
theorem by176 : (Try.prog.info? 176).map (·.bytes) = some 8 := by kernel_rfl
theorem tZ176 : IsZero Try.prog 176 z176 := ⟨.nilFunc, by kernel_rfl, by kernel_rfl⟩
theorem tA177 : tyAgg Try.prog 177 = some false := by kernel_rfl
theorem tS177 : tySize Try.prog 177 = some 1 := by kernel_rfl
def z177 : AV := .v (.int .u32 0)
theorem zv177 : tyZero Try.prog 177 = some (.int .u32 0) := by kernel_rfl
theorem by177 : (Try.prog.info? 177).map (·.bytes) = some 4 := by kernel_rfl
theorem tZ177 : IsZero Try.prog 177 z177 := ⟨.int .u32 0, by kernel_rfl, by kernel_rfl⟩
theorem tA178 : tyAgg Try.prog 178 = some false := by kernel_rfl
theorem tS178 : tySize Try.prog 178 = some 1 := by kernel_rfl
def z178 : AV := .v (.int .u64 0)
theorem zv178 : tyZero Try.prog 178 = some (.int .u64 0) := by kernel_rfl
theorem by178 : (Try.prog.info? 178).map (·.bytes) = some 8 := by kernel_rfl
theorem tZ178 : IsZero Try.prog 178 z178 := ⟨.int .u64 0, by kernel_rfl, by kernel_rfl⟩
theorem tA179 : tyAgg Try.prog 179 = some false := by kernel_rfl
theorem tS179 : tySize Try.prog 179 = some 1 := by kernel_rfl
def z179 : AV := .v .nilFunc
theorem zv179 : tyZero Try.prog 179 = some (.nilFunc) := by kernel_rfl
theorem by179 : (Try.prog.info? 179).map (·.bytes) = some 8 := by kernel_rfl
theorem tZ179 : IsZero Try.prog 179 z179 := ⟨.nilFunc, by kernel_rfl, by kernel_rfl⟩
theorem tA180 : tyAgg Try.prog 180 = some false := by kernel_rfl
theorem tS180 : tySize Try.prog 180 = some 1 := by kernel_rfl
def z180 : AV := .v .nilFunc
theorem zv180 : tyZero Try.prog 180 = some (.nilFunc) := by kernel_rfl
theorem by180 : (Try.prog.info? 180).map (·.bytes) = some 8 := by kernel_rfl
theorem tZ180 : IsZero Try.prog 180 z180 := ⟨.nilFunc, by kernel_rfl, by kernel_rfl⟩
theorem tA181 : tyAgg Try.prog 181 = some false := by kernel_rfl
theorem tS181 : tySize Try.prog 181 = some 1 := by kernel_rfl
def z181 : AV := .v (.pointer none)
theorem zv181 : tyZero Try.prog 181 = some (.pointer none) := by kernel_rfl
theorem by181 : (Try.prog.info? 181).map (·.bytes) = some 8 := by kernel_rfl
theorem tZ181 : IsZero Try.prog 181 z181 := ⟨.pointer none, by kernel_rfl, by kernel_rfl⟩
theorem tA182 : tyAgg Try.prog 182 = some false := by kernel_rfl
theorem tS182 : tySize Try.prog 182 = some 1 := by kernel_rfl
def z182 : AV := .v .nilFunc
theorem zv182 : tyZero Try.prog 182 = some (.nilFunc) := by kernel_rfl
theorem by182 : (Try.prog.info? 182).map (·.bytes) = some 8 := by kernel_rfl
theorem tZ182 : IsZero Try.prog 182 z182 := ⟨.nilFunc, by kernel_rfl, by kernel_rfl⟩
theorem tA183 : tyAgg Try.prog 183 = some false := by kernel_rfl
theorem tS183 : tySize Try.prog 183 = some 1 := by kernel_rfl
def z183 : AV := .v .nilFunc
theorem zv183 : tyZero Try.prog 183 = some (.nilFunc) := by kernel_rfl
theorem by183 : (Try.prog.info? 183).map (·.bytes) = some 8 := by kernel_rfl
theorem tZ183 : IsZero Try.prog 183 z183 := ⟨.nilFunc, by kernel_rfl, by kernel_rfl⟩
theorem tA184 : tyAgg Try.prog 184 = some false := by kernel_rfl
theorem tS184 : tySize Try.prog 184 = some 1 := by kernel_rfl
def z184 : AV := .v (.pointer none)
theorem zv184 : tyZero Try.prog 184 = some (.pointer none) := by kernel_rfl
theorem by184 : (Try.prog.info? 184).map (·.bytes) = some 8 := by kernel_rfl
theorem tZ184 : IsZero Try.prog 184 z184 := ⟨.pointer none, by kernel_rfl, by kernel_rfl⟩
theorem tA185 : tyAgg Try.prog 185 = some false := by kernel_rfl
theorem tS185 : tySize Try.prog 185 = some 1 := by kernel_rfl
def z185 : AV := .v .nilFunc
theorem zv185 : tyZero Try.prog 185 = some (.nilFunc) := by kernel_rfl
theorem by185 : (Try.prog.info? 185).map (·.bytes) = some 8 := by kernel_rfl
theorem tZ185 : IsZero Try.prog 185 z185 := ⟨.nilFunc, by kernel_rfl, by kernel_rfl⟩
theorem tA186 : tyAgg Try.prog 186 = some false := by kernel_rfl
theorem tS186 : tySize Try.prog 186 = some 1 := by kernel_rfl
def z186 : AV := .v .nilFunc
theorem zv186 : tyZero Try.prog 186 = some (.nilFunc) := by kernel_rfl
theorem by186 : (Try.prog.info? 186).map (·.bytes) = some 8 := by kernel_rfl
theorem tZ186 : IsZero Try.prog 186 z186 := ⟨.nilFunc, by kernel_rfl, by kernel_rfl⟩
theorem tA189 : tyAgg Try.prog 189 = some true := by kernel_rfl
theorem tS189 : tySize Try.prog 189 = some 0 := by kernel_rfl
def z189 : AV := .agg []
theorem zv189 : tyZero Try.prog 189 = some (.agg #[]) := by kernel_rfl
theorem by189 : (Try.prog.info? 189).map (·.bytes) = some 0 := by kernel_rfl
theorem tZ189 : IsZero Try.prog 189 z189 := ⟨.agg #[], by kernel_rfl, by kernel_rfl⟩
theorem eg189 : Try.prog.eqGuardType Try.prog.depth 189 = false := by kernel_rfl
theorem tA190 : tyAgg Try.prog 190 = some true := by kernel_rfl
theorem tS190 : tySize Try.prog 190 = some 0 := by kernel_rfl
def z190 : AV := .agg [.agg []]
theorem zv190 : tyZero Try.prog 190 = some (.agg #[]) := by kernel_rfl
theorem by190 : (Try.prog.info? 190).map (·.bytes) = some 0 := by kernel_rfl
theorem tZ190 : IsZero Try.prog 190 z190 := ⟨.agg #[], by kernel_rfl, by kernel_rfl⟩
theorem fa190_0 : fieldAt Try.prog 190 0 0 0 true := ⟨_, _, Try.underlying190, rfl, rfl, tS189, tA189⟩
theorem pl190 : places Try.prog (Program.fieldsOf Try.prog 190).toList = some [(0, 0)] := by kernel_rfl
theorem us190 : Try.prog.underlying 190 = some (.struct (Program.fieldsOf Try.prog 190)) := by kernel_rfl
theorem eg190 : Try.prog.eqGuardType Try.prog.depth 190 = false := by kernel_rfl
theorem tA194 : tyAgg Try.prog 194 = some false := by kernel_rfl
theorem tS194 : tySize Try.prog 194 = some 1 := by kernel_rfl
def z194 : AV := .v .nilFunc
theorem zv194 : tyZero Try.prog 194 = some (.nilFunc) := by kernel_rfl
theorem by194 : (Try.prog.info? 194).map (·.bytes) = some 8 := by kernel_rfl
theorem tZ194 : IsZero Try.prog 194 z194 := ⟨.nilFunc, by kernel_rfl, by kernel_rfl⟩
theorem tA195 : tyAgg Try.prog 195 = some false := by kernel_rfl
theorem tS195 : tySize Try.prog 195 = some 1 := by kernel_rfl
def z195 : AV := .v (.pointer none)
theorem zv195 : tyZero Try.prog 195 = some (.pointer none) := by kernel_rfl
theorem by195 : (Try.prog.info? 195).map (·.bytes) = some 8 := by kernel_rfl
theorem tZ195 : IsZero Try.prog 195 z195 := ⟨.pointer none, by kernel_rfl, by kernel_rfl⟩
theorem tA200 : tyAgg Try.prog 200 = some false := by kernel_rfl
theorem tS200 : tySize Try.prog 200 = some 1 := by kernel_rfl
end Go.Proofs
