/-
  NARROWER THAN 'FOR EVERY INPUT', by the rows' own cells (each row's printed sentence says how): WeighTells: loops, laid · WeighParts: loops, laid · WeighPlain: loops, laid · FaultTells: laid · FaultKinds: laid · FaultTwo: laid · NjaegerDoes: loops, laid · NjaegerStays: loops, laid · NzipkinDoes: loops, laid · NzipkinStays: loops, laid · AttrsChecks: loops, laid · AttrsHold: loops, laid · AttrsPick: loops, laid · NormalFinds: laid · BatchGoes: loops, laid · BatchCanon: loops, laid · BatchSame: loops, laid · SpanCanon: loops, laid · SpanSame: loops, laid.
  DERIVED. THE GIVEN ROWS OF THIS SEAT. 19 by the template 'for every input the law returns true; each argument reads behind the call as it read before'; 0 by the template 'total and deterministic' (their statements: YtdbcdeihinboeaaDoorTotals.lean).
  GIVEN WITH THE SEED: the statements are not yours to turn. If you find one false, say at which input.
  Laid BY PROGRAM, IN A SANDBOX (cutbox-rows.mjs): the forced cells as the released guide's own fill.sh prints them over the translation 3a81a794d214127c… (all of the seat's roots in one cut). By AI agents, Wed Nov 11 2026. No macro, syntax, notation, axiom, sorry.
-/
import Derived.Test.YtdbcdeihinboeaaDoorChecked
import GoSem.Claim
import GoSem.ClaimJoined
import GoSem.ClaimMapViews
import Derived.JoinedTies
import Derived.KernelRfl
namespace Go.Proofs.YtdbcdeihinboeaaDoor
/- THE CELL 'sum', in the pinned program and in every row, IS THE sha256 OF THE DUMP (.gsa) THAT YtdbcdeihinboeaaDoorProg.lean LOADS. Nothing in Lean hashes anything: it is a label: what it is worth is what the hold of that sum in a sandbox is worth. -/
noncomputable def Tryd.pinned : Pinned := { name := "ytdbcdeihinboeaadoor", sum := "3a81a794d214127c9a4b0af66262db1139cdfc62e015bc6cce3dc8d87628dc9c", checked := Tryd.checked }
namespace Rows
def none {H : Type} : Left H := { results := [], args := [] }

/- WHAT THE LISTED PACKAGE-LEVEL VARIABLES READ AS WHEN THE CALL BEGINS. Each datum BY PROGRAM (the guide's laid-datum.mjs) off the statement by which the dump's own 'gosem.cut.vars' lays the variable. In a bare row this is a premise. The card (YtdbcdeihinboeaaDoorCards.lean) ties it to the program's text. -/
def laid_truchman_word_highs {H : Type} : DataW H := .agg [.lit (.int .u8 56), .lit (.int .u8 48), .lit (.int .u8 40), .lit (.int .u8 32), .lit (.int .u8 24), .lit (.int .u8 16), .lit (.int .u8 8), .lit (.int .u8 0)]
def laid_errors_errorType {H : Type} : DataW H := .iface "internal/reflectlite.rtype" (.agg [.ptr (.lit (.string [101, 114, 114, 111, 114]))])

/-- 'truchmanlaw29.WeighTells': WHATEVER THE INPUT: true; the input reads as it did. -/
def weighTellsSpec : ChangeSpec := { name := "weighTells", fn := fun _ => fun
  | [d1, d2, d3] => { results := [.lit (.bool true)], args := [d1, d2, d3] }
  | _ => none }
def weighTellsRow : OpenClaim := { program := "ytdbcdeihinboeaadoor", sum := "3a81a794d214127c9a4b0af66262db1139cdfc62e015bc6cce3dc8d87628dc9c", func := "truchman/truchmanlaw29.WeighTells", spec := "weighTells", inPlace := ["internal/bytealg.abigen_runtime_cmpstring"], unfollowed := true, recurses := true, named := ["truchman/word.highs"], loops := true, apart := false, laid := [("truchman/word.highs", laid_truchman_word_highs)] }
def WeighTellsSaid : Prop := weighTellsRow.holds Tryd.pinned (OpenSpec.ofChange weighTellsSpec)

/-- ITS FALSE NEIGHBOUR: 'it returns false'. Refute it at one input. -/
def weighTellsWrong : ChangeSpec := { name := "weighTells", fn := fun _ => fun
  | [d1, d2, d3] => { results := [.lit (.bool false)], args := [d1, d2, d3] }
  | _ => none }
def WeighTellsWrongFalsely : Prop := weighTellsRow.holds Tryd.pinned (OpenSpec.ofChange weighTellsWrong)

/-- 'truchmanlaw29.WeighParts': WHATEVER THE INPUT: true; the input reads as it did. -/
def weighPartsSpec : ChangeSpec := { name := "weighParts", fn := fun _ => fun
  | [d1, d2] => { results := [.lit (.bool true)], args := [d1, d2] }
  | _ => none }
def weighPartsRow : OpenClaim := { program := "ytdbcdeihinboeaadoor", sum := "3a81a794d214127c9a4b0af66262db1139cdfc62e015bc6cce3dc8d87628dc9c", func := "truchman/truchmanlaw29.WeighParts", spec := "weighParts", inPlace := ["internal/bytealg.abigen_runtime_cmpstring"], unfollowed := true, recurses := true, named := ["truchman/word.highs"], loops := true, apart := false, laid := [("truchman/word.highs", laid_truchman_word_highs)] }
def WeighPartsSaid : Prop := weighPartsRow.holds Tryd.pinned (OpenSpec.ofChange weighPartsSpec)

/-- ITS FALSE NEIGHBOUR: 'it returns false'. Refute it at one input. -/
def weighPartsWrong : ChangeSpec := { name := "weighParts", fn := fun _ => fun
  | [d1, d2] => { results := [.lit (.bool false)], args := [d1, d2] }
  | _ => none }
def WeighPartsWrongFalsely : Prop := weighPartsRow.holds Tryd.pinned (OpenSpec.ofChange weighPartsWrong)

/-- 'truchmanlaw29.WeighPlain': WHATEVER THE INPUT: true; the input reads as it did. -/
def weighPlainSpec : ChangeSpec := { name := "weighPlain", fn := fun _ => fun
  | [d1, d2] => { results := [.lit (.bool true)], args := [d1, d2] }
  | _ => none }
def weighPlainRow : OpenClaim := { program := "ytdbcdeihinboeaadoor", sum := "3a81a794d214127c9a4b0af66262db1139cdfc62e015bc6cce3dc8d87628dc9c", func := "truchman/truchmanlaw29.WeighPlain", spec := "weighPlain", inPlace := ["internal/bytealg.abigen_runtime_cmpstring"], unfollowed := true, recurses := true, named := ["truchman/word.highs"], loops := true, apart := false, laid := [("truchman/word.highs", laid_truchman_word_highs)] }
def WeighPlainSaid : Prop := weighPlainRow.holds Tryd.pinned (OpenSpec.ofChange weighPlainSpec)

/-- ITS FALSE NEIGHBOUR: 'it returns false'. Refute it at one input. -/
def weighPlainWrong : ChangeSpec := { name := "weighPlain", fn := fun _ => fun
  | [d1, d2] => { results := [.lit (.bool false)], args := [d1, d2] }
  | _ => none }
def WeighPlainWrongFalsely : Prop := weighPlainRow.holds Tryd.pinned (OpenSpec.ofChange weighPlainWrong)

/-- 'truchmanlaw09.FaultTells': WHATEVER THE INPUT: true; the input reads as it did. -/
def faultTellsSpec : ChangeSpec := { name := "faultTells", fn := fun _ => fun
  | [d1, d2] => { results := [.lit (.bool true)], args := [d1, d2] }
  | _ => none }
def faultTellsRow : OpenClaim := { program := "ytdbcdeihinboeaadoor", sum := "3a81a794d214127c9a4b0af66262db1139cdfc62e015bc6cce3dc8d87628dc9c", func := "truchman/truchmanlaw09.FaultTells", spec := "faultTells", inPlace := ["internal/reflectlite.ValueOf", "(internal/reflectlite.Value).Type", "(internal/reflectlite.Value).IsNil", "internal/reflectlite.TypeOf", "(internal/reflectlite.Value).Elem", "(internal/reflectlite.Value).Set"], unfollowed := true, recurses := true, named := ["errors.errorType"], apart := false, laid := [("errors.errorType", laid_errors_errorType)] }
def FaultTellsSaid : Prop := faultTellsRow.holds Tryd.pinned (OpenSpec.ofChange faultTellsSpec)

/-- ITS FALSE NEIGHBOUR: 'it returns false'. Refute it at one input. -/
def faultTellsWrong : ChangeSpec := { name := "faultTells", fn := fun _ => fun
  | [d1, d2] => { results := [.lit (.bool false)], args := [d1, d2] }
  | _ => none }
def FaultTellsWrongFalsely : Prop := faultTellsRow.holds Tryd.pinned (OpenSpec.ofChange faultTellsWrong)

/-- 'truchmanlaw09.FaultKinds': WHATEVER THE INPUT: true; the input reads as it did. -/
def faultKindsSpec : ChangeSpec := { name := "faultKinds", fn := fun _ => fun
  | [d1, d2, d3] => { results := [.lit (.bool true)], args := [d1, d2, d3] }
  | _ => none }
def faultKindsRow : OpenClaim := { program := "ytdbcdeihinboeaadoor", sum := "3a81a794d214127c9a4b0af66262db1139cdfc62e015bc6cce3dc8d87628dc9c", func := "truchman/truchmanlaw09.FaultKinds", spec := "faultKinds", inPlace := ["internal/reflectlite.ValueOf", "(internal/reflectlite.Value).Type", "(internal/reflectlite.Value).IsNil", "internal/reflectlite.TypeOf", "(internal/reflectlite.Value).Elem", "(internal/reflectlite.Value).Set"], unfollowed := true, recurses := true, named := ["errors.errorType"], apart := false, laid := [("errors.errorType", laid_errors_errorType)] }
def FaultKindsSaid : Prop := faultKindsRow.holds Tryd.pinned (OpenSpec.ofChange faultKindsSpec)

/-- ITS FALSE NEIGHBOUR: 'it returns false'. Refute it at one input. -/
def faultKindsWrong : ChangeSpec := { name := "faultKinds", fn := fun _ => fun
  | [d1, d2, d3] => { results := [.lit (.bool false)], args := [d1, d2, d3] }
  | _ => none }
def FaultKindsWrongFalsely : Prop := faultKindsRow.holds Tryd.pinned (OpenSpec.ofChange faultKindsWrong)

/-- 'truchmanlaw09.FaultTwo': WHATEVER THE INPUT: true; the input reads as it did. -/
def faultTwoSpec : ChangeSpec := { name := "faultTwo", fn := fun _ => fun
  | [d1, d2, d3] => { results := [.lit (.bool true)], args := [d1, d2, d3] }
  | _ => none }
def faultTwoRow : OpenClaim := { program := "ytdbcdeihinboeaadoor", sum := "3a81a794d214127c9a4b0af66262db1139cdfc62e015bc6cce3dc8d87628dc9c", func := "truchman/truchmanlaw09.FaultTwo", spec := "faultTwo", inPlace := ["internal/reflectlite.ValueOf", "(internal/reflectlite.Value).Type", "(internal/reflectlite.Value).IsNil", "internal/reflectlite.TypeOf", "(internal/reflectlite.Value).Elem", "(internal/reflectlite.Value).Set"], unfollowed := true, recurses := true, named := ["errors.errorType"], apart := false, laid := [("errors.errorType", laid_errors_errorType)] }
def FaultTwoSaid : Prop := faultTwoRow.holds Tryd.pinned (OpenSpec.ofChange faultTwoSpec)

/-- ITS FALSE NEIGHBOUR: 'it returns false'. Refute it at one input. -/
def faultTwoWrong : ChangeSpec := { name := "faultTwo", fn := fun _ => fun
  | [d1, d2, d3] => { results := [.lit (.bool false)], args := [d1, d2, d3] }
  | _ => none }
def FaultTwoWrongFalsely : Prop := faultTwoRow.holds Tryd.pinned (OpenSpec.ofChange faultTwoWrong)

/-- 'truchmanlaw32.NjaegerDoes': WHATEVER THE INPUT: true; the input reads as it did. -/
def njaegerDoesSpec : ChangeSpec := { name := "njaegerDoes", fn := fun _ => fun
  | [d1, d2, d3] => { results := [.lit (.bool true)], args := [d1, d2, d3] }
  | _ => none }
def njaegerDoesRow : OpenClaim := { program := "ytdbcdeihinboeaadoor", sum := "3a81a794d214127c9a4b0af66262db1139cdfc62e015bc6cce3dc8d87628dc9c", func := "truchman/truchmanlaw32.NjaegerDoes", spec := "njaegerDoes", inPlace := ["internal/bytealg.abigen_runtime_cmpstring"], unfollowed := true, recurses := true, named := ["truchman/word.highs"], loops := true, apart := false, laid := [("truchman/word.highs", laid_truchman_word_highs)] }
def NjaegerDoesSaid : Prop := njaegerDoesRow.holds Tryd.pinned (OpenSpec.ofChange njaegerDoesSpec)

/-- ITS FALSE NEIGHBOUR: 'it returns false'. Refute it at one input. -/
def njaegerDoesWrong : ChangeSpec := { name := "njaegerDoes", fn := fun _ => fun
  | [d1, d2, d3] => { results := [.lit (.bool false)], args := [d1, d2, d3] }
  | _ => none }
def NjaegerDoesWrongFalsely : Prop := njaegerDoesRow.holds Tryd.pinned (OpenSpec.ofChange njaegerDoesWrong)

/-- 'truchmanlaw32.NjaegerStays': WHATEVER THE INPUT: true; the input reads as it did. -/
def njaegerStaysSpec : ChangeSpec := { name := "njaegerStays", fn := fun _ => fun
  | [d] => { results := [.lit (.bool true)], args := [d] }
  | _ => none }
def njaegerStaysRow : OpenClaim := { program := "ytdbcdeihinboeaadoor", sum := "3a81a794d214127c9a4b0af66262db1139cdfc62e015bc6cce3dc8d87628dc9c", func := "truchman/truchmanlaw32.NjaegerStays", spec := "njaegerStays", inPlace := ["internal/bytealg.abigen_runtime_cmpstring"], unfollowed := true, recurses := true, named := ["truchman/word.highs"], loops := true, apart := false, laid := [("truchman/word.highs", laid_truchman_word_highs)] }
def NjaegerStaysSaid : Prop := njaegerStaysRow.holds Tryd.pinned (OpenSpec.ofChange njaegerStaysSpec)

/-- ITS FALSE NEIGHBOUR: 'it returns false'. Refute it at one input. -/
def njaegerStaysWrong : ChangeSpec := { name := "njaegerStays", fn := fun _ => fun
  | [d] => { results := [.lit (.bool false)], args := [d] }
  | _ => none }
def NjaegerStaysWrongFalsely : Prop := njaegerStaysRow.holds Tryd.pinned (OpenSpec.ofChange njaegerStaysWrong)

/-- 'truchmanlaw33.NzipkinDoes': WHATEVER THE INPUT: true; the input reads as it did. -/
def nzipkinDoesSpec : ChangeSpec := { name := "nzipkinDoes", fn := fun _ => fun
  | [d1, d2, d3] => { results := [.lit (.bool true)], args := [d1, d2, d3] }
  | _ => none }
def nzipkinDoesRow : OpenClaim := { program := "ytdbcdeihinboeaadoor", sum := "3a81a794d214127c9a4b0af66262db1139cdfc62e015bc6cce3dc8d87628dc9c", func := "truchman/truchmanlaw33.NzipkinDoes", spec := "nzipkinDoes", inPlace := ["internal/bytealg.abigen_runtime_cmpstring"], unfollowed := true, recurses := true, named := ["truchman/word.highs"], loops := true, apart := false, laid := [("truchman/word.highs", laid_truchman_word_highs)] }
def NzipkinDoesSaid : Prop := nzipkinDoesRow.holds Tryd.pinned (OpenSpec.ofChange nzipkinDoesSpec)

/-- ITS FALSE NEIGHBOUR: 'it returns false'. Refute it at one input. -/
def nzipkinDoesWrong : ChangeSpec := { name := "nzipkinDoes", fn := fun _ => fun
  | [d1, d2, d3] => { results := [.lit (.bool false)], args := [d1, d2, d3] }
  | _ => none }
def NzipkinDoesWrongFalsely : Prop := nzipkinDoesRow.holds Tryd.pinned (OpenSpec.ofChange nzipkinDoesWrong)

/-- 'truchmanlaw33.NzipkinStays': WHATEVER THE INPUT: true; the input reads as it did. -/
def nzipkinStaysSpec : ChangeSpec := { name := "nzipkinStays", fn := fun _ => fun
  | [d] => { results := [.lit (.bool true)], args := [d] }
  | _ => none }
def nzipkinStaysRow : OpenClaim := { program := "ytdbcdeihinboeaadoor", sum := "3a81a794d214127c9a4b0af66262db1139cdfc62e015bc6cce3dc8d87628dc9c", func := "truchman/truchmanlaw33.NzipkinStays", spec := "nzipkinStays", inPlace := ["internal/bytealg.abigen_runtime_cmpstring"], unfollowed := true, recurses := true, named := ["truchman/word.highs"], loops := true, apart := false, laid := [("truchman/word.highs", laid_truchman_word_highs)] }
def NzipkinStaysSaid : Prop := nzipkinStaysRow.holds Tryd.pinned (OpenSpec.ofChange nzipkinStaysSpec)

/-- ITS FALSE NEIGHBOUR: 'it returns false'. Refute it at one input. -/
def nzipkinStaysWrong : ChangeSpec := { name := "nzipkinStays", fn := fun _ => fun
  | [d] => { results := [.lit (.bool false)], args := [d] }
  | _ => none }
def NzipkinStaysWrongFalsely : Prop := nzipkinStaysRow.holds Tryd.pinned (OpenSpec.ofChange nzipkinStaysWrong)

/-- 'truchmanlaw26.AttrsChecks': WHATEVER THE INPUT: true; the input reads as it did. -/
def attrsChecksSpec : ChangeSpec := { name := "attrsChecks", fn := fun _ => fun
  | [d] => { results := [.lit (.bool true)], args := [d] }
  | _ => none }
def attrsChecksRow : OpenClaim := { program := "ytdbcdeihinboeaadoor", sum := "3a81a794d214127c9a4b0af66262db1139cdfc62e015bc6cce3dc8d87628dc9c", func := "truchman/truchmanlaw26.AttrsChecks", spec := "attrsChecks", inPlace := ["internal/bytealg.abigen_runtime_cmpstring"], unfollowed := true, recurses := true, named := ["truchman/word.highs"], loops := true, apart := false, laid := [("truchman/word.highs", laid_truchman_word_highs)] }
def AttrsChecksSaid : Prop := attrsChecksRow.holds Tryd.pinned (OpenSpec.ofChange attrsChecksSpec)

/-- ITS FALSE NEIGHBOUR: 'it returns false'. Refute it at one input. -/
def attrsChecksWrong : ChangeSpec := { name := "attrsChecks", fn := fun _ => fun
  | [d] => { results := [.lit (.bool false)], args := [d] }
  | _ => none }
def AttrsChecksWrongFalsely : Prop := attrsChecksRow.holds Tryd.pinned (OpenSpec.ofChange attrsChecksWrong)

/-- 'truchmanlaw26.AttrsHold': WHATEVER THE INPUT: true; the input reads as it did. -/
def attrsHoldSpec : ChangeSpec := { name := "attrsHold", fn := fun _ => fun
  | [d1, d2, d3] => { results := [.lit (.bool true)], args := [d1, d2, d3] }
  | _ => none }
def attrsHoldRow : OpenClaim := { program := "ytdbcdeihinboeaadoor", sum := "3a81a794d214127c9a4b0af66262db1139cdfc62e015bc6cce3dc8d87628dc9c", func := "truchman/truchmanlaw26.AttrsHold", spec := "attrsHold", inPlace := ["internal/bytealg.abigen_runtime_cmpstring"], unfollowed := true, recurses := true, named := ["truchman/word.highs"], loops := true, apart := false, laid := [("truchman/word.highs", laid_truchman_word_highs)] }
def AttrsHoldSaid : Prop := attrsHoldRow.holds Tryd.pinned (OpenSpec.ofChange attrsHoldSpec)

/-- ITS FALSE NEIGHBOUR: 'it returns false'. Refute it at one input. -/
def attrsHoldWrong : ChangeSpec := { name := "attrsHold", fn := fun _ => fun
  | [d1, d2, d3] => { results := [.lit (.bool false)], args := [d1, d2, d3] }
  | _ => none }
def AttrsHoldWrongFalsely : Prop := attrsHoldRow.holds Tryd.pinned (OpenSpec.ofChange attrsHoldWrong)

/-- 'truchmanlaw26.AttrsPick': WHATEVER THE INPUT: true; the input reads as it did. -/
def attrsPickSpec : ChangeSpec := { name := "attrsPick", fn := fun _ => fun
  | [d1, d2, d3] => { results := [.lit (.bool true)], args := [d1, d2, d3] }
  | _ => none }
def attrsPickRow : OpenClaim := { program := "ytdbcdeihinboeaadoor", sum := "3a81a794d214127c9a4b0af66262db1139cdfc62e015bc6cce3dc8d87628dc9c", func := "truchman/truchmanlaw26.AttrsPick", spec := "attrsPick", inPlace := ["internal/bytealg.abigen_runtime_cmpstring"], unfollowed := true, recurses := true, named := ["truchman/word.highs"], loops := true, apart := false, laid := [("truchman/word.highs", laid_truchman_word_highs)] }
def AttrsPickSaid : Prop := attrsPickRow.holds Tryd.pinned (OpenSpec.ofChange attrsPickSpec)

/-- ITS FALSE NEIGHBOUR: 'it returns false'. Refute it at one input. -/
def attrsPickWrong : ChangeSpec := { name := "attrsPick", fn := fun _ => fun
  | [d1, d2, d3] => { results := [.lit (.bool false)], args := [d1, d2, d3] }
  | _ => none }
def AttrsPickWrongFalsely : Prop := attrsPickRow.holds Tryd.pinned (OpenSpec.ofChange attrsPickWrong)

/-- 'truchmanlaw34.NormalFinds': WHATEVER THE INPUT: true; the input reads as it did. -/
def normalFindsSpec : ChangeSpec := { name := "normalFinds", fn := fun _ => fun
  | [d] => { results := [.lit (.bool true)], args := [d] }
  | _ => none }
def normalFindsRow : OpenClaim := { program := "ytdbcdeihinboeaadoor", sum := "3a81a794d214127c9a4b0af66262db1139cdfc62e015bc6cce3dc8d87628dc9c", func := "truchman/truchmanlaw34.NormalFinds", spec := "normalFinds", inPlace := ["internal/bytealg.abigen_runtime_cmpstring"], unfollowed := true, recurses := true, named := ["truchman/word.highs"], apart := false, laid := [("truchman/word.highs", laid_truchman_word_highs)] }
def NormalFindsSaid : Prop := normalFindsRow.holds Tryd.pinned (OpenSpec.ofChange normalFindsSpec)

/-- ITS FALSE NEIGHBOUR: 'it returns false'. Refute it at one input. -/
def normalFindsWrong : ChangeSpec := { name := "normalFinds", fn := fun _ => fun
  | [d] => { results := [.lit (.bool false)], args := [d] }
  | _ => none }
def NormalFindsWrongFalsely : Prop := normalFindsRow.holds Tryd.pinned (OpenSpec.ofChange normalFindsWrong)

/-- 'truchmanlaw28.BatchGoes': WHATEVER THE INPUT: true; the input reads as it did. -/
def batchGoesSpec : ChangeSpec := { name := "batchGoes", fn := fun _ => fun
  | [d1, d2, d3] => { results := [.lit (.bool true)], args := [d1, d2, d3] }
  | _ => none }
def batchGoesRow : OpenClaim := { program := "ytdbcdeihinboeaadoor", sum := "3a81a794d214127c9a4b0af66262db1139cdfc62e015bc6cce3dc8d87628dc9c", func := "truchman/truchmanlaw28.BatchGoes", spec := "batchGoes", inPlace := ["internal/bytealg.abigen_runtime_cmpstring"], unfollowed := true, recurses := true, named := ["truchman/word.highs"], loops := true, apart := false, laid := [("truchman/word.highs", laid_truchman_word_highs)] }
def BatchGoesSaid : Prop := batchGoesRow.holds Tryd.pinned (OpenSpec.ofChange batchGoesSpec)

/-- ITS FALSE NEIGHBOUR: 'it returns false'. Refute it at one input. -/
def batchGoesWrong : ChangeSpec := { name := "batchGoes", fn := fun _ => fun
  | [d1, d2, d3] => { results := [.lit (.bool false)], args := [d1, d2, d3] }
  | _ => none }
def BatchGoesWrongFalsely : Prop := batchGoesRow.holds Tryd.pinned (OpenSpec.ofChange batchGoesWrong)

/-- 'truchmanlaw28.BatchCanon': WHATEVER THE INPUT: true; the input reads as it did. -/
def batchCanonSpec : ChangeSpec := { name := "batchCanon", fn := fun _ => fun
  | [d] => { results := [.lit (.bool true)], args := [d] }
  | _ => none }
def batchCanonRow : OpenClaim := { program := "ytdbcdeihinboeaadoor", sum := "3a81a794d214127c9a4b0af66262db1139cdfc62e015bc6cce3dc8d87628dc9c", func := "truchman/truchmanlaw28.BatchCanon", spec := "batchCanon", inPlace := ["internal/bytealg.abigen_runtime_cmpstring"], unfollowed := true, recurses := true, named := ["truchman/word.highs"], loops := true, apart := false, laid := [("truchman/word.highs", laid_truchman_word_highs)] }
def BatchCanonSaid : Prop := batchCanonRow.holds Tryd.pinned (OpenSpec.ofChange batchCanonSpec)

/-- ITS FALSE NEIGHBOUR: 'it returns false'. Refute it at one input. -/
def batchCanonWrong : ChangeSpec := { name := "batchCanon", fn := fun _ => fun
  | [d] => { results := [.lit (.bool false)], args := [d] }
  | _ => none }
def BatchCanonWrongFalsely : Prop := batchCanonRow.holds Tryd.pinned (OpenSpec.ofChange batchCanonWrong)

/-- 'truchmanlaw28.BatchSame': WHATEVER THE INPUT: true; the input reads as it did. -/
def batchSameSpec : ChangeSpec := { name := "batchSame", fn := fun _ => fun
  | [d1, d2] => { results := [.lit (.bool true)], args := [d1, d2] }
  | _ => none }
def batchSameRow : OpenClaim := { program := "ytdbcdeihinboeaadoor", sum := "3a81a794d214127c9a4b0af66262db1139cdfc62e015bc6cce3dc8d87628dc9c", func := "truchman/truchmanlaw28.BatchSame", spec := "batchSame", inPlace := ["internal/bytealg.abigen_runtime_cmpstring"], unfollowed := true, recurses := true, named := ["truchman/word.highs"], loops := true, apart := false, laid := [("truchman/word.highs", laid_truchman_word_highs)] }
def BatchSameSaid : Prop := batchSameRow.holds Tryd.pinned (OpenSpec.ofChange batchSameSpec)

/-- ITS FALSE NEIGHBOUR: 'it returns false'. Refute it at one input. -/
def batchSameWrong : ChangeSpec := { name := "batchSame", fn := fun _ => fun
  | [d1, d2] => { results := [.lit (.bool false)], args := [d1, d2] }
  | _ => none }
def BatchSameWrongFalsely : Prop := batchSameRow.holds Tryd.pinned (OpenSpec.ofChange batchSameWrong)

/-- 'truchmanlaw27.SpanCanon': WHATEVER THE INPUT: true; the input reads as it did. -/
def spanCanonSpec : ChangeSpec := { name := "spanCanon", fn := fun _ => fun
  | [d] => { results := [.lit (.bool true)], args := [d] }
  | _ => none }
def spanCanonRow : OpenClaim := { program := "ytdbcdeihinboeaadoor", sum := "3a81a794d214127c9a4b0af66262db1139cdfc62e015bc6cce3dc8d87628dc9c", func := "truchman/truchmanlaw27.SpanCanon", spec := "spanCanon", unfollowed := true, recurses := true, named := ["truchman/word.highs"], loops := true, apart := false, laid := [("truchman/word.highs", laid_truchman_word_highs)] }
def SpanCanonSaid : Prop := spanCanonRow.holds Tryd.pinned (OpenSpec.ofChange spanCanonSpec)

/-- ITS FALSE NEIGHBOUR: 'it returns false'. Refute it at one input. -/
def spanCanonWrong : ChangeSpec := { name := "spanCanon", fn := fun _ => fun
  | [d] => { results := [.lit (.bool false)], args := [d] }
  | _ => none }
def SpanCanonWrongFalsely : Prop := spanCanonRow.holds Tryd.pinned (OpenSpec.ofChange spanCanonWrong)

/-- 'truchmanlaw27.SpanSame': WHATEVER THE INPUT: true; the input reads as it did. -/
def spanSameSpec : ChangeSpec := { name := "spanSame", fn := fun _ => fun
  | [d1, d2] => { results := [.lit (.bool true)], args := [d1, d2] }
  | _ => none }
def spanSameRow : OpenClaim := { program := "ytdbcdeihinboeaadoor", sum := "3a81a794d214127c9a4b0af66262db1139cdfc62e015bc6cce3dc8d87628dc9c", func := "truchman/truchmanlaw27.SpanSame", spec := "spanSame", unfollowed := true, recurses := true, named := ["truchman/word.highs"], loops := true, apart := false, laid := [("truchman/word.highs", laid_truchman_word_highs)] }
def SpanSameSaid : Prop := spanSameRow.holds Tryd.pinned (OpenSpec.ofChange spanSameSpec)

/-- ITS FALSE NEIGHBOUR: 'it returns false'. Refute it at one input. -/
def spanSameWrong : ChangeSpec := { name := "spanSame", fn := fun _ => fun
  | [d1, d2] => { results := [.lit (.bool false)], args := [d1, d2] }
  | _ => none }
def SpanSameWrongFalsely : Prop := spanSameRow.holds Tryd.pinned (OpenSpec.ofChange spanSameWrong)

/- THE SECOND FORM. 'bulk': how many values and letters a reading holds, each counted each time it is reached (what is shared counts as often as it is met; a slice's spare places count too). A statement '..UptoSaid' is the law's where the arguments, and the package variables that the reading takes, are together of bulk at most 1048576: NARROWER than '..Said'. Prove '..Said' where nothing that the law and all that it calls make is longer than what came in: it says more and counts as full. Else prove '..UptoSaid'. A law counts once. -/
mutual
def uptoBulk {H : Type} : DataW H → Nat
  | .lit (.string bytes) => bytes.length + 1
  | .lit _ => 1
  | .nil => 1
  | .ptr d => uptoBulk d + 1
  | .slice elems spare => uptoBulkAll elems + uptoBulkAll spare + 1
  | .agg parts => uptoBulkAll parts + 1
  | .iface _ d => uptoBulk d + 1
  | .map entries => uptoBulkEntries entries + 1
  | .held _ => 1
def uptoBulkAll {H : Type} : List (DataW H) → Nat
  | [] => 0
  | d :: r => uptoBulk d + uptoBulkAll r
def uptoBulkEntries {H : Type} : List (Lit × DataW H) → Nat
  | [] => 0
  | x :: r => uptoBulkEntry x + uptoBulkEntries r
def uptoBulkEntry {H : Type} : Lit × DataW H → Nat
  | (.string bytes, d) => bytes.length + uptoBulk d + 1
  | (_, d) => uptoBulk d + 1
 end
def uptoSmall : (H : Type) → List (DataW H) → Bool := fun _ ds => decide (uptoBulkAll ds ≤ 1048576)
def OpenSpec.upto (s : _root_.Go.ChangeSpec) : _root_.Go.OpenSpec := { _root_.Go.OpenSpec.ofChange s with cond := some uptoSmall }

/-- 'truchmanlaw29.WeighTells', WHERE WHAT IT READS IS OF BULK AT MOST 1048576: true; the input reads as it did. -/
def weighTellsUptoRow : OpenClaim := { program := "ytdbcdeihinboeaadoor", sum := "3a81a794d214127c9a4b0af66262db1139cdfc62e015bc6cce3dc8d87628dc9c", func := "truchman/truchmanlaw29.WeighTells", spec := "weighTells", inPlace := ["internal/bytealg.abigen_runtime_cmpstring"], unfollowed := true, recurses := true, named := ["truchman/word.highs"], loops := true, apart := false, laid := [("truchman/word.highs", laid_truchman_word_highs)], narrowed := true }
def WeighTellsUptoSaid : Prop := weighTellsUptoRow.holds Tryd.pinned (OpenSpec.upto weighTellsSpec)

/-- 'truchmanlaw29.WeighParts', WHERE WHAT IT READS IS OF BULK AT MOST 1048576: true; the input reads as it did. -/
def weighPartsUptoRow : OpenClaim := { program := "ytdbcdeihinboeaadoor", sum := "3a81a794d214127c9a4b0af66262db1139cdfc62e015bc6cce3dc8d87628dc9c", func := "truchman/truchmanlaw29.WeighParts", spec := "weighParts", inPlace := ["internal/bytealg.abigen_runtime_cmpstring"], unfollowed := true, recurses := true, named := ["truchman/word.highs"], loops := true, apart := false, laid := [("truchman/word.highs", laid_truchman_word_highs)], narrowed := true }
def WeighPartsUptoSaid : Prop := weighPartsUptoRow.holds Tryd.pinned (OpenSpec.upto weighPartsSpec)

/-- 'truchmanlaw29.WeighPlain', WHERE WHAT IT READS IS OF BULK AT MOST 1048576: true; the input reads as it did. -/
def weighPlainUptoRow : OpenClaim := { program := "ytdbcdeihinboeaadoor", sum := "3a81a794d214127c9a4b0af66262db1139cdfc62e015bc6cce3dc8d87628dc9c", func := "truchman/truchmanlaw29.WeighPlain", spec := "weighPlain", inPlace := ["internal/bytealg.abigen_runtime_cmpstring"], unfollowed := true, recurses := true, named := ["truchman/word.highs"], loops := true, apart := false, laid := [("truchman/word.highs", laid_truchman_word_highs)], narrowed := true }
def WeighPlainUptoSaid : Prop := weighPlainUptoRow.holds Tryd.pinned (OpenSpec.upto weighPlainSpec)

/-- 'truchmanlaw09.FaultTells', WHERE WHAT IT READS IS OF BULK AT MOST 1048576: true; the input reads as it did. -/
def faultTellsUptoRow : OpenClaim := { program := "ytdbcdeihinboeaadoor", sum := "3a81a794d214127c9a4b0af66262db1139cdfc62e015bc6cce3dc8d87628dc9c", func := "truchman/truchmanlaw09.FaultTells", spec := "faultTells", inPlace := ["internal/reflectlite.ValueOf", "(internal/reflectlite.Value).Type", "(internal/reflectlite.Value).IsNil", "internal/reflectlite.TypeOf", "(internal/reflectlite.Value).Elem", "(internal/reflectlite.Value).Set"], unfollowed := true, recurses := true, named := ["errors.errorType"], apart := false, laid := [("errors.errorType", laid_errors_errorType)], narrowed := true }
def FaultTellsUptoSaid : Prop := faultTellsUptoRow.holds Tryd.pinned (OpenSpec.upto faultTellsSpec)

/-- 'truchmanlaw09.FaultKinds', WHERE WHAT IT READS IS OF BULK AT MOST 1048576: true; the input reads as it did. -/
def faultKindsUptoRow : OpenClaim := { program := "ytdbcdeihinboeaadoor", sum := "3a81a794d214127c9a4b0af66262db1139cdfc62e015bc6cce3dc8d87628dc9c", func := "truchman/truchmanlaw09.FaultKinds", spec := "faultKinds", inPlace := ["internal/reflectlite.ValueOf", "(internal/reflectlite.Value).Type", "(internal/reflectlite.Value).IsNil", "internal/reflectlite.TypeOf", "(internal/reflectlite.Value).Elem", "(internal/reflectlite.Value).Set"], unfollowed := true, recurses := true, named := ["errors.errorType"], apart := false, laid := [("errors.errorType", laid_errors_errorType)], narrowed := true }
def FaultKindsUptoSaid : Prop := faultKindsUptoRow.holds Tryd.pinned (OpenSpec.upto faultKindsSpec)

/-- 'truchmanlaw09.FaultTwo', WHERE WHAT IT READS IS OF BULK AT MOST 1048576: true; the input reads as it did. -/
def faultTwoUptoRow : OpenClaim := { program := "ytdbcdeihinboeaadoor", sum := "3a81a794d214127c9a4b0af66262db1139cdfc62e015bc6cce3dc8d87628dc9c", func := "truchman/truchmanlaw09.FaultTwo", spec := "faultTwo", inPlace := ["internal/reflectlite.ValueOf", "(internal/reflectlite.Value).Type", "(internal/reflectlite.Value).IsNil", "internal/reflectlite.TypeOf", "(internal/reflectlite.Value).Elem", "(internal/reflectlite.Value).Set"], unfollowed := true, recurses := true, named := ["errors.errorType"], apart := false, laid := [("errors.errorType", laid_errors_errorType)], narrowed := true }
def FaultTwoUptoSaid : Prop := faultTwoUptoRow.holds Tryd.pinned (OpenSpec.upto faultTwoSpec)

/-- 'truchmanlaw32.NjaegerDoes', WHERE WHAT IT READS IS OF BULK AT MOST 1048576: true; the input reads as it did. -/
def njaegerDoesUptoRow : OpenClaim := { program := "ytdbcdeihinboeaadoor", sum := "3a81a794d214127c9a4b0af66262db1139cdfc62e015bc6cce3dc8d87628dc9c", func := "truchman/truchmanlaw32.NjaegerDoes", spec := "njaegerDoes", inPlace := ["internal/bytealg.abigen_runtime_cmpstring"], unfollowed := true, recurses := true, named := ["truchman/word.highs"], loops := true, apart := false, laid := [("truchman/word.highs", laid_truchman_word_highs)], narrowed := true }
def NjaegerDoesUptoSaid : Prop := njaegerDoesUptoRow.holds Tryd.pinned (OpenSpec.upto njaegerDoesSpec)

/-- 'truchmanlaw32.NjaegerStays', WHERE WHAT IT READS IS OF BULK AT MOST 1048576: true; the input reads as it did. -/
def njaegerStaysUptoRow : OpenClaim := { program := "ytdbcdeihinboeaadoor", sum := "3a81a794d214127c9a4b0af66262db1139cdfc62e015bc6cce3dc8d87628dc9c", func := "truchman/truchmanlaw32.NjaegerStays", spec := "njaegerStays", inPlace := ["internal/bytealg.abigen_runtime_cmpstring"], unfollowed := true, recurses := true, named := ["truchman/word.highs"], loops := true, apart := false, laid := [("truchman/word.highs", laid_truchman_word_highs)], narrowed := true }
def NjaegerStaysUptoSaid : Prop := njaegerStaysUptoRow.holds Tryd.pinned (OpenSpec.upto njaegerStaysSpec)

/-- 'truchmanlaw33.NzipkinDoes', WHERE WHAT IT READS IS OF BULK AT MOST 1048576: true; the input reads as it did. -/
def nzipkinDoesUptoRow : OpenClaim := { program := "ytdbcdeihinboeaadoor", sum := "3a81a794d214127c9a4b0af66262db1139cdfc62e015bc6cce3dc8d87628dc9c", func := "truchman/truchmanlaw33.NzipkinDoes", spec := "nzipkinDoes", inPlace := ["internal/bytealg.abigen_runtime_cmpstring"], unfollowed := true, recurses := true, named := ["truchman/word.highs"], loops := true, apart := false, laid := [("truchman/word.highs", laid_truchman_word_highs)], narrowed := true }
def NzipkinDoesUptoSaid : Prop := nzipkinDoesUptoRow.holds Tryd.pinned (OpenSpec.upto nzipkinDoesSpec)

/-- 'truchmanlaw33.NzipkinStays', WHERE WHAT IT READS IS OF BULK AT MOST 1048576: true; the input reads as it did. -/
def nzipkinStaysUptoRow : OpenClaim := { program := "ytdbcdeihinboeaadoor", sum := "3a81a794d214127c9a4b0af66262db1139cdfc62e015bc6cce3dc8d87628dc9c", func := "truchman/truchmanlaw33.NzipkinStays", spec := "nzipkinStays", inPlace := ["internal/bytealg.abigen_runtime_cmpstring"], unfollowed := true, recurses := true, named := ["truchman/word.highs"], loops := true, apart := false, laid := [("truchman/word.highs", laid_truchman_word_highs)], narrowed := true }
def NzipkinStaysUptoSaid : Prop := nzipkinStaysUptoRow.holds Tryd.pinned (OpenSpec.upto nzipkinStaysSpec)

/-- 'truchmanlaw26.AttrsChecks', WHERE WHAT IT READS IS OF BULK AT MOST 1048576: true; the input reads as it did. -/
def attrsChecksUptoRow : OpenClaim := { program := "ytdbcdeihinboeaadoor", sum := "3a81a794d214127c9a4b0af66262db1139cdfc62e015bc6cce3dc8d87628dc9c", func := "truchman/truchmanlaw26.AttrsChecks", spec := "attrsChecks", inPlace := ["internal/bytealg.abigen_runtime_cmpstring"], unfollowed := true, recurses := true, named := ["truchman/word.highs"], loops := true, apart := false, laid := [("truchman/word.highs", laid_truchman_word_highs)], narrowed := true }
def AttrsChecksUptoSaid : Prop := attrsChecksUptoRow.holds Tryd.pinned (OpenSpec.upto attrsChecksSpec)

/-- 'truchmanlaw26.AttrsHold', WHERE WHAT IT READS IS OF BULK AT MOST 1048576: true; the input reads as it did. -/
def attrsHoldUptoRow : OpenClaim := { program := "ytdbcdeihinboeaadoor", sum := "3a81a794d214127c9a4b0af66262db1139cdfc62e015bc6cce3dc8d87628dc9c", func := "truchman/truchmanlaw26.AttrsHold", spec := "attrsHold", inPlace := ["internal/bytealg.abigen_runtime_cmpstring"], unfollowed := true, recurses := true, named := ["truchman/word.highs"], loops := true, apart := false, laid := [("truchman/word.highs", laid_truchman_word_highs)], narrowed := true }
def AttrsHoldUptoSaid : Prop := attrsHoldUptoRow.holds Tryd.pinned (OpenSpec.upto attrsHoldSpec)

/-- 'truchmanlaw26.AttrsPick', WHERE WHAT IT READS IS OF BULK AT MOST 1048576: true; the input reads as it did. -/
def attrsPickUptoRow : OpenClaim := { program := "ytdbcdeihinboeaadoor", sum := "3a81a794d214127c9a4b0af66262db1139cdfc62e015bc6cce3dc8d87628dc9c", func := "truchman/truchmanlaw26.AttrsPick", spec := "attrsPick", inPlace := ["internal/bytealg.abigen_runtime_cmpstring"], unfollowed := true, recurses := true, named := ["truchman/word.highs"], loops := true, apart := false, laid := [("truchman/word.highs", laid_truchman_word_highs)], narrowed := true }
def AttrsPickUptoSaid : Prop := attrsPickUptoRow.holds Tryd.pinned (OpenSpec.upto attrsPickSpec)

/-- 'truchmanlaw34.NormalFinds', WHERE WHAT IT READS IS OF BULK AT MOST 1048576: true; the input reads as it did. -/
def normalFindsUptoRow : OpenClaim := { program := "ytdbcdeihinboeaadoor", sum := "3a81a794d214127c9a4b0af66262db1139cdfc62e015bc6cce3dc8d87628dc9c", func := "truchman/truchmanlaw34.NormalFinds", spec := "normalFinds", inPlace := ["internal/bytealg.abigen_runtime_cmpstring"], unfollowed := true, recurses := true, named := ["truchman/word.highs"], apart := false, laid := [("truchman/word.highs", laid_truchman_word_highs)], narrowed := true }
def NormalFindsUptoSaid : Prop := normalFindsUptoRow.holds Tryd.pinned (OpenSpec.upto normalFindsSpec)

/-- 'truchmanlaw28.BatchGoes', WHERE WHAT IT READS IS OF BULK AT MOST 1048576: true; the input reads as it did. -/
def batchGoesUptoRow : OpenClaim := { program := "ytdbcdeihinboeaadoor", sum := "3a81a794d214127c9a4b0af66262db1139cdfc62e015bc6cce3dc8d87628dc9c", func := "truchman/truchmanlaw28.BatchGoes", spec := "batchGoes", inPlace := ["internal/bytealg.abigen_runtime_cmpstring"], unfollowed := true, recurses := true, named := ["truchman/word.highs"], loops := true, apart := false, laid := [("truchman/word.highs", laid_truchman_word_highs)], narrowed := true }
def BatchGoesUptoSaid : Prop := batchGoesUptoRow.holds Tryd.pinned (OpenSpec.upto batchGoesSpec)

/-- 'truchmanlaw28.BatchCanon', WHERE WHAT IT READS IS OF BULK AT MOST 1048576: true; the input reads as it did. -/
def batchCanonUptoRow : OpenClaim := { program := "ytdbcdeihinboeaadoor", sum := "3a81a794d214127c9a4b0af66262db1139cdfc62e015bc6cce3dc8d87628dc9c", func := "truchman/truchmanlaw28.BatchCanon", spec := "batchCanon", inPlace := ["internal/bytealg.abigen_runtime_cmpstring"], unfollowed := true, recurses := true, named := ["truchman/word.highs"], loops := true, apart := false, laid := [("truchman/word.highs", laid_truchman_word_highs)], narrowed := true }
def BatchCanonUptoSaid : Prop := batchCanonUptoRow.holds Tryd.pinned (OpenSpec.upto batchCanonSpec)

/-- 'truchmanlaw28.BatchSame', WHERE WHAT IT READS IS OF BULK AT MOST 1048576: true; the input reads as it did. -/
def batchSameUptoRow : OpenClaim := { program := "ytdbcdeihinboeaadoor", sum := "3a81a794d214127c9a4b0af66262db1139cdfc62e015bc6cce3dc8d87628dc9c", func := "truchman/truchmanlaw28.BatchSame", spec := "batchSame", inPlace := ["internal/bytealg.abigen_runtime_cmpstring"], unfollowed := true, recurses := true, named := ["truchman/word.highs"], loops := true, apart := false, laid := [("truchman/word.highs", laid_truchman_word_highs)], narrowed := true }
def BatchSameUptoSaid : Prop := batchSameUptoRow.holds Tryd.pinned (OpenSpec.upto batchSameSpec)

/-- 'truchmanlaw27.SpanCanon', WHERE WHAT IT READS IS OF BULK AT MOST 1048576: true; the input reads as it did. -/
def spanCanonUptoRow : OpenClaim := { program := "ytdbcdeihinboeaadoor", sum := "3a81a794d214127c9a4b0af66262db1139cdfc62e015bc6cce3dc8d87628dc9c", func := "truchman/truchmanlaw27.SpanCanon", spec := "spanCanon", unfollowed := true, recurses := true, named := ["truchman/word.highs"], loops := true, apart := false, laid := [("truchman/word.highs", laid_truchman_word_highs)], narrowed := true }
def SpanCanonUptoSaid : Prop := spanCanonUptoRow.holds Tryd.pinned (OpenSpec.upto spanCanonSpec)

/-- 'truchmanlaw27.SpanSame', WHERE WHAT IT READS IS OF BULK AT MOST 1048576: true; the input reads as it did. -/
def spanSameUptoRow : OpenClaim := { program := "ytdbcdeihinboeaadoor", sum := "3a81a794d214127c9a4b0af66262db1139cdfc62e015bc6cce3dc8d87628dc9c", func := "truchman/truchmanlaw27.SpanSame", spec := "spanSame", unfollowed := true, recurses := true, named := ["truchman/word.highs"], loops := true, apart := false, laid := [("truchman/word.highs", laid_truchman_word_highs)], narrowed := true }
def SpanSameUptoSaid : Prop := spanSameUptoRow.holds Tryd.pinned (OpenSpec.upto spanSameSpec)

end Rows
end Go.Proofs.YtdbcdeihinboeaaDoor
