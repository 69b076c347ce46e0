/-
  NARROWER THAN 'FOR EVERY INPUT', by the rows' own cells (each row's printed sentence says how): ValidTells: loops, laid · ValidRoom: laid · NjaegerKeeps: loops, laid · ValidParts: loops, laid.
  DERIVED. THE GIVEN ROWS OF THIS SEAT. 4 by the template 'for every input the law returns true; each argument reads behind the call as it read before'; 0 by the template 'total and deterministic' (their statements: YtilolbiefnbccaaGreatDoorTotals.lean).
  GIVEN WITH THE SEED: the statements are not yours to turn. If you find one false, say at which input.
  Laid BY PROGRAM, IN A SANDBOX (cutbox-rows.mjs): the forced cells as the released guide's own fill.sh prints them over the translation 0fa4fa17dbe8242a… (all of the seat's roots in one cut). By AI agents, Wed Nov 11 2026. No macro, syntax, notation, axiom, sorry.
-/
import Derived.Test.YtilolbiefnbccaaGreatDoorChecked
import GoSem.Claim
import GoSem.ClaimJoined
import GoSem.ClaimMapViews
import Derived.JoinedTies
import Derived.KernelRfl
namespace Go.Proofs.YtilolbiefnbccaaGreatDoor
/- THE CELL 'sum', in the pinned program and in every row, IS THE sha256 OF THE DUMP (.gsa) THAT YtilolbiefnbccaaGreatDoorProg.lean LOADS. Nothing in Lean hashes anything: it is a label: what it is worth is what the hold of that sum in a sandbox is worth. -/
noncomputable def Tryz.pinned : Pinned := { name := "ytilolbiefnbccaagreatdoor", sum := "0fa4fa17dbe8242aea34590c54924f374f1bd263ec7837f7b150fd086e81d050", checked := Tryz.checked }
namespace Rows
def none {H : Type} : Left H := { results := [], args := [] }

/- WHAT THE LISTED PACKAGE-LEVEL VARIABLES READ AS WHEN THE CALL BEGINS. Each datum BY PROGRAM (the guide's laid-datum.mjs) off the statement by which the dump's own 'gosem.cut.vars' lays the variable. In a bare row this is a premise. The card (YtilolbiefnbccaaGreatDoorCards.lean) ties it to the program's text. -/
def laid_truchman_word_highs {H : Type} : DataW H := .agg [.lit (.int .u8 56), .lit (.int .u8 48), .lit (.int .u8 40), .lit (.int .u8 32), .lit (.int .u8 24), .lit (.int .u8 16), .lit (.int .u8 8), .lit (.int .u8 0)]
def laid_errors_errorType {H : Type} : DataW H := .iface "internal/reflectlite.rtype" (.agg [.ptr (.lit (.string [101, 114, 114, 111, 114]))])

/-- 'truchmanlaw30.ValidTells': WHATEVER THE INPUT: true; the input reads as it did. -/
def validTellsSpec : ChangeSpec := { name := "validTells", fn := fun _ => fun
  | [d] => { results := [.lit (.bool true)], args := [d] }
  | _ => none }
def validTellsRow : OpenClaim := { program := "ytilolbiefnbccaagreatdoor", sum := "0fa4fa17dbe8242aea34590c54924f374f1bd263ec7837f7b150fd086e81d050", func := "truchman/truchmanlaw30.ValidTells", spec := "validTells", inPlace := ["internal/bytealg.abigen_runtime_cmpstring", "internal/reflectlite.ValueOf", "(internal/reflectlite.Value).Type", "(internal/reflectlite.Value).IsNil", "internal/reflectlite.TypeOf", "(internal/reflectlite.Value).Elem", "(internal/reflectlite.Value).Set"], unfollowed := true, recurses := true, named := ["truchman/word.highs", "errors.errorType"], loops := true, apart := false, laid := [("truchman/word.highs", laid_truchman_word_highs), ("errors.errorType", laid_errors_errorType)] }
def ValidTellsSaid : Prop := validTellsRow.holds Tryz.pinned (OpenSpec.ofChange validTellsSpec)

/-- ITS FALSE NEIGHBOUR: 'it returns false'. Refute it at one input. -/
def validTellsWrong : ChangeSpec := { name := "validTells", fn := fun _ => fun
  | [d] => { results := [.lit (.bool false)], args := [d] }
  | _ => none }
def ValidTellsWrongFalsely : Prop := validTellsRow.holds Tryz.pinned (OpenSpec.ofChange validTellsWrong)

/-- 'truchmanlaw30.ValidRoom': WHATEVER THE INPUT: true; the input reads as it did. -/
def validRoomSpec : ChangeSpec := { name := "validRoom", fn := fun _ => fun
  | [d1, d2] => { results := [.lit (.bool true)], args := [d1, d2] }
  | _ => none }
def validRoomRow : OpenClaim := { program := "ytilolbiefnbccaagreatdoor", sum := "0fa4fa17dbe8242aea34590c54924f374f1bd263ec7837f7b150fd086e81d050", func := "truchman/truchmanlaw30.ValidRoom", spec := "validRoom", inPlace := ["internal/bytealg.abigen_runtime_cmpstring", "internal/reflectlite.ValueOf", "(internal/reflectlite.Value).Type", "(internal/reflectlite.Value).IsNil", "internal/reflectlite.TypeOf", "(internal/reflectlite.Value).Elem", "(internal/reflectlite.Value).Set"], unfollowed := true, recurses := true, named := ["truchman/word.highs", "errors.errorType"], apart := false, laid := [("truchman/word.highs", laid_truchman_word_highs), ("errors.errorType", laid_errors_errorType)] }
def ValidRoomSaid : Prop := validRoomRow.holds Tryz.pinned (OpenSpec.ofChange validRoomSpec)

/-- ITS FALSE NEIGHBOUR: 'it returns false'. Refute it at one input. -/
def validRoomWrong : ChangeSpec := { name := "validRoom", fn := fun _ => fun
  | [d1, d2] => { results := [.lit (.bool false)], args := [d1, d2] }
  | _ => none }
def ValidRoomWrongFalsely : Prop := validRoomRow.holds Tryz.pinned (OpenSpec.ofChange validRoomWrong)

/-- 'truchmanlaw32.NjaegerKeeps': WHATEVER THE INPUT: true; the input reads as it did. -/
def njaegerKeepsSpec : ChangeSpec := { name := "njaegerKeeps", fn := fun _ => fun
  | [d] => { results := [.lit (.bool true)], args := [d] }
  | _ => none }
def njaegerKeepsRow : OpenClaim := { program := "ytilolbiefnbccaagreatdoor", sum := "0fa4fa17dbe8242aea34590c54924f374f1bd263ec7837f7b150fd086e81d050", func := "truchman/truchmanlaw32.NjaegerKeeps", spec := "njaegerKeeps", inPlace := ["internal/bytealg.abigen_runtime_cmpstring"], unfollowed := true, recurses := true, named := ["truchman/word.highs"], loops := true, apart := false, laid := [("truchman/word.highs", laid_truchman_word_highs)] }
def NjaegerKeepsSaid : Prop := njaegerKeepsRow.holds Tryz.pinned (OpenSpec.ofChange njaegerKeepsSpec)

/-- ITS FALSE NEIGHBOUR: 'it returns false'. Refute it at one input. -/
def njaegerKeepsWrong : ChangeSpec := { name := "njaegerKeeps", fn := fun _ => fun
  | [d] => { results := [.lit (.bool false)], args := [d] }
  | _ => none }
def NjaegerKeepsWrongFalsely : Prop := njaegerKeepsRow.holds Tryz.pinned (OpenSpec.ofChange njaegerKeepsWrong)

/-- 'truchmanlaw30.ValidParts': WHATEVER THE INPUT: true; the input reads as it did. -/
def validPartsSpec : ChangeSpec := { name := "validParts", fn := fun _ => fun
  | [d1, d2] => { results := [.lit (.bool true)], args := [d1, d2] }
  | _ => none }
def validPartsRow : OpenClaim := { program := "ytilolbiefnbccaagreatdoor", sum := "0fa4fa17dbe8242aea34590c54924f374f1bd263ec7837f7b150fd086e81d050", func := "truchman/truchmanlaw30.ValidParts", spec := "validParts", inPlace := ["internal/bytealg.abigen_runtime_cmpstring", "internal/reflectlite.ValueOf", "(internal/reflectlite.Value).Type", "(internal/reflectlite.Value).IsNil", "internal/reflectlite.TypeOf", "(internal/reflectlite.Value).Elem", "(internal/reflectlite.Value).Set"], unfollowed := true, recurses := true, named := ["truchman/word.highs", "errors.errorType"], loops := true, apart := false, laid := [("truchman/word.highs", laid_truchman_word_highs), ("errors.errorType", laid_errors_errorType)] }
def ValidPartsSaid : Prop := validPartsRow.holds Tryz.pinned (OpenSpec.ofChange validPartsSpec)

/-- ITS FALSE NEIGHBOUR: 'it returns false'. Refute it at one input. -/
def validPartsWrong : ChangeSpec := { name := "validParts", fn := fun _ => fun
  | [d1, d2] => { results := [.lit (.bool false)], args := [d1, d2] }
  | _ => none }
def ValidPartsWrongFalsely : Prop := validPartsRow.holds Tryz.pinned (OpenSpec.ofChange validPartsWrong)

/- THE SECOND FORM. 'bulk': how many values and letters a reading holds, each counted each time it is reached (what is shared counts as often as it is met; a slice's spare places count too). A statement '..UptoSaid' is the law's where the arguments, and the package variables that the reading takes, are together of bulk at most 1048576: NARROWER than '..Said'. Prove '..Said' where nothing that the law and all that it calls make is longer than what came in: it says more and counts as full. Else prove '..UptoSaid'. A law counts once. -/
mutual
def uptoBulk {H : Type} : DataW H → Nat
  | .lit (.string bytes) => bytes.length + 1
  | .lit _ => 1
  | .nil => 1
  | .ptr d => uptoBulk d + 1
  | .slice elems spare => uptoBulkAll elems + uptoBulkAll spare + 1
  | .agg parts => uptoBulkAll parts + 1
  | .iface _ d => uptoBulk d + 1
  | .map entries => uptoBulkEntries entries + 1
  | .held _ => 1
def uptoBulkAll {H : Type} : List (DataW H) → Nat
  | [] => 0
  | d :: r => uptoBulk d + uptoBulkAll r
def uptoBulkEntries {H : Type} : List (Lit × DataW H) → Nat
  | [] => 0
  | x :: r => uptoBulkEntry x + uptoBulkEntries r
def uptoBulkEntry {H : Type} : Lit × DataW H → Nat
  | (.string bytes, d) => bytes.length + uptoBulk d + 1
  | (_, d) => uptoBulk d + 1
 end
def uptoSmall : (H : Type) → List (DataW H) → Bool := fun _ ds => decide (uptoBulkAll ds ≤ 1048576)
def OpenSpec.upto (s : _root_.Go.ChangeSpec) : _root_.Go.OpenSpec := { _root_.Go.OpenSpec.ofChange s with cond := some uptoSmall }

/-- 'truchmanlaw30.ValidTells', WHERE WHAT IT READS IS OF BULK AT MOST 1048576: true; the input reads as it did. -/
def validTellsUptoRow : OpenClaim := { program := "ytilolbiefnbccaagreatdoor", sum := "0fa4fa17dbe8242aea34590c54924f374f1bd263ec7837f7b150fd086e81d050", func := "truchman/truchmanlaw30.ValidTells", spec := "validTells", inPlace := ["internal/bytealg.abigen_runtime_cmpstring", "internal/reflectlite.ValueOf", "(internal/reflectlite.Value).Type", "(internal/reflectlite.Value).IsNil", "internal/reflectlite.TypeOf", "(internal/reflectlite.Value).Elem", "(internal/reflectlite.Value).Set"], unfollowed := true, recurses := true, named := ["truchman/word.highs", "errors.errorType"], loops := true, apart := false, laid := [("truchman/word.highs", laid_truchman_word_highs), ("errors.errorType", laid_errors_errorType)], narrowed := true }
def ValidTellsUptoSaid : Prop := validTellsUptoRow.holds Tryz.pinned (OpenSpec.upto validTellsSpec)

/-- 'truchmanlaw30.ValidRoom', WHERE WHAT IT READS IS OF BULK AT MOST 1048576: true; the input reads as it did. -/
def validRoomUptoRow : OpenClaim := { program := "ytilolbiefnbccaagreatdoor", sum := "0fa4fa17dbe8242aea34590c54924f374f1bd263ec7837f7b150fd086e81d050", func := "truchman/truchmanlaw30.ValidRoom", spec := "validRoom", inPlace := ["internal/bytealg.abigen_runtime_cmpstring", "internal/reflectlite.ValueOf", "(internal/reflectlite.Value).Type", "(internal/reflectlite.Value).IsNil", "internal/reflectlite.TypeOf", "(internal/reflectlite.Value).Elem", "(internal/reflectlite.Value).Set"], unfollowed := true, recurses := true, named := ["truchman/word.highs", "errors.errorType"], apart := false, laid := [("truchman/word.highs", laid_truchman_word_highs), ("errors.errorType", laid_errors_errorType)], narrowed := true }
def ValidRoomUptoSaid : Prop := validRoomUptoRow.holds Tryz.pinned (OpenSpec.upto validRoomSpec)

/-- 'truchmanlaw32.NjaegerKeeps', WHERE WHAT IT READS IS OF BULK AT MOST 1048576: true; the input reads as it did. -/
def njaegerKeepsUptoRow : OpenClaim := { program := "ytilolbiefnbccaagreatdoor", sum := "0fa4fa17dbe8242aea34590c54924f374f1bd263ec7837f7b150fd086e81d050", func := "truchman/truchmanlaw32.NjaegerKeeps", spec := "njaegerKeeps", inPlace := ["internal/bytealg.abigen_runtime_cmpstring"], unfollowed := true, recurses := true, named := ["truchman/word.highs"], loops := true, apart := false, laid := [("truchman/word.highs", laid_truchman_word_highs)], narrowed := true }
def NjaegerKeepsUptoSaid : Prop := njaegerKeepsUptoRow.holds Tryz.pinned (OpenSpec.upto njaegerKeepsSpec)

/-- 'truchmanlaw30.ValidParts', WHERE WHAT IT READS IS OF BULK AT MOST 1048576: true; the input reads as it did. -/
def validPartsUptoRow : OpenClaim := { program := "ytilolbiefnbccaagreatdoor", sum := "0fa4fa17dbe8242aea34590c54924f374f1bd263ec7837f7b150fd086e81d050", func := "truchman/truchmanlaw30.ValidParts", spec := "validParts", inPlace := ["internal/bytealg.abigen_runtime_cmpstring", "internal/reflectlite.ValueOf", "(internal/reflectlite.Value).Type", "(internal/reflectlite.Value).IsNil", "internal/reflectlite.TypeOf", "(internal/reflectlite.Value).Elem", "(internal/reflectlite.Value).Set"], unfollowed := true, recurses := true, named := ["truchman/word.highs", "errors.errorType"], loops := true, apart := false, laid := [("truchman/word.highs", laid_truchman_word_highs), ("errors.errorType", laid_errors_errorType)], narrowed := true }
def ValidPartsUptoSaid : Prop := validPartsUptoRow.holds Tryz.pinned (OpenSpec.upto validPartsSpec)

end Rows
end Go.Proofs.YtilolbiefnbccaaGreatDoor
