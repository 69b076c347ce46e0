/-
  NARROWER THAN 'FOR EVERY INPUT', by the rows' own cells (each row's printed sentence says how): WeighTells: loops, laid · WeighParts: loops, laid · NjaegerDoes: loops, laid · NjaegerStays: loops, laid · AttrsChecks: loops, laid · AttrsHold: loops, laid · AttrsPick: loops, laid · BatchSame: loops, laid · SpanSame: loops, laid.
  DERIVED. THE GIVEN ROWS OF THIS SEAT. 9 by the template 'for every input the law returns true; each argument reads behind the call as it read before'; 0 by the template 'total and deterministic' (their statements: YtmjlfkmgamlpcaaDoorTotals.lean).
  GIVEN WITH THE SEED: the statements are not yours to turn. If you find one false, say at which input.
  Laid BY PROGRAM, IN A SANDBOX (cutbox-rows.mjs): the forced cells as the released guide's own fill.sh prints them over the translation 52541c3ab21bd393… (all of the seat's roots in one cut). By AI agents, Wed Nov 11 2026. No macro, syntax, notation, axiom, sorry.
-/
import Derived.Test.YtmjlfkmgamlpcaaDoorChecked
import GoSem.Claim
import GoSem.ClaimJoined
import GoSem.ClaimMapViews
import Derived.JoinedTies
import Derived.KernelRfl
namespace Go.Proofs.YtmjlfkmgamlpcaaDoor
/- THE CELL 'sum', in the pinned program and in every row, IS THE sha256 OF THE DUMP (.gsa) THAT YtmjlfkmgamlpcaaDoorProg.lean LOADS. Nothing in Lean hashes anything: it is a label: what it is worth is what the hold of that sum in a sandbox is worth. -/
noncomputable def Tryd.pinned : Pinned := { name := "ytmjlfkmgamlpcaadoor", sum := "52541c3ab21bd393b30f8352333c250d7b105cb5c7c033d355841b27d0fd9dae", checked := Tryd.checked }
namespace Rows
def none {H : Type} : Left H := { results := [], args := [] }

/- WHAT THE LISTED PACKAGE-LEVEL VARIABLES READ AS WHEN THE CALL BEGINS. Each datum BY PROGRAM (the guide's laid-datum.mjs) off the statement by which the dump's own 'gosem.cut.vars' lays the variable. In a bare row this is a premise. The card (YtmjlfkmgamlpcaaDoorCards.lean) ties it to the program's text. -/
def laid_truchman_word_highs {H : Type} : DataW H := .agg [.lit (.int .u8 56), .lit (.int .u8 48), .lit (.int .u8 40), .lit (.int .u8 32), .lit (.int .u8 24), .lit (.int .u8 16), .lit (.int .u8 8), .lit (.int .u8 0)]

/-- 'truchmanlaw29.WeighTells': WHATEVER THE INPUT: true; the input reads as it did. -/
def weighTellsSpec : ChangeSpec := { name := "weighTells", fn := fun _ => fun
  | [d1, d2, d3] => { results := [.lit (.bool true)], args := [d1, d2, d3] }
  | _ => none }
def weighTellsRow : OpenClaim := { program := "ytmjlfkmgamlpcaadoor", sum := "52541c3ab21bd393b30f8352333c250d7b105cb5c7c033d355841b27d0fd9dae", func := "truchman/truchmanlaw29.WeighTells", spec := "weighTells", inPlace := ["internal/bytealg.abigen_runtime_cmpstring"], unfollowed := true, recurses := true, named := ["truchman/word.highs"], loops := true, apart := false, laid := [("truchman/word.highs", laid_truchman_word_highs)] }
def WeighTellsSaid : Prop := weighTellsRow.holds Tryd.pinned (OpenSpec.ofChange weighTellsSpec)

/-- ITS FALSE NEIGHBOUR: 'it returns false'. Refute it at one input. -/
def weighTellsWrong : ChangeSpec := { name := "weighTells", fn := fun _ => fun
  | [d1, d2, d3] => { results := [.lit (.bool false)], args := [d1, d2, d3] }
  | _ => none }
def WeighTellsWrongFalsely : Prop := weighTellsRow.holds Tryd.pinned (OpenSpec.ofChange weighTellsWrong)

/-- 'truchmanlaw29.WeighParts': WHATEVER THE INPUT: true; the input reads as it did. -/
def weighPartsSpec : ChangeSpec := { name := "weighParts", fn := fun _ => fun
  | [d1, d2] => { results := [.lit (.bool true)], args := [d1, d2] }
  | _ => none }
def weighPartsRow : OpenClaim := { program := "ytmjlfkmgamlpcaadoor", sum := "52541c3ab21bd393b30f8352333c250d7b105cb5c7c033d355841b27d0fd9dae", func := "truchman/truchmanlaw29.WeighParts", spec := "weighParts", inPlace := ["internal/bytealg.abigen_runtime_cmpstring"], unfollowed := true, recurses := true, named := ["truchman/word.highs"], loops := true, apart := false, laid := [("truchman/word.highs", laid_truchman_word_highs)] }
def WeighPartsSaid : Prop := weighPartsRow.holds Tryd.pinned (OpenSpec.ofChange weighPartsSpec)

/-- ITS FALSE NEIGHBOUR: 'it returns false'. Refute it at one input. -/
def weighPartsWrong : ChangeSpec := { name := "weighParts", fn := fun _ => fun
  | [d1, d2] => { results := [.lit (.bool false)], args := [d1, d2] }
  | _ => none }
def WeighPartsWrongFalsely : Prop := weighPartsRow.holds Tryd.pinned (OpenSpec.ofChange weighPartsWrong)

/-- 'truchmanlaw32.NjaegerDoes': WHATEVER THE INPUT: true; the input reads as it did. -/
def njaegerDoesSpec : ChangeSpec := { name := "njaegerDoes", fn := fun _ => fun
  | [d1, d2, d3] => { results := [.lit (.bool true)], args := [d1, d2, d3] }
  | _ => none }
def njaegerDoesRow : OpenClaim := { program := "ytmjlfkmgamlpcaadoor", sum := "52541c3ab21bd393b30f8352333c250d7b105cb5c7c033d355841b27d0fd9dae", func := "truchman/truchmanlaw32.NjaegerDoes", spec := "njaegerDoes", inPlace := ["internal/bytealg.abigen_runtime_cmpstring"], unfollowed := true, recurses := true, named := ["truchman/word.highs"], loops := true, apart := false, laid := [("truchman/word.highs", laid_truchman_word_highs)] }
def NjaegerDoesSaid : Prop := njaegerDoesRow.holds Tryd.pinned (OpenSpec.ofChange njaegerDoesSpec)

/-- ITS FALSE NEIGHBOUR: 'it returns false'. Refute it at one input. -/
def njaegerDoesWrong : ChangeSpec := { name := "njaegerDoes", fn := fun _ => fun
  | [d1, d2, d3] => { results := [.lit (.bool false)], args := [d1, d2, d3] }
  | _ => none }
def NjaegerDoesWrongFalsely : Prop := njaegerDoesRow.holds Tryd.pinned (OpenSpec.ofChange njaegerDoesWrong)

/-- 'truchmanlaw32.NjaegerStays': WHATEVER THE INPUT: true; the input reads as it did. -/
def njaegerStaysSpec : ChangeSpec := { name := "njaegerStays", fn := fun _ => fun
  | [d] => { results := [.lit (.bool true)], args := [d] }
  | _ => none }
def njaegerStaysRow : OpenClaim := { program := "ytmjlfkmgamlpcaadoor", sum := "52541c3ab21bd393b30f8352333c250d7b105cb5c7c033d355841b27d0fd9dae", func := "truchman/truchmanlaw32.NjaegerStays", spec := "njaegerStays", inPlace := ["internal/bytealg.abigen_runtime_cmpstring"], unfollowed := true, recurses := true, named := ["truchman/word.highs"], loops := true, apart := false, laid := [("truchman/word.highs", laid_truchman_word_highs)] }
def NjaegerStaysSaid : Prop := njaegerStaysRow.holds Tryd.pinned (OpenSpec.ofChange njaegerStaysSpec)

/-- ITS FALSE NEIGHBOUR: 'it returns false'. Refute it at one input. -/
def njaegerStaysWrong : ChangeSpec := { name := "njaegerStays", fn := fun _ => fun
  | [d] => { results := [.lit (.bool false)], args := [d] }
  | _ => none }
def NjaegerStaysWrongFalsely : Prop := njaegerStaysRow.holds Tryd.pinned (OpenSpec.ofChange njaegerStaysWrong)

/-- 'truchmanlaw26.AttrsChecks': WHATEVER THE INPUT: true; the input reads as it did. -/
def attrsChecksSpec : ChangeSpec := { name := "attrsChecks", fn := fun _ => fun
  | [d] => { results := [.lit (.bool true)], args := [d] }
  | _ => none }
def attrsChecksRow : OpenClaim := { program := "ytmjlfkmgamlpcaadoor", sum := "52541c3ab21bd393b30f8352333c250d7b105cb5c7c033d355841b27d0fd9dae", func := "truchman/truchmanlaw26.AttrsChecks", spec := "attrsChecks", inPlace := ["internal/bytealg.abigen_runtime_cmpstring"], unfollowed := true, recurses := true, named := ["truchman/word.highs"], loops := true, apart := false, laid := [("truchman/word.highs", laid_truchman_word_highs)] }
def AttrsChecksSaid : Prop := attrsChecksRow.holds Tryd.pinned (OpenSpec.ofChange attrsChecksSpec)

/-- ITS FALSE NEIGHBOUR: 'it returns false'. Refute it at one input. -/
def attrsChecksWrong : ChangeSpec := { name := "attrsChecks", fn := fun _ => fun
  | [d] => { results := [.lit (.bool false)], args := [d] }
  | _ => none }
def AttrsChecksWrongFalsely : Prop := attrsChecksRow.holds Tryd.pinned (OpenSpec.ofChange attrsChecksWrong)

/-- 'truchmanlaw26.AttrsHold': WHATEVER THE INPUT: true; the input reads as it did. -/
def attrsHoldSpec : ChangeSpec := { name := "attrsHold", fn := fun _ => fun
  | [d1, d2, d3] => { results := [.lit (.bool true)], args := [d1, d2, d3] }
  | _ => none }
def attrsHoldRow : OpenClaim := { program := "ytmjlfkmgamlpcaadoor", sum := "52541c3ab21bd393b30f8352333c250d7b105cb5c7c033d355841b27d0fd9dae", func := "truchman/truchmanlaw26.AttrsHold", spec := "attrsHold", inPlace := ["internal/bytealg.abigen_runtime_cmpstring"], unfollowed := true, recurses := true, named := ["truchman/word.highs"], loops := true, apart := false, laid := [("truchman/word.highs", laid_truchman_word_highs)] }
def AttrsHoldSaid : Prop := attrsHoldRow.holds Tryd.pinned (OpenSpec.ofChange attrsHoldSpec)

/-- ITS FALSE NEIGHBOUR: 'it returns false'. Refute it at one input. -/
def attrsHoldWrong : ChangeSpec := { name := "attrsHold", fn := fun _ => fun
  | [d1, d2, d3] => { results := [.lit (.bool false)], args := [d1, d2, d3] }
  | _ => none }
def AttrsHoldWrongFalsely : Prop := attrsHoldRow.holds Tryd.pinned (OpenSpec.ofChange attrsHoldWrong)

/-- 'truchmanlaw26.AttrsPick': WHATEVER THE INPUT: true; the input reads as it did. -/
def attrsPickSpec : ChangeSpec := { name := "attrsPick", fn := fun _ => fun
  | [d1, d2, d3] => { results := [.lit (.bool true)], args := [d1, d2, d3] }
  | _ => none }
def attrsPickRow : OpenClaim := { program := "ytmjlfkmgamlpcaadoor", sum := "52541c3ab21bd393b30f8352333c250d7b105cb5c7c033d355841b27d0fd9dae", func := "truchman/truchmanlaw26.AttrsPick", spec := "attrsPick", inPlace := ["internal/bytealg.abigen_runtime_cmpstring"], unfollowed := true, recurses := true, named := ["truchman/word.highs"], loops := true, apart := false, laid := [("truchman/word.highs", laid_truchman_word_highs)] }
def AttrsPickSaid : Prop := attrsPickRow.holds Tryd.pinned (OpenSpec.ofChange attrsPickSpec)

/-- ITS FALSE NEIGHBOUR: 'it returns false'. Refute it at one input. -/
def attrsPickWrong : ChangeSpec := { name := "attrsPick", fn := fun _ => fun
  | [d1, d2, d3] => { results := [.lit (.bool false)], args := [d1, d2, d3] }
  | _ => none }
def AttrsPickWrongFalsely : Prop := attrsPickRow.holds Tryd.pinned (OpenSpec.ofChange attrsPickWrong)

/-- 'truchmanlaw28.BatchSame': WHATEVER THE INPUT: true; the input reads as it did. -/
def batchSameSpec : ChangeSpec := { name := "batchSame", fn := fun _ => fun
  | [d1, d2] => { results := [.lit (.bool true)], args := [d1, d2] }
  | _ => none }
def batchSameRow : OpenClaim := { program := "ytmjlfkmgamlpcaadoor", sum := "52541c3ab21bd393b30f8352333c250d7b105cb5c7c033d355841b27d0fd9dae", func := "truchman/truchmanlaw28.BatchSame", spec := "batchSame", inPlace := ["internal/bytealg.abigen_runtime_cmpstring"], unfollowed := true, recurses := true, named := ["truchman/word.highs"], loops := true, apart := false, laid := [("truchman/word.highs", laid_truchman_word_highs)] }
def BatchSameSaid : Prop := batchSameRow.holds Tryd.pinned (OpenSpec.ofChange batchSameSpec)

/-- ITS FALSE NEIGHBOUR: 'it returns false'. Refute it at one input. -/
def batchSameWrong : ChangeSpec := { name := "batchSame", fn := fun _ => fun
  | [d1, d2] => { results := [.lit (.bool false)], args := [d1, d2] }
  | _ => none }
def BatchSameWrongFalsely : Prop := batchSameRow.holds Tryd.pinned (OpenSpec.ofChange batchSameWrong)

/-- 'truchmanlaw27.SpanSame': WHATEVER THE INPUT: true; the input reads as it did. -/
def spanSameSpec : ChangeSpec := { name := "spanSame", fn := fun _ => fun
  | [d1, d2] => { results := [.lit (.bool true)], args := [d1, d2] }
  | _ => none }
def spanSameRow : OpenClaim := { program := "ytmjlfkmgamlpcaadoor", sum := "52541c3ab21bd393b30f8352333c250d7b105cb5c7c033d355841b27d0fd9dae", func := "truchman/truchmanlaw27.SpanSame", spec := "spanSame", unfollowed := true, recurses := true, named := ["truchman/word.highs"], loops := true, apart := false, laid := [("truchman/word.highs", laid_truchman_word_highs)] }
def SpanSameSaid : Prop := spanSameRow.holds Tryd.pinned (OpenSpec.ofChange spanSameSpec)

/-- ITS FALSE NEIGHBOUR: 'it returns false'. Refute it at one input. -/
def spanSameWrong : ChangeSpec := { name := "spanSame", fn := fun _ => fun
  | [d1, d2] => { results := [.lit (.bool false)], args := [d1, d2] }
  | _ => none }
def SpanSameWrongFalsely : Prop := spanSameRow.holds Tryd.pinned (OpenSpec.ofChange spanSameWrong)

/- THE SECOND FORM. 'bulk': how many values and letters a reading holds, each counted each time it is reached (what is shared counts as often as it is met; a slice's spare places count too). A statement '..UptoSaid' is the law's where the arguments, and the package variables that the reading takes, are together of bulk at most 1048576: NARROWER than '..Said'. Prove '..Said' where nothing that the law and all that it calls make is longer than what came in: it says more and counts as full. Else prove '..UptoSaid'. A law counts once. -/
mutual
def uptoBulk {H : Type} : DataW H → Nat
  | .lit (.string bytes) => bytes.length + 1
  | .lit _ => 1
  | .nil => 1
  | .ptr d => uptoBulk d + 1
  | .slice elems spare => uptoBulkAll elems + uptoBulkAll spare + 1
  | .agg parts => uptoBulkAll parts + 1
  | .iface _ d => uptoBulk d + 1
  | .map entries => uptoBulkEntries entries + 1
  | .held _ => 1
def uptoBulkAll {H : Type} : List (DataW H) → Nat
  | [] => 0
  | d :: r => uptoBulk d + uptoBulkAll r
def uptoBulkEntries {H : Type} : List (Lit × DataW H) → Nat
  | [] => 0
  | x :: r => uptoBulkEntry x + uptoBulkEntries r
def uptoBulkEntry {H : Type} : Lit × DataW H → Nat
  | (.string bytes, d) => bytes.length + uptoBulk d + 1
  | (_, d) => uptoBulk d + 1
 end
def uptoSmall : (H : Type) → List (DataW H) → Bool := fun _ ds => decide (uptoBulkAll ds ≤ 1048576)
def OpenSpec.upto (s : _root_.Go.ChangeSpec) : _root_.Go.OpenSpec := { _root_.Go.OpenSpec.ofChange s with cond := some uptoSmall }

/-- 'truchmanlaw29.WeighTells', WHERE WHAT IT READS IS OF BULK AT MOST 1048576: true; the input reads as it did. -/
def weighTellsUptoRow : OpenClaim := { program := "ytmjlfkmgamlpcaadoor", sum := "52541c3ab21bd393b30f8352333c250d7b105cb5c7c033d355841b27d0fd9dae", func := "truchman/truchmanlaw29.WeighTells", spec := "weighTells", inPlace := ["internal/bytealg.abigen_runtime_cmpstring"], unfollowed := true, recurses := true, named := ["truchman/word.highs"], loops := true, apart := false, laid := [("truchman/word.highs", laid_truchman_word_highs)], narrowed := true }
def WeighTellsUptoSaid : Prop := weighTellsUptoRow.holds Tryd.pinned (OpenSpec.upto weighTellsSpec)

/-- 'truchmanlaw29.WeighParts', WHERE WHAT IT READS IS OF BULK AT MOST 1048576: true; the input reads as it did. -/
def weighPartsUptoRow : OpenClaim := { program := "ytmjlfkmgamlpcaadoor", sum := "52541c3ab21bd393b30f8352333c250d7b105cb5c7c033d355841b27d0fd9dae", func := "truchman/truchmanlaw29.WeighParts", spec := "weighParts", inPlace := ["internal/bytealg.abigen_runtime_cmpstring"], unfollowed := true, recurses := true, named := ["truchman/word.highs"], loops := true, apart := false, laid := [("truchman/word.highs", laid_truchman_word_highs)], narrowed := true }
def WeighPartsUptoSaid : Prop := weighPartsUptoRow.holds Tryd.pinned (OpenSpec.upto weighPartsSpec)

/-- 'truchmanlaw32.NjaegerDoes', WHERE WHAT IT READS IS OF BULK AT MOST 1048576: true; the input reads as it did. -/
def njaegerDoesUptoRow : OpenClaim := { program := "ytmjlfkmgamlpcaadoor", sum := "52541c3ab21bd393b30f8352333c250d7b105cb5c7c033d355841b27d0fd9dae", func := "truchman/truchmanlaw32.NjaegerDoes", spec := "njaegerDoes", inPlace := ["internal/bytealg.abigen_runtime_cmpstring"], unfollowed := true, recurses := true, named := ["truchman/word.highs"], loops := true, apart := false, laid := [("truchman/word.highs", laid_truchman_word_highs)], narrowed := true }
def NjaegerDoesUptoSaid : Prop := njaegerDoesUptoRow.holds Tryd.pinned (OpenSpec.upto njaegerDoesSpec)

/-- 'truchmanlaw32.NjaegerStays', WHERE WHAT IT READS IS OF BULK AT MOST 1048576: true; the input reads as it did. -/
def njaegerStaysUptoRow : OpenClaim := { program := "ytmjlfkmgamlpcaadoor", sum := "52541c3ab21bd393b30f8352333c250d7b105cb5c7c033d355841b27d0fd9dae", func := "truchman/truchmanlaw32.NjaegerStays", spec := "njaegerStays", inPlace := ["internal/bytealg.abigen_runtime_cmpstring"], unfollowed := true, recurses := true, named := ["truchman/word.highs"], loops := true, apart := false, laid := [("truchman/word.highs", laid_truchman_word_highs)], narrowed := true }
def NjaegerStaysUptoSaid : Prop := njaegerStaysUptoRow.holds Tryd.pinned (OpenSpec.upto njaegerStaysSpec)

/-- 'truchmanlaw26.AttrsChecks', WHERE WHAT IT READS IS OF BULK AT MOST 1048576: true; the input reads as it did. -/
def attrsChecksUptoRow : OpenClaim := { program := "ytmjlfkmgamlpcaadoor", sum := "52541c3ab21bd393b30f8352333c250d7b105cb5c7c033d355841b27d0fd9dae", func := "truchman/truchmanlaw26.AttrsChecks", spec := "attrsChecks", inPlace := ["internal/bytealg.abigen_runtime_cmpstring"], unfollowed := true, recurses := true, named := ["truchman/word.highs"], loops := true, apart := false, laid := [("truchman/word.highs", laid_truchman_word_highs)], narrowed := true }
def AttrsChecksUptoSaid : Prop := attrsChecksUptoRow.holds Tryd.pinned (OpenSpec.upto attrsChecksSpec)

/-- 'truchmanlaw26.AttrsHold', WHERE WHAT IT READS IS OF BULK AT MOST 1048576: true; the input reads as it did. -/
def attrsHoldUptoRow : OpenClaim := { program := "ytmjlfkmgamlpcaadoor", sum := "52541c3ab21bd393b30f8352333c250d7b105cb5c7c033d355841b27d0fd9dae", func := "truchman/truchmanlaw26.AttrsHold", spec := "attrsHold", inPlace := ["internal/bytealg.abigen_runtime_cmpstring"], unfollowed := true, recurses := true, named := ["truchman/word.highs"], loops := true, apart := false, laid := [("truchman/word.highs", laid_truchman_word_highs)], narrowed := true }
def AttrsHoldUptoSaid : Prop := attrsHoldUptoRow.holds Tryd.pinned (OpenSpec.upto attrsHoldSpec)

/-- 'truchmanlaw26.AttrsPick', WHERE WHAT IT READS IS OF BULK AT MOST 1048576: true; the input reads as it did. -/
def attrsPickUptoRow : OpenClaim := { program := "ytmjlfkmgamlpcaadoor", sum := "52541c3ab21bd393b30f8352333c250d7b105cb5c7c033d355841b27d0fd9dae", func := "truchman/truchmanlaw26.AttrsPick", spec := "attrsPick", inPlace := ["internal/bytealg.abigen_runtime_cmpstring"], unfollowed := true, recurses := true, named := ["truchman/word.highs"], loops := true, apart := false, laid := [("truchman/word.highs", laid_truchman_word_highs)], narrowed := true }
def AttrsPickUptoSaid : Prop := attrsPickUptoRow.holds Tryd.pinned (OpenSpec.upto attrsPickSpec)

/-- 'truchmanlaw28.BatchSame', WHERE WHAT IT READS IS OF BULK AT MOST 1048576: true; the input reads as it did. -/
def batchSameUptoRow : OpenClaim := { program := "ytmjlfkmgamlpcaadoor", sum := "52541c3ab21bd393b30f8352333c250d7b105cb5c7c033d355841b27d0fd9dae", func := "truchman/truchmanlaw28.BatchSame", spec := "batchSame", inPlace := ["internal/bytealg.abigen_runtime_cmpstring"], unfollowed := true, recurses := true, named := ["truchman/word.highs"], loops := true, apart := false, laid := [("truchman/word.highs", laid_truchman_word_highs)], narrowed := true }
def BatchSameUptoSaid : Prop := batchSameUptoRow.holds Tryd.pinned (OpenSpec.upto batchSameSpec)

/-- 'truchmanlaw27.SpanSame', WHERE WHAT IT READS IS OF BULK AT MOST 1048576: true; the input reads as it did. -/
def spanSameUptoRow : OpenClaim := { program := "ytmjlfkmgamlpcaadoor", sum := "52541c3ab21bd393b30f8352333c250d7b105cb5c7c033d355841b27d0fd9dae", func := "truchman/truchmanlaw27.SpanSame", spec := "spanSame", unfollowed := true, recurses := true, named := ["truchman/word.highs"], loops := true, apart := false, laid := [("truchman/word.highs", laid_truchman_word_highs)], narrowed := true }
def SpanSameUptoSaid : Prop := spanSameUptoRow.holds Tryd.pinned (OpenSpec.upto spanSameSpec)

end Rows
end Go.Proofs.YtmjlfkmgamlpcaaDoor
