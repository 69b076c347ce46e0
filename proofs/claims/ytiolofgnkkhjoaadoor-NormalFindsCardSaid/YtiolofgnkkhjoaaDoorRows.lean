/-
  NARROWER THAN 'FOR EVERY INPUT', by the rows' own cells (each row's printed sentence says how): NzipkinDoes: loops, laid · NzipkinStays: loops, laid · NormalFinds: laid.
  DERIVED. THE GIVEN ROWS OF THIS SEAT. 3 by the template 'for every input the law returns true; each argument reads behind the call as it read before'; 0 by the template 'total and deterministic' (their statements: YtiolofgnkkhjoaaDoorTotals.lean).
  GIVEN WITH THE SEED: the statements are not yours to turn. If you find one false, say at which input.
  Laid BY PROGRAM, IN A SANDBOX (cutbox-rows.mjs): the forced cells as the released guide's own fill.sh prints them over the translation 580ce17661457167… (all of the seat's roots in one cut). By AI agents, Wed Nov 11 2026. No macro, syntax, notation, axiom, sorry.
-/
import Derived.Test.YtiolofgnkkhjoaaDoorChecked
import GoSem.Claim
import GoSem.ClaimJoined
import GoSem.ClaimMapViews
import Derived.JoinedTies
import Derived.KernelRfl
namespace Go.Proofs.YtiolofgnkkhjoaaDoor
/- THE CELL 'sum', in the pinned program and in every row, IS THE sha256 OF THE DUMP (.gsa) THAT YtiolofgnkkhjoaaDoorProg.lean LOADS. Nothing in Lean hashes anything: it is a label: what it is worth is what the hold of that sum in a sandbox is worth. -/
noncomputable def Tryd.pinned : Pinned := { name := "ytiolofgnkkhjoaadoor", sum := "580ce17661457167d1cf5d2ababbbd6c208c7a257905dfd2e03dc54754b3a9c7", checked := Tryd.checked }
namespace Rows
def none {H : Type} : Left H := { results := [], args := [] }

/- WHAT THE LISTED PACKAGE-LEVEL VARIABLES READ AS WHEN THE CALL BEGINS. Each datum BY PROGRAM (the guide's laid-datum.mjs) off the statement by which the dump's own 'gosem.cut.vars' lays the variable. In a bare row this is a premise. The card (YtiolofgnkkhjoaaDoorCards.lean) ties it to the program's text. -/
def laid_truchman_word_highs {H : Type} : DataW H := .agg [.lit (.int .u8 56), .lit (.int .u8 48), .lit (.int .u8 40), .lit (.int .u8 32), .lit (.int .u8 24), .lit (.int .u8 16), .lit (.int .u8 8), .lit (.int .u8 0)]

/-- 'truchmanlaw33.NzipkinDoes': WHATEVER THE INPUT: true; the input reads as it did. -/
def nzipkinDoesSpec : ChangeSpec := { name := "nzipkinDoes", fn := fun _ => fun
  | [d1, d2, d3] => { results := [.lit (.bool true)], args := [d1, d2, d3] }
  | _ => none }
def nzipkinDoesRow : OpenClaim := { program := "ytiolofgnkkhjoaadoor", sum := "580ce17661457167d1cf5d2ababbbd6c208c7a257905dfd2e03dc54754b3a9c7", func := "truchman/truchmanlaw33.NzipkinDoes", spec := "nzipkinDoes", inPlace := ["internal/bytealg.abigen_runtime_cmpstring"], unfollowed := true, recurses := true, named := ["truchman/word.highs"], loops := true, apart := false, laid := [("truchman/word.highs", laid_truchman_word_highs)] }
def NzipkinDoesSaid : Prop := nzipkinDoesRow.holds Tryd.pinned (OpenSpec.ofChange nzipkinDoesSpec)

/-- ITS FALSE NEIGHBOUR: 'it returns false'. Refute it at one input. -/
def nzipkinDoesWrong : ChangeSpec := { name := "nzipkinDoes", fn := fun _ => fun
  | [d1, d2, d3] => { results := [.lit (.bool false)], args := [d1, d2, d3] }
  | _ => none }
def NzipkinDoesWrongFalsely : Prop := nzipkinDoesRow.holds Tryd.pinned (OpenSpec.ofChange nzipkinDoesWrong)

/-- 'truchmanlaw33.NzipkinStays': WHATEVER THE INPUT: true; the input reads as it did. -/
def nzipkinStaysSpec : ChangeSpec := { name := "nzipkinStays", fn := fun _ => fun
  | [d] => { results := [.lit (.bool true)], args := [d] }
  | _ => none }
def nzipkinStaysRow : OpenClaim := { program := "ytiolofgnkkhjoaadoor", sum := "580ce17661457167d1cf5d2ababbbd6c208c7a257905dfd2e03dc54754b3a9c7", func := "truchman/truchmanlaw33.NzipkinStays", spec := "nzipkinStays", inPlace := ["internal/bytealg.abigen_runtime_cmpstring"], unfollowed := true, recurses := true, named := ["truchman/word.highs"], loops := true, apart := false, laid := [("truchman/word.highs", laid_truchman_word_highs)] }
def NzipkinStaysSaid : Prop := nzipkinStaysRow.holds Tryd.pinned (OpenSpec.ofChange nzipkinStaysSpec)

/-- ITS FALSE NEIGHBOUR: 'it returns false'. Refute it at one input. -/
def nzipkinStaysWrong : ChangeSpec := { name := "nzipkinStays", fn := fun _ => fun
  | [d] => { results := [.lit (.bool false)], args := [d] }
  | _ => none }
def NzipkinStaysWrongFalsely : Prop := nzipkinStaysRow.holds Tryd.pinned (OpenSpec.ofChange nzipkinStaysWrong)

/-- 'truchmanlaw34.NormalFinds': WHATEVER THE INPUT: true; the input reads as it did. -/
def normalFindsSpec : ChangeSpec := { name := "normalFinds", fn := fun _ => fun
  | [d] => { results := [.lit (.bool true)], args := [d] }
  | _ => none }
def normalFindsRow : OpenClaim := { program := "ytiolofgnkkhjoaadoor", sum := "580ce17661457167d1cf5d2ababbbd6c208c7a257905dfd2e03dc54754b3a9c7", func := "truchman/truchmanlaw34.NormalFinds", spec := "normalFinds", inPlace := ["internal/bytealg.abigen_runtime_cmpstring"], unfollowed := true, recurses := true, named := ["truchman/word.highs"], apart := false, laid := [("truchman/word.highs", laid_truchman_word_highs)] }
def NormalFindsSaid : Prop := normalFindsRow.holds Tryd.pinned (OpenSpec.ofChange normalFindsSpec)

/-- ITS FALSE NEIGHBOUR: 'it returns false'. Refute it at one input. -/
def normalFindsWrong : ChangeSpec := { name := "normalFinds", fn := fun _ => fun
  | [d] => { results := [.lit (.bool false)], args := [d] }
  | _ => none }
def NormalFindsWrongFalsely : Prop := normalFindsRow.holds Tryd.pinned (OpenSpec.ofChange normalFindsWrong)

/- THE SECOND FORM. 'bulk': how many values and letters a reading holds, each counted each time it is reached (what is shared counts as often as it is met; a slice's spare places count too). A statement '..UptoSaid' is the law's where the arguments, and the package variables that the reading takes, are together of bulk at most 1048576: NARROWER than '..Said'. Prove '..Said' where nothing that the law and all that it calls make is longer than what came in: it says more and counts as full. Else prove '..UptoSaid'. A law counts once. -/
mutual
def uptoBulk {H : Type} : DataW H → Nat
  | .lit (.string bytes) => bytes.length + 1
  | .lit _ => 1
  | .nil => 1
  | .ptr d => uptoBulk d + 1
  | .slice elems spare => uptoBulkAll elems + uptoBulkAll spare + 1
  | .agg parts => uptoBulkAll parts + 1
  | .iface _ d => uptoBulk d + 1
  | .map entries => uptoBulkEntries entries + 1
  | .held _ => 1
def uptoBulkAll {H : Type} : List (DataW H) → Nat
  | [] => 0
  | d :: r => uptoBulk d + uptoBulkAll r
def uptoBulkEntries {H : Type} : List (Lit × DataW H) → Nat
  | [] => 0
  | x :: r => uptoBulkEntry x + uptoBulkEntries r
def uptoBulkEntry {H : Type} : Lit × DataW H → Nat
  | (.string bytes, d) => bytes.length + uptoBulk d + 1
  | (_, d) => uptoBulk d + 1
 end
def uptoSmall : (H : Type) → List (DataW H) → Bool := fun _ ds => decide (uptoBulkAll ds ≤ 1048576)
def OpenSpec.upto (s : _root_.Go.ChangeSpec) : _root_.Go.OpenSpec := { _root_.Go.OpenSpec.ofChange s with cond := some uptoSmall }

/-- 'truchmanlaw33.NzipkinDoes', WHERE WHAT IT READS IS OF BULK AT MOST 1048576: true; the input reads as it did. -/
def nzipkinDoesUptoRow : OpenClaim := { program := "ytiolofgnkkhjoaadoor", sum := "580ce17661457167d1cf5d2ababbbd6c208c7a257905dfd2e03dc54754b3a9c7", func := "truchman/truchmanlaw33.NzipkinDoes", spec := "nzipkinDoes", inPlace := ["internal/bytealg.abigen_runtime_cmpstring"], unfollowed := true, recurses := true, named := ["truchman/word.highs"], loops := true, apart := false, laid := [("truchman/word.highs", laid_truchman_word_highs)], narrowed := true }
def NzipkinDoesUptoSaid : Prop := nzipkinDoesUptoRow.holds Tryd.pinned (OpenSpec.upto nzipkinDoesSpec)

/-- 'truchmanlaw33.NzipkinStays', WHERE WHAT IT READS IS OF BULK AT MOST 1048576: true; the input reads as it did. -/
def nzipkinStaysUptoRow : OpenClaim := { program := "ytiolofgnkkhjoaadoor", sum := "580ce17661457167d1cf5d2ababbbd6c208c7a257905dfd2e03dc54754b3a9c7", func := "truchman/truchmanlaw33.NzipkinStays", spec := "nzipkinStays", inPlace := ["internal/bytealg.abigen_runtime_cmpstring"], unfollowed := true, recurses := true, named := ["truchman/word.highs"], loops := true, apart := false, laid := [("truchman/word.highs", laid_truchman_word_highs)], narrowed := true }
def NzipkinStaysUptoSaid : Prop := nzipkinStaysUptoRow.holds Tryd.pinned (OpenSpec.upto nzipkinStaysSpec)

/-- 'truchmanlaw34.NormalFinds', WHERE WHAT IT READS IS OF BULK AT MOST 1048576: true; the input reads as it did. -/
def normalFindsUptoRow : OpenClaim := { program := "ytiolofgnkkhjoaadoor", sum := "580ce17661457167d1cf5d2ababbbd6c208c7a257905dfd2e03dc54754b3a9c7", func := "truchman/truchmanlaw34.NormalFinds", spec := "normalFinds", inPlace := ["internal/bytealg.abigen_runtime_cmpstring"], unfollowed := true, recurses := true, named := ["truchman/word.highs"], apart := false, laid := [("truchman/word.highs", laid_truchman_word_highs)], narrowed := true }
def NormalFindsUptoSaid : Prop := normalFindsUptoRow.holds Tryd.pinned (OpenSpec.upto normalFindsSpec)

end Rows
end Go.Proofs.YtiolofgnkkhjoaaDoor
