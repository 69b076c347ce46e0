/-
  NARROWER THAN 'FOR EVERY INPUT', by the rows' own cells (each row's printed sentence says how): NzipkinKeeps: loops, laid · NormalTells: loops, laid · NormalTwice: loops, laid.
  DERIVED. THE GIVEN ROWS OF THIS SEAT. 3 by the template 'for every input the law returns true; each argument reads behind the call as it read before'; 0 by the template 'total and deterministic' (their statements: YtiolofgnkkhjoaaGreatDoorTotals.lean).
  GIVEN WITH THE SEED: the statements are not yours to turn. If you find one false, say at which input.
  Laid BY PROGRAM, IN A SANDBOX (cutbox-rows.mjs): the forced cells as the released guide's own fill.sh prints them over the translation d474bb4ab8a178e9… (all of the seat's roots in one cut). By AI agents, Wed Nov 11 2026. No macro, syntax, notation, axiom, sorry.
-/
import Derived.Test.YtiolofgnkkhjoaaGreatDoorChecked
import GoSem.Claim
import GoSem.ClaimJoined
import GoSem.ClaimMapViews
import Derived.JoinedTies
import Derived.KernelRfl
namespace Go.Proofs.YtiolofgnkkhjoaaGreatDoor
/- THE CELL 'sum', in the pinned program and in every row, IS THE sha256 OF THE DUMP (.gsa) THAT YtiolofgnkkhjoaaGreatDoorProg.lean LOADS. Nothing in Lean hashes anything: it is a label: what it is worth is what the hold of that sum in a sandbox is worth. -/
noncomputable def Tryz.pinned : Pinned := { name := "ytiolofgnkkhjoaagreatdoor", sum := "d474bb4ab8a178e99ea7e157ef3d1f88bd4a635f50fb289d6e003c927b88eb14", checked := Tryz.checked }
namespace Rows
def none {H : Type} : Left H := { results := [], args := [] }

/- WHAT THE LISTED PACKAGE-LEVEL VARIABLES READ AS WHEN THE CALL BEGINS. Each datum BY PROGRAM (the guide's laid-datum.mjs) off the statement by which the dump's own 'gosem.cut.vars' lays the variable. In a bare row this is a premise. The card (YtiolofgnkkhjoaaGreatDoorCards.lean) ties it to the program's text. -/
def laid_truchman_word_highs {H : Type} : DataW H := .agg [.lit (.int .u8 56), .lit (.int .u8 48), .lit (.int .u8 40), .lit (.int .u8 32), .lit (.int .u8 24), .lit (.int .u8 16), .lit (.int .u8 8), .lit (.int .u8 0)]

/-- 'truchmanlaw33.NzipkinKeeps': WHATEVER THE INPUT: true; the input reads as it did. -/
def nzipkinKeepsSpec : ChangeSpec := { name := "nzipkinKeeps", fn := fun _ => fun
  | [d] => { results := [.lit (.bool true)], args := [d] }
  | _ => none }
def nzipkinKeepsRow : OpenClaim := { program := "ytiolofgnkkhjoaagreatdoor", sum := "d474bb4ab8a178e99ea7e157ef3d1f88bd4a635f50fb289d6e003c927b88eb14", func := "truchman/truchmanlaw33.NzipkinKeeps", spec := "nzipkinKeeps", inPlace := ["internal/bytealg.abigen_runtime_cmpstring"], unfollowed := true, recurses := true, named := ["truchman/word.highs"], loops := true, apart := false, laid := [("truchman/word.highs", laid_truchman_word_highs)] }
def NzipkinKeepsSaid : Prop := nzipkinKeepsRow.holds Tryz.pinned (OpenSpec.ofChange nzipkinKeepsSpec)

/-- ITS FALSE NEIGHBOUR: 'it returns false'. Refute it at one input. -/
def nzipkinKeepsWrong : ChangeSpec := { name := "nzipkinKeeps", fn := fun _ => fun
  | [d] => { results := [.lit (.bool false)], args := [d] }
  | _ => none }
def NzipkinKeepsWrongFalsely : Prop := nzipkinKeepsRow.holds Tryz.pinned (OpenSpec.ofChange nzipkinKeepsWrong)

/-- 'truchmanlaw34.NormalTells': WHATEVER THE INPUT: true; the input reads as it did. -/
def normalTellsSpec : ChangeSpec := { name := "normalTells", fn := fun _ => fun
  | [d1, d2, d3] => { results := [.lit (.bool true)], args := [d1, d2, d3] }
  | _ => none }
def normalTellsRow : OpenClaim := { program := "ytiolofgnkkhjoaagreatdoor", sum := "d474bb4ab8a178e99ea7e157ef3d1f88bd4a635f50fb289d6e003c927b88eb14", func := "truchman/truchmanlaw34.NormalTells", spec := "normalTells", inPlace := ["internal/bytealg.abigen_runtime_cmpstring"], unfollowed := true, recurses := true, named := ["truchman/word.highs"], loops := true, apart := false, laid := [("truchman/word.highs", laid_truchman_word_highs)] }
def NormalTellsSaid : Prop := normalTellsRow.holds Tryz.pinned (OpenSpec.ofChange normalTellsSpec)

/-- ITS FALSE NEIGHBOUR: 'it returns false'. Refute it at one input. -/
def normalTellsWrong : ChangeSpec := { name := "normalTells", fn := fun _ => fun
  | [d1, d2, d3] => { results := [.lit (.bool false)], args := [d1, d2, d3] }
  | _ => none }
def NormalTellsWrongFalsely : Prop := normalTellsRow.holds Tryz.pinned (OpenSpec.ofChange normalTellsWrong)

/-- 'truchmanlaw34.NormalTwice': WHATEVER THE INPUT: true; the input reads as it did. -/
def normalTwiceSpec : ChangeSpec := { name := "normalTwice", fn := fun _ => fun
  | [d1, d2] => { results := [.lit (.bool true)], args := [d1, d2] }
  | _ => none }
def normalTwiceRow : OpenClaim := { program := "ytiolofgnkkhjoaagreatdoor", sum := "d474bb4ab8a178e99ea7e157ef3d1f88bd4a635f50fb289d6e003c927b88eb14", func := "truchman/truchmanlaw34.NormalTwice", spec := "normalTwice", inPlace := ["internal/bytealg.abigen_runtime_cmpstring"], unfollowed := true, recurses := true, named := ["truchman/word.highs"], loops := true, apart := false, laid := [("truchman/word.highs", laid_truchman_word_highs)] }
def NormalTwiceSaid : Prop := normalTwiceRow.holds Tryz.pinned (OpenSpec.ofChange normalTwiceSpec)

/-- ITS FALSE NEIGHBOUR: 'it returns false'. Refute it at one input. -/
def normalTwiceWrong : ChangeSpec := { name := "normalTwice", fn := fun _ => fun
  | [d1, d2] => { results := [.lit (.bool false)], args := [d1, d2] }
  | _ => none }
def NormalTwiceWrongFalsely : Prop := normalTwiceRow.holds Tryz.pinned (OpenSpec.ofChange normalTwiceWrong)

/- THE SECOND FORM. 'bulk': how many values and letters a reading holds, each counted each time it is reached (what is shared counts as often as it is met; a slice's spare places count too). A statement '..UptoSaid' is the law's where the arguments, and the package variables that the reading takes, are together of bulk at most 1048576: NARROWER than '..Said'. Prove '..Said' where nothing that the law and all that it calls make is longer than what came in: it says more and counts as full. Else prove '..UptoSaid'. A law counts once. -/
mutual
def uptoBulk {H : Type} : DataW H → Nat
  | .lit (.string bytes) => bytes.length + 1
  | .lit _ => 1
  | .nil => 1
  | .ptr d => uptoBulk d + 1
  | .slice elems spare => uptoBulkAll elems + uptoBulkAll spare + 1
  | .agg parts => uptoBulkAll parts + 1
  | .iface _ d => uptoBulk d + 1
  | .map entries => uptoBulkEntries entries + 1
  | .held _ => 1
def uptoBulkAll {H : Type} : List (DataW H) → Nat
  | [] => 0
  | d :: r => uptoBulk d + uptoBulkAll r
def uptoBulkEntries {H : Type} : List (Lit × DataW H) → Nat
  | [] => 0
  | x :: r => uptoBulkEntry x + uptoBulkEntries r
def uptoBulkEntry {H : Type} : Lit × DataW H → Nat
  | (.string bytes, d) => bytes.length + uptoBulk d + 1
  | (_, d) => uptoBulk d + 1
 end
def uptoSmall : (H : Type) → List (DataW H) → Bool := fun _ ds => decide (uptoBulkAll ds ≤ 1048576)
def OpenSpec.upto (s : _root_.Go.ChangeSpec) : _root_.Go.OpenSpec := { _root_.Go.OpenSpec.ofChange s with cond := some uptoSmall }

/-- 'truchmanlaw33.NzipkinKeeps', WHERE WHAT IT READS IS OF BULK AT MOST 1048576: true; the input reads as it did. -/
def nzipkinKeepsUptoRow : OpenClaim := { program := "ytiolofgnkkhjoaagreatdoor", sum := "d474bb4ab8a178e99ea7e157ef3d1f88bd4a635f50fb289d6e003c927b88eb14", func := "truchman/truchmanlaw33.NzipkinKeeps", spec := "nzipkinKeeps", inPlace := ["internal/bytealg.abigen_runtime_cmpstring"], unfollowed := true, recurses := true, named := ["truchman/word.highs"], loops := true, apart := false, laid := [("truchman/word.highs", laid_truchman_word_highs)], narrowed := true }
def NzipkinKeepsUptoSaid : Prop := nzipkinKeepsUptoRow.holds Tryz.pinned (OpenSpec.upto nzipkinKeepsSpec)

/-- 'truchmanlaw34.NormalTells', WHERE WHAT IT READS IS OF BULK AT MOST 1048576: true; the input reads as it did. -/
def normalTellsUptoRow : OpenClaim := { program := "ytiolofgnkkhjoaagreatdoor", sum := "d474bb4ab8a178e99ea7e157ef3d1f88bd4a635f50fb289d6e003c927b88eb14", func := "truchman/truchmanlaw34.NormalTells", spec := "normalTells", inPlace := ["internal/bytealg.abigen_runtime_cmpstring"], unfollowed := true, recurses := true, named := ["truchman/word.highs"], loops := true, apart := false, laid := [("truchman/word.highs", laid_truchman_word_highs)], narrowed := true }
def NormalTellsUptoSaid : Prop := normalTellsUptoRow.holds Tryz.pinned (OpenSpec.upto normalTellsSpec)

/-- 'truchmanlaw34.NormalTwice', WHERE WHAT IT READS IS OF BULK AT MOST 1048576: true; the input reads as it did. -/
def normalTwiceUptoRow : OpenClaim := { program := "ytiolofgnkkhjoaagreatdoor", sum := "d474bb4ab8a178e99ea7e157ef3d1f88bd4a635f50fb289d6e003c927b88eb14", func := "truchman/truchmanlaw34.NormalTwice", spec := "normalTwice", inPlace := ["internal/bytealg.abigen_runtime_cmpstring"], unfollowed := true, recurses := true, named := ["truchman/word.highs"], loops := true, apart := false, laid := [("truchman/word.highs", laid_truchman_word_highs)], narrowed := true }
def NormalTwiceUptoSaid : Prop := normalTwiceUptoRow.holds Tryz.pinned (OpenSpec.upto normalTwiceSpec)

end Rows
end Go.Proofs.YtiolofgnkkhjoaaGreatDoor
