/-
  NARROWER THAN 'FOR EVERY INPUT', by the rows' own cells (each row's printed sentence says how): IndexFinds: loops · IndexCores: loops · IndexWhole: loops · ValueChecks: loops · ValueCanon: loops · ValueRight: loops.
  DERIVED. THE GIVEN ROWS OF THIS SEAT. 12 by the template 'for every input the law returns true; each argument reads behind the call as it read before'; 0 by the template 'total and deterministic' (their statements: YtdbcdeihinboeaaTotals.lean).
  GIVEN WITH THE SEED: the statements are not yours to turn. If you find one false, say at which input.
  Laid BY PROGRAM, IN A SANDBOX (cutbox-rows.mjs): the forced cells as the released guide's own fill.sh prints them over the translation 8868d825a7b08eb8… (all of the seat's roots in one cut). By AI agents, Wed Nov 11 2026. No macro, syntax, notation, axiom, sorry.
-/
import Derived.Test.YtdbcdeihinboeaaChecked
import GoSem.Claim
import GoSem.ClaimJoined
import GoSem.ClaimMapViews
import Derived.JoinedTies
import Derived.KernelRfl
namespace Go.Proofs.Ytdbcdeihinboeaa
/- THE CELL 'sum', in the pinned program and in every row, IS THE sha256 OF THE DUMP (.gsa) THAT YtdbcdeihinboeaaProg.lean LOADS. Nothing in Lean hashes anything: it is a label: what it is worth is what the hold of that sum in a sandbox is worth. -/
noncomputable def Try.pinned : Pinned := { name := "ytdbcdeihinboeaa", sum := "8868d825a7b08eb8427ef93293bbab094e49858f47b99c475cd9d5670f1a9dcf", checked := Try.checked }
namespace Rows
def none {H : Type} : Left H := { results := [], args := [] }

/-- 'truchmanlaw08.MomentTells': WHATEVER THE INPUT: true; the input reads as it did. -/
def momentTellsSpec : ChangeSpec := { name := "momentTells", fn := fun _ => fun
  | [d1, d2] => { results := [.lit (.bool true)], args := [d1, d2] }
  | _ => none }
def momentTellsRow : OpenClaim := { program := "ytdbcdeihinboeaa", sum := "8868d825a7b08eb8427ef93293bbab094e49858f47b99c475cd9d5670f1a9dcf", func := "truchman/truchmanlaw08.MomentTells", spec := "momentTells", unfollowed := true, recurses := true, plainKeys := false, apart := false }
def MomentTellsSaid : Prop := momentTellsRow.holds Try.pinned (OpenSpec.ofChange momentTellsSpec)

/-- ITS FALSE NEIGHBOUR: 'it returns false'. Refute it at one input. -/
def momentTellsWrong : ChangeSpec := { name := "momentTells", fn := fun _ => fun
  | [d1, d2] => { results := [.lit (.bool false)], args := [d1, d2] }
  | _ => none }
def MomentTellsWrongFalsely : Prop := momentTellsRow.holds Try.pinned (OpenSpec.ofChange momentTellsWrong)

/-- 'truchmanlaw08.MomentWhole': WHATEVER THE INPUT: true; the input reads as it did. -/
def momentWholeSpec : ChangeSpec := { name := "momentWhole", fn := fun _ => fun
  | [d1, d2] => { results := [.lit (.bool true)], args := [d1, d2] }
  | _ => none }
def momentWholeRow : OpenClaim := { program := "ytdbcdeihinboeaa", sum := "8868d825a7b08eb8427ef93293bbab094e49858f47b99c475cd9d5670f1a9dcf", func := "truchman/truchmanlaw08.MomentWhole", spec := "momentWhole", unfollowed := true, recurses := true, plainKeys := false, apart := false }
def MomentWholeSaid : Prop := momentWholeRow.holds Try.pinned (OpenSpec.ofChange momentWholeSpec)

/-- ITS FALSE NEIGHBOUR: 'it returns false'. Refute it at one input. -/
def momentWholeWrong : ChangeSpec := { name := "momentWhole", fn := fun _ => fun
  | [d1, d2] => { results := [.lit (.bool false)], args := [d1, d2] }
  | _ => none }
def MomentWholeWrongFalsely : Prop := momentWholeRow.holds Try.pinned (OpenSpec.ofChange momentWholeWrong)

/-- 'truchmanlaw08.MomentOf': WHATEVER THE INPUT: true; the input reads as it did. -/
def momentOfSpec : ChangeSpec := { name := "momentOf", fn := fun _ => fun
  | [d1, d2, d3] => { results := [.lit (.bool true)], args := [d1, d2, d3] }
  | _ => none }
def momentOfRow : OpenClaim := { program := "ytdbcdeihinboeaa", sum := "8868d825a7b08eb8427ef93293bbab094e49858f47b99c475cd9d5670f1a9dcf", func := "truchman/truchmanlaw08.MomentOf", spec := "momentOf", unfollowed := true, recurses := true, plainKeys := false, apart := false }
def MomentOfSaid : Prop := momentOfRow.holds Try.pinned (OpenSpec.ofChange momentOfSpec)

/-- ITS FALSE NEIGHBOUR: 'it returns false'. Refute it at one input. -/
def momentOfWrong : ChangeSpec := { name := "momentOf", fn := fun _ => fun
  | [d1, d2, d3] => { results := [.lit (.bool false)], args := [d1, d2, d3] }
  | _ => none }
def MomentOfWrongFalsely : Prop := momentOfRow.holds Try.pinned (OpenSpec.ofChange momentOfWrong)

/-- 'truchmanlaw05.UtfReads': WHATEVER THE INPUT: true; the input reads as it did. -/
def utfReadsSpec : ChangeSpec := { name := "utfReads", fn := fun _ => fun
  | [d1, d2, d3] => { results := [.lit (.bool true)], args := [d1, d2, d3] }
  | _ => none }
def utfReadsRow : OpenClaim := { program := "ytdbcdeihinboeaa", sum := "8868d825a7b08eb8427ef93293bbab094e49858f47b99c475cd9d5670f1a9dcf", func := "truchman/truchmanlaw05.UtfReads", spec := "utfReads", plainKeys := false, apart := false }
def UtfReadsSaid : Prop := utfReadsRow.holds Try.pinned (OpenSpec.ofChange utfReadsSpec)

/-- ITS FALSE NEIGHBOUR: 'it returns false'. Refute it at one input. -/
def utfReadsWrong : ChangeSpec := { name := "utfReads", fn := fun _ => fun
  | [d1, d2, d3] => { results := [.lit (.bool false)], args := [d1, d2, d3] }
  | _ => none }
def UtfReadsWrongFalsely : Prop := utfReadsRow.holds Try.pinned (OpenSpec.ofChange utfReadsWrong)

/-- 'truchmanlaw05.UtfBack': WHATEVER THE INPUT: true; the input reads as it did. -/
def utfBackSpec : ChangeSpec := { name := "utfBack", fn := fun _ => fun
  | [d1, d2, d3] => { results := [.lit (.bool true)], args := [d1, d2, d3] }
  | _ => none }
def utfBackRow : OpenClaim := { program := "ytdbcdeihinboeaa", sum := "8868d825a7b08eb8427ef93293bbab094e49858f47b99c475cd9d5670f1a9dcf", func := "truchman/truchmanlaw05.UtfBack", spec := "utfBack", plainKeys := false, apart := false }
def UtfBackSaid : Prop := utfBackRow.holds Try.pinned (OpenSpec.ofChange utfBackSpec)

/-- ITS FALSE NEIGHBOUR: 'it returns false'. Refute it at one input. -/
def utfBackWrong : ChangeSpec := { name := "utfBack", fn := fun _ => fun
  | [d1, d2, d3] => { results := [.lit (.bool false)], args := [d1, d2, d3] }
  | _ => none }
def UtfBackWrongFalsely : Prop := utfBackRow.holds Try.pinned (OpenSpec.ofChange utfBackWrong)

/-- 'truchmanlaw05.UtfJoins': WHATEVER THE INPUT: true; the input reads as it did. -/
def utfJoinsSpec : ChangeSpec := { name := "utfJoins", fn := fun _ => fun
  | [d1, d2, d3] => { results := [.lit (.bool true)], args := [d1, d2, d3] }
  | _ => none }
def utfJoinsRow : OpenClaim := { program := "ytdbcdeihinboeaa", sum := "8868d825a7b08eb8427ef93293bbab094e49858f47b99c475cd9d5670f1a9dcf", func := "truchman/truchmanlaw05.UtfJoins", spec := "utfJoins", plainKeys := false, apart := false }
def UtfJoinsSaid : Prop := utfJoinsRow.holds Try.pinned (OpenSpec.ofChange utfJoinsSpec)

/-- ITS FALSE NEIGHBOUR: 'it returns false'. Refute it at one input. -/
def utfJoinsWrong : ChangeSpec := { name := "utfJoins", fn := fun _ => fun
  | [d1, d2, d3] => { results := [.lit (.bool false)], args := [d1, d2, d3] }
  | _ => none }
def UtfJoinsWrongFalsely : Prop := utfJoinsRow.holds Try.pinned (OpenSpec.ofChange utfJoinsWrong)

/-- 'truchmanlaw31.IndexFinds': WHATEVER THE INPUT: true; the input reads as it did. -/
def indexFindsSpec : ChangeSpec := { name := "indexFinds", fn := fun _ => fun
  | [d1, d2, d3] => { results := [.lit (.bool true)], args := [d1, d2, d3] }
  | _ => none }
def indexFindsRow : OpenClaim := { program := "ytdbcdeihinboeaa", sum := "8868d825a7b08eb8427ef93293bbab094e49858f47b99c475cd9d5670f1a9dcf", func := "truchman/truchmanlaw31.IndexFinds", spec := "indexFinds", unfollowed := true, recurses := true, loops := true, plainKeys := false, apart := false }
def IndexFindsSaid : Prop := indexFindsRow.holds Try.pinned (OpenSpec.ofChange indexFindsSpec)

/-- ITS FALSE NEIGHBOUR: 'it returns false'. Refute it at one input. -/
def indexFindsWrong : ChangeSpec := { name := "indexFinds", fn := fun _ => fun
  | [d1, d2, d3] => { results := [.lit (.bool false)], args := [d1, d2, d3] }
  | _ => none }
def IndexFindsWrongFalsely : Prop := indexFindsRow.holds Try.pinned (OpenSpec.ofChange indexFindsWrong)

/-- 'truchmanlaw31.IndexCores': WHATEVER THE INPUT: true; the input reads as it did. -/
def indexCoresSpec : ChangeSpec := { name := "indexCores", fn := fun _ => fun
  | [d1, d2] => { results := [.lit (.bool true)], args := [d1, d2] }
  | _ => none }
def indexCoresRow : OpenClaim := { program := "ytdbcdeihinboeaa", sum := "8868d825a7b08eb8427ef93293bbab094e49858f47b99c475cd9d5670f1a9dcf", func := "truchman/truchmanlaw31.IndexCores", spec := "indexCores", unfollowed := true, recurses := true, loops := true, plainKeys := false, apart := false }
def IndexCoresSaid : Prop := indexCoresRow.holds Try.pinned (OpenSpec.ofChange indexCoresSpec)

/-- ITS FALSE NEIGHBOUR: 'it returns false'. Refute it at one input. -/
def indexCoresWrong : ChangeSpec := { name := "indexCores", fn := fun _ => fun
  | [d1, d2] => { results := [.lit (.bool false)], args := [d1, d2] }
  | _ => none }
def IndexCoresWrongFalsely : Prop := indexCoresRow.holds Try.pinned (OpenSpec.ofChange indexCoresWrong)

/-- 'truchmanlaw31.IndexWhole': WHATEVER THE INPUT: true; the input reads as it did. -/
def indexWholeSpec : ChangeSpec := { name := "indexWhole", fn := fun _ => fun
  | [d] => { results := [.lit (.bool true)], args := [d] }
  | _ => none }
def indexWholeRow : OpenClaim := { program := "ytdbcdeihinboeaa", sum := "8868d825a7b08eb8427ef93293bbab094e49858f47b99c475cd9d5670f1a9dcf", func := "truchman/truchmanlaw31.IndexWhole", spec := "indexWhole", unfollowed := true, recurses := true, loops := true, plainKeys := false, apart := false }
def IndexWholeSaid : Prop := indexWholeRow.holds Try.pinned (OpenSpec.ofChange indexWholeSpec)

/-- ITS FALSE NEIGHBOUR: 'it returns false'. Refute it at one input. -/
def indexWholeWrong : ChangeSpec := { name := "indexWhole", fn := fun _ => fun
  | [d] => { results := [.lit (.bool false)], args := [d] }
  | _ => none }
def IndexWholeWrongFalsely : Prop := indexWholeRow.holds Try.pinned (OpenSpec.ofChange indexWholeWrong)

/-- 'truchmanlaw24.ValueChecks': WHATEVER THE INPUT: true; the input reads as it did. -/
def valueChecksSpec : ChangeSpec := { name := "valueChecks", fn := fun _ => fun
  | [d1, d2, d3] => { results := [.lit (.bool true)], args := [d1, d2, d3] }
  | _ => none }
def valueChecksRow : OpenClaim := { program := "ytdbcdeihinboeaa", sum := "8868d825a7b08eb8427ef93293bbab094e49858f47b99c475cd9d5670f1a9dcf", func := "truchman/truchmanlaw24.ValueChecks", spec := "valueChecks", unfollowed := true, recurses := true, loops := true, plainKeys := false, apart := false }
def ValueChecksSaid : Prop := valueChecksRow.holds Try.pinned (OpenSpec.ofChange valueChecksSpec)

/-- ITS FALSE NEIGHBOUR: 'it returns false'. Refute it at one input. -/
def valueChecksWrong : ChangeSpec := { name := "valueChecks", fn := fun _ => fun
  | [d1, d2, d3] => { results := [.lit (.bool false)], args := [d1, d2, d3] }
  | _ => none }
def ValueChecksWrongFalsely : Prop := valueChecksRow.holds Try.pinned (OpenSpec.ofChange valueChecksWrong)

/-- 'truchmanlaw24.ValueCanon': WHATEVER THE INPUT: true; the input reads as it did. -/
def valueCanonSpec : ChangeSpec := { name := "valueCanon", fn := fun _ => fun
  | [d1, d2] => { results := [.lit (.bool true)], args := [d1, d2] }
  | _ => none }
def valueCanonRow : OpenClaim := { program := "ytdbcdeihinboeaa", sum := "8868d825a7b08eb8427ef93293bbab094e49858f47b99c475cd9d5670f1a9dcf", func := "truchman/truchmanlaw24.ValueCanon", spec := "valueCanon", unfollowed := true, recurses := true, loops := true, plainKeys := false, apart := false }
def ValueCanonSaid : Prop := valueCanonRow.holds Try.pinned (OpenSpec.ofChange valueCanonSpec)

/-- ITS FALSE NEIGHBOUR: 'it returns false'. Refute it at one input. -/
def valueCanonWrong : ChangeSpec := { name := "valueCanon", fn := fun _ => fun
  | [d1, d2] => { results := [.lit (.bool false)], args := [d1, d2] }
  | _ => none }
def ValueCanonWrongFalsely : Prop := valueCanonRow.holds Try.pinned (OpenSpec.ofChange valueCanonWrong)

/-- 'truchmanlaw24.ValueRight': WHATEVER THE INPUT: true; the input reads as it did. -/
def valueRightSpec : ChangeSpec := { name := "valueRight", fn := fun _ => fun
  | [d1, d2] => { results := [.lit (.bool true)], args := [d1, d2] }
  | _ => none }
def valueRightRow : OpenClaim := { program := "ytdbcdeihinboeaa", sum := "8868d825a7b08eb8427ef93293bbab094e49858f47b99c475cd9d5670f1a9dcf", func := "truchman/truchmanlaw24.ValueRight", spec := "valueRight", unfollowed := true, recurses := true, loops := true, plainKeys := false, apart := false }
def ValueRightSaid : Prop := valueRightRow.holds Try.pinned (OpenSpec.ofChange valueRightSpec)

/-- ITS FALSE NEIGHBOUR: 'it returns false'. Refute it at one input. -/
def valueRightWrong : ChangeSpec := { name := "valueRight", fn := fun _ => fun
  | [d1, d2] => { results := [.lit (.bool false)], args := [d1, d2] }
  | _ => none }
def ValueRightWrongFalsely : Prop := valueRightRow.holds Try.pinned (OpenSpec.ofChange valueRightWrong)

/- THE SECOND FORM. 'bulk': how many values and letters a reading holds, each counted each time it is reached (what is shared counts as often as it is met; a slice's spare places count too). A statement '..UptoSaid' is the law's where the arguments, and the package variables that the reading takes, are together of bulk at most 1048576: NARROWER than '..Said'. Prove '..Said' where nothing that the law and all that it calls make is longer than what came in: it says more and counts as full. Else prove '..UptoSaid'. A law counts once. -/
mutual
def uptoBulk {H : Type} : DataW H → Nat
  | .lit (.string bytes) => bytes.length + 1
  | .lit _ => 1
  | .nil => 1
  | .ptr d => uptoBulk d + 1
  | .slice elems spare => uptoBulkAll elems + uptoBulkAll spare + 1
  | .agg parts => uptoBulkAll parts + 1
  | .iface _ d => uptoBulk d + 1
  | .map entries => uptoBulkEntries entries + 1
  | .held _ => 1
def uptoBulkAll {H : Type} : List (DataW H) → Nat
  | [] => 0
  | d :: r => uptoBulk d + uptoBulkAll r
def uptoBulkEntries {H : Type} : List (Lit × DataW H) → Nat
  | [] => 0
  | x :: r => uptoBulkEntry x + uptoBulkEntries r
def uptoBulkEntry {H : Type} : Lit × DataW H → Nat
  | (.string bytes, d) => bytes.length + uptoBulk d + 1
  | (_, d) => uptoBulk d + 1
 end
def uptoSmall : (H : Type) → List (DataW H) → Bool := fun _ ds => decide (uptoBulkAll ds ≤ 1048576)
def OpenSpec.upto (s : _root_.Go.ChangeSpec) : _root_.Go.OpenSpec := { _root_.Go.OpenSpec.ofChange s with cond := some uptoSmall }

/-- 'truchmanlaw08.MomentTells', WHERE WHAT IT READS IS OF BULK AT MOST 1048576: true; the input reads as it did. -/
def momentTellsUptoRow : OpenClaim := { program := "ytdbcdeihinboeaa", sum := "8868d825a7b08eb8427ef93293bbab094e49858f47b99c475cd9d5670f1a9dcf", func := "truchman/truchmanlaw08.MomentTells", spec := "momentTells", unfollowed := true, recurses := true, plainKeys := false, apart := false, narrowed := true }
def MomentTellsUptoSaid : Prop := momentTellsUptoRow.holds Try.pinned (OpenSpec.upto momentTellsSpec)

/-- 'truchmanlaw08.MomentWhole', WHERE WHAT IT READS IS OF BULK AT MOST 1048576: true; the input reads as it did. -/
def momentWholeUptoRow : OpenClaim := { program := "ytdbcdeihinboeaa", sum := "8868d825a7b08eb8427ef93293bbab094e49858f47b99c475cd9d5670f1a9dcf", func := "truchman/truchmanlaw08.MomentWhole", spec := "momentWhole", unfollowed := true, recurses := true, plainKeys := false, apart := false, narrowed := true }
def MomentWholeUptoSaid : Prop := momentWholeUptoRow.holds Try.pinned (OpenSpec.upto momentWholeSpec)

/-- 'truchmanlaw08.MomentOf', WHERE WHAT IT READS IS OF BULK AT MOST 1048576: true; the input reads as it did. -/
def momentOfUptoRow : OpenClaim := { program := "ytdbcdeihinboeaa", sum := "8868d825a7b08eb8427ef93293bbab094e49858f47b99c475cd9d5670f1a9dcf", func := "truchman/truchmanlaw08.MomentOf", spec := "momentOf", unfollowed := true, recurses := true, plainKeys := false, apart := false, narrowed := true }
def MomentOfUptoSaid : Prop := momentOfUptoRow.holds Try.pinned (OpenSpec.upto momentOfSpec)

/-- 'truchmanlaw05.UtfReads', WHERE WHAT IT READS IS OF BULK AT MOST 1048576: true; the input reads as it did. -/
def utfReadsUptoRow : OpenClaim := { program := "ytdbcdeihinboeaa", sum := "8868d825a7b08eb8427ef93293bbab094e49858f47b99c475cd9d5670f1a9dcf", func := "truchman/truchmanlaw05.UtfReads", spec := "utfReads", plainKeys := false, apart := false, narrowed := true }
def UtfReadsUptoSaid : Prop := utfReadsUptoRow.holds Try.pinned (OpenSpec.upto utfReadsSpec)

/-- 'truchmanlaw05.UtfBack', WHERE WHAT IT READS IS OF BULK AT MOST 1048576: true; the input reads as it did. -/
def utfBackUptoRow : OpenClaim := { program := "ytdbcdeihinboeaa", sum := "8868d825a7b08eb8427ef93293bbab094e49858f47b99c475cd9d5670f1a9dcf", func := "truchman/truchmanlaw05.UtfBack", spec := "utfBack", plainKeys := false, apart := false, narrowed := true }
def UtfBackUptoSaid : Prop := utfBackUptoRow.holds Try.pinned (OpenSpec.upto utfBackSpec)

/-- 'truchmanlaw05.UtfJoins', WHERE WHAT IT READS IS OF BULK AT MOST 1048576: true; the input reads as it did. -/
def utfJoinsUptoRow : OpenClaim := { program := "ytdbcdeihinboeaa", sum := "8868d825a7b08eb8427ef93293bbab094e49858f47b99c475cd9d5670f1a9dcf", func := "truchman/truchmanlaw05.UtfJoins", spec := "utfJoins", plainKeys := false, apart := false, narrowed := true }
def UtfJoinsUptoSaid : Prop := utfJoinsUptoRow.holds Try.pinned (OpenSpec.upto utfJoinsSpec)

/-- 'truchmanlaw31.IndexFinds', WHERE WHAT IT READS IS OF BULK AT MOST 1048576: true; the input reads as it did. -/
def indexFindsUptoRow : OpenClaim := { program := "ytdbcdeihinboeaa", sum := "8868d825a7b08eb8427ef93293bbab094e49858f47b99c475cd9d5670f1a9dcf", func := "truchman/truchmanlaw31.IndexFinds", spec := "indexFinds", unfollowed := true, recurses := true, loops := true, plainKeys := false, apart := false, narrowed := true }
def IndexFindsUptoSaid : Prop := indexFindsUptoRow.holds Try.pinned (OpenSpec.upto indexFindsSpec)

/-- 'truchmanlaw31.IndexCores', WHERE WHAT IT READS IS OF BULK AT MOST 1048576: true; the input reads as it did. -/
def indexCoresUptoRow : OpenClaim := { program := "ytdbcdeihinboeaa", sum := "8868d825a7b08eb8427ef93293bbab094e49858f47b99c475cd9d5670f1a9dcf", func := "truchman/truchmanlaw31.IndexCores", spec := "indexCores", unfollowed := true, recurses := true, loops := true, plainKeys := false, apart := false, narrowed := true }
def IndexCoresUptoSaid : Prop := indexCoresUptoRow.holds Try.pinned (OpenSpec.upto indexCoresSpec)

/-- 'truchmanlaw31.IndexWhole', WHERE WHAT IT READS IS OF BULK AT MOST 1048576: true; the input reads as it did. -/
def indexWholeUptoRow : OpenClaim := { program := "ytdbcdeihinboeaa", sum := "8868d825a7b08eb8427ef93293bbab094e49858f47b99c475cd9d5670f1a9dcf", func := "truchman/truchmanlaw31.IndexWhole", spec := "indexWhole", unfollowed := true, recurses := true, loops := true, plainKeys := false, apart := false, narrowed := true }
def IndexWholeUptoSaid : Prop := indexWholeUptoRow.holds Try.pinned (OpenSpec.upto indexWholeSpec)

/-- 'truchmanlaw24.ValueChecks', WHERE WHAT IT READS IS OF BULK AT MOST 1048576: true; the input reads as it did. -/
def valueChecksUptoRow : OpenClaim := { program := "ytdbcdeihinboeaa", sum := "8868d825a7b08eb8427ef93293bbab094e49858f47b99c475cd9d5670f1a9dcf", func := "truchman/truchmanlaw24.ValueChecks", spec := "valueChecks", unfollowed := true, recurses := true, loops := true, plainKeys := false, apart := false, narrowed := true }
def ValueChecksUptoSaid : Prop := valueChecksUptoRow.holds Try.pinned (OpenSpec.upto valueChecksSpec)

/-- 'truchmanlaw24.ValueCanon', WHERE WHAT IT READS IS OF BULK AT MOST 1048576: true; the input reads as it did. -/
def valueCanonUptoRow : OpenClaim := { program := "ytdbcdeihinboeaa", sum := "8868d825a7b08eb8427ef93293bbab094e49858f47b99c475cd9d5670f1a9dcf", func := "truchman/truchmanlaw24.ValueCanon", spec := "valueCanon", unfollowed := true, recurses := true, loops := true, plainKeys := false, apart := false, narrowed := true }
def ValueCanonUptoSaid : Prop := valueCanonUptoRow.holds Try.pinned (OpenSpec.upto valueCanonSpec)

/-- 'truchmanlaw24.ValueRight', WHERE WHAT IT READS IS OF BULK AT MOST 1048576: true; the input reads as it did. -/
def valueRightUptoRow : OpenClaim := { program := "ytdbcdeihinboeaa", sum := "8868d825a7b08eb8427ef93293bbab094e49858f47b99c475cd9d5670f1a9dcf", func := "truchman/truchmanlaw24.ValueRight", spec := "valueRight", unfollowed := true, recurses := true, loops := true, plainKeys := false, apart := false, narrowed := true }
def ValueRightUptoSaid : Prop := valueRightUptoRow.holds Try.pinned (OpenSpec.upto valueRightSpec)

end Rows
end Go.Proofs.Ytdbcdeihinboeaa
