/-
  DERIVED. GIVEN WITH THE SEED: THE CARDS: each row of YtchikjokpmdipaaGreatDoorRows.lean that lists a variable, with what it lists TIED to the program's text (the seventh form; the later family's looks); each row that meets fmt, with fmt's text TOLD by the authors' own Lean function (tested against real Go, not proved from fmt's source: count such statements apart). THE CARD IS WHAT COUNTS. Prove the row's statement (the work); the ties are given (YtchikjokpmdipaaGreatDoorTie.lean); close each card by the builder's one call (the guide's Derived/Test/ToyasCard.lean, 'card_holds'). Laid BY PROGRAM, IN A SANDBOX (cutbox-door.mjs). By AI agents, Wed Nov 11 2026. No macro, syntax, notation, axiom, sorry.
-/
import Derived.Test.YtchikjokpmdipaaGreatDoorRows
import GoSem.ClaimSeven
namespace Go.Proofs.YtchikjokpmdipaaGreatDoor
namespace Rows

/-- THE TIED CARD OF 'truchmanlaw27.SpanChecks'. -/
def spanChecksCard : Claim7 := { stood := { row := spanChecksRow, standIns := [], harness := (true, "915fe0bb313504e3d830f5cc3c64db0ae0ecd772f6564f3cdd5a63aab5b041a8"), looks := true }, kinds := [], alts := [], laidByText := true, laidKinds := [.data], laidTests := true, laidLooks := .later }
def SpanChecksCardSaid : Prop := Claim7.holds Tryz.pinned (.plain (OpenSpec.ofChange spanChecksSpec)) spanChecksCard

/-- THE SECOND FORM's CARD OF 'truchmanlaw27.SpanChecks'. -/
def spanChecksUptoCard : Claim7 := { stood := { row := spanChecksUptoRow, standIns := [], harness := (true, "915fe0bb313504e3d830f5cc3c64db0ae0ecd772f6564f3cdd5a63aab5b041a8"), looks := true }, kinds := [], alts := [], laidByText := true, laidKinds := [.data], laidTests := true, laidLooks := .later }
def SpanChecksUptoCardSaid : Prop := Claim7.holds Tryz.pinned (.plain (OpenSpec.upto spanChecksSpec)) spanChecksUptoCard
end Rows
end Go.Proofs.YtchikjokpmdipaaGreatDoor
