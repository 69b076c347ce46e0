/-
  DERIVED. GIVEN WITH THE SEED: THE CARDS: each row of YtilolbiefnbccaaGreatDoorRows.lean that lists a variable, with what it lists TIED to the program's text (the seventh form; the later family's looks); each row that meets fmt, with fmt's text TOLD by the authors' own Lean function (tested against real Go, not proved from fmt's source: count such statements apart). THE CARD IS WHAT COUNTS. Prove the row's statement (the work); the ties are given (YtilolbiefnbccaaGreatDoorTie.lean); close each card by the builder's one call (the guide's Derived/Test/ToyasCard.lean, 'card_holds'). Laid BY PROGRAM, IN A SANDBOX (cutbox-door.mjs). By AI agents, Wed Nov 11 2026. No macro, syntax, notation, axiom, sorry.
-/
import Derived.Test.YtilolbiefnbccaaGreatDoorRows
import GoSem.ClaimSeven
namespace Go.Proofs.YtilolbiefnbccaaGreatDoor
namespace Rows

/-- THE TIED CARD OF 'truchmanlaw30.ValidTells'. -/
def validTellsCard : Claim7 := { stood := { row := validTellsRow, standIns := [], harness := (true, "92fb6087ec2265813916b2d865b9610395688e3c5f64a7b6853e6fd9e659f27c"), looks := true }, kinds := [], alts := [], laidByText := true, laidKinds := [.data, .handle], laidTests := true, laidLooks := .later }
def ValidTellsCardSaid : Prop := Claim7.holds Tryz.pinned (.plain (OpenSpec.ofChange validTellsSpec)) validTellsCard

/-- THE TIED CARD OF 'truchmanlaw30.ValidRoom'. -/
def validRoomCard : Claim7 := { stood := { row := validRoomRow, standIns := [], harness := (true, "92fb6087ec2265813916b2d865b9610395688e3c5f64a7b6853e6fd9e659f27c"), looks := true }, kinds := [], alts := [], laidByText := true, laidKinds := [.data, .handle], laidTests := true, laidLooks := .later }
def ValidRoomCardSaid : Prop := Claim7.holds Tryz.pinned (.plain (OpenSpec.ofChange validRoomSpec)) validRoomCard

/-- THE TIED CARD OF 'truchmanlaw32.NjaegerKeeps'. -/
def njaegerKeepsCard : Claim7 := { stood := { row := njaegerKeepsRow, standIns := [], harness := (true, "92fb6087ec2265813916b2d865b9610395688e3c5f64a7b6853e6fd9e659f27c"), looks := true }, kinds := [], alts := [], laidByText := true, laidKinds := [.data], laidTests := true, laidLooks := .later }
def NjaegerKeepsCardSaid : Prop := Claim7.holds Tryz.pinned (.plain (OpenSpec.ofChange njaegerKeepsSpec)) njaegerKeepsCard

/-- THE TIED CARD OF 'truchmanlaw30.ValidParts'. -/
def validPartsCard : Claim7 := { stood := { row := validPartsRow, standIns := [], harness := (true, "92fb6087ec2265813916b2d865b9610395688e3c5f64a7b6853e6fd9e659f27c"), looks := true }, kinds := [], alts := [], laidByText := true, laidKinds := [.data, .handle], laidTests := true, laidLooks := .later }
def ValidPartsCardSaid : Prop := Claim7.holds Tryz.pinned (.plain (OpenSpec.ofChange validPartsSpec)) validPartsCard

/-- THE SECOND FORM's CARD OF 'truchmanlaw30.ValidTells'. -/
def validTellsUptoCard : Claim7 := { stood := { row := validTellsUptoRow, standIns := [], harness := (true, "92fb6087ec2265813916b2d865b9610395688e3c5f64a7b6853e6fd9e659f27c"), looks := true }, kinds := [], alts := [], laidByText := true, laidKinds := [.data, .handle], laidTests := true, laidLooks := .later }
def ValidTellsUptoCardSaid : Prop := Claim7.holds Tryz.pinned (.plain (OpenSpec.upto validTellsSpec)) validTellsUptoCard

/-- THE SECOND FORM's CARD OF 'truchmanlaw30.ValidRoom'. -/
def validRoomUptoCard : Claim7 := { stood := { row := validRoomUptoRow, standIns := [], harness := (true, "92fb6087ec2265813916b2d865b9610395688e3c5f64a7b6853e6fd9e659f27c"), looks := true }, kinds := [], alts := [], laidByText := true, laidKinds := [.data, .handle], laidTests := true, laidLooks := .later }
def ValidRoomUptoCardSaid : Prop := Claim7.holds Tryz.pinned (.plain (OpenSpec.upto validRoomSpec)) validRoomUptoCard

/-- THE SECOND FORM's CARD OF 'truchmanlaw32.NjaegerKeeps'. -/
def njaegerKeepsUptoCard : Claim7 := { stood := { row := njaegerKeepsUptoRow, standIns := [], harness := (true, "92fb6087ec2265813916b2d865b9610395688e3c5f64a7b6853e6fd9e659f27c"), looks := true }, kinds := [], alts := [], laidByText := true, laidKinds := [.data], laidTests := true, laidLooks := .later }
def NjaegerKeepsUptoCardSaid : Prop := Claim7.holds Tryz.pinned (.plain (OpenSpec.upto njaegerKeepsSpec)) njaegerKeepsUptoCard

/-- THE SECOND FORM's CARD OF 'truchmanlaw30.ValidParts'. -/
def validPartsUptoCard : Claim7 := { stood := { row := validPartsUptoRow, standIns := [], harness := (true, "92fb6087ec2265813916b2d865b9610395688e3c5f64a7b6853e6fd9e659f27c"), looks := true }, kinds := [], alts := [], laidByText := true, laidKinds := [.data, .handle], laidTests := true, laidLooks := .later }
def ValidPartsUptoCardSaid : Prop := Claim7.holds Tryz.pinned (.plain (OpenSpec.upto validPartsSpec)) validPartsUptoCard
end Rows
end Go.Proofs.YtilolbiefnbccaaGreatDoor
