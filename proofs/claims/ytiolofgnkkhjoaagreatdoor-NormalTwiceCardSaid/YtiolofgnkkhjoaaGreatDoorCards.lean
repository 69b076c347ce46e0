/-
  DERIVED. GIVEN WITH THE SEED: THE CARDS: each row of YtiolofgnkkhjoaaGreatDoorRows.lean that lists a variable, with what it lists TIED to the program's text (the seventh form; the later family's looks); each row that meets fmt, with fmt's text TOLD by the authors' own Lean function (tested against real Go, not proved from fmt's source: count such statements apart). THE CARD IS WHAT COUNTS. Prove the row's statement (the work); the ties are given (YtiolofgnkkhjoaaGreatDoorTie.lean); close each card by the builder's one call (the guide's Derived/Test/ToyasCard.lean, 'card_holds'). Laid BY PROGRAM, IN A SANDBOX (cutbox-door.mjs). By AI agents, Wed Nov 11 2026. No macro, syntax, notation, axiom, sorry.
-/
import Derived.Test.YtiolofgnkkhjoaaGreatDoorRows
import GoSem.ClaimSeven
namespace Go.Proofs.YtiolofgnkkhjoaaGreatDoor
namespace Rows

/-- THE TIED CARD OF 'truchmanlaw33.NzipkinKeeps'. -/
def nzipkinKeepsCard : Claim7 := { stood := { row := nzipkinKeepsRow, standIns := [], harness := (true, "9eb2ee243f17799170190e3b310a46dbf1bca42081ed75b007bcf3d1d5f20503"), looks := true }, kinds := [], alts := [], laidByText := true, laidKinds := [.data], laidTests := true, laidLooks := .later }
def NzipkinKeepsCardSaid : Prop := Claim7.holds Tryz.pinned (.plain (OpenSpec.ofChange nzipkinKeepsSpec)) nzipkinKeepsCard

/-- THE TIED CARD OF 'truchmanlaw34.NormalTells'. -/
def normalTellsCard : Claim7 := { stood := { row := normalTellsRow, standIns := [], harness := (true, "9eb2ee243f17799170190e3b310a46dbf1bca42081ed75b007bcf3d1d5f20503"), looks := true }, kinds := [], alts := [], laidByText := true, laidKinds := [.data], laidTests := true, laidLooks := .later }
def NormalTellsCardSaid : Prop := Claim7.holds Tryz.pinned (.plain (OpenSpec.ofChange normalTellsSpec)) normalTellsCard

/-- THE TIED CARD OF 'truchmanlaw34.NormalTwice'. -/
def normalTwiceCard : Claim7 := { stood := { row := normalTwiceRow, standIns := [], harness := (true, "9eb2ee243f17799170190e3b310a46dbf1bca42081ed75b007bcf3d1d5f20503"), looks := true }, kinds := [], alts := [], laidByText := true, laidKinds := [.data], laidTests := true, laidLooks := .later }
def NormalTwiceCardSaid : Prop := Claim7.holds Tryz.pinned (.plain (OpenSpec.ofChange normalTwiceSpec)) normalTwiceCard

/-- THE SECOND FORM's CARD OF 'truchmanlaw33.NzipkinKeeps'. -/
def nzipkinKeepsUptoCard : Claim7 := { stood := { row := nzipkinKeepsUptoRow, standIns := [], harness := (true, "9eb2ee243f17799170190e3b310a46dbf1bca42081ed75b007bcf3d1d5f20503"), looks := true }, kinds := [], alts := [], laidByText := true, laidKinds := [.data], laidTests := true, laidLooks := .later }
def NzipkinKeepsUptoCardSaid : Prop := Claim7.holds Tryz.pinned (.plain (OpenSpec.upto nzipkinKeepsSpec)) nzipkinKeepsUptoCard

/-- THE SECOND FORM's CARD OF 'truchmanlaw34.NormalTells'. -/
def normalTellsUptoCard : Claim7 := { stood := { row := normalTellsUptoRow, standIns := [], harness := (true, "9eb2ee243f17799170190e3b310a46dbf1bca42081ed75b007bcf3d1d5f20503"), looks := true }, kinds := [], alts := [], laidByText := true, laidKinds := [.data], laidTests := true, laidLooks := .later }
def NormalTellsUptoCardSaid : Prop := Claim7.holds Tryz.pinned (.plain (OpenSpec.upto normalTellsSpec)) normalTellsUptoCard

/-- THE SECOND FORM's CARD OF 'truchmanlaw34.NormalTwice'. -/
def normalTwiceUptoCard : Claim7 := { stood := { row := normalTwiceUptoRow, standIns := [], harness := (true, "9eb2ee243f17799170190e3b310a46dbf1bca42081ed75b007bcf3d1d5f20503"), looks := true }, kinds := [], alts := [], laidByText := true, laidKinds := [.data], laidTests := true, laidLooks := .later }
def NormalTwiceUptoCardSaid : Prop := Claim7.holds Tryz.pinned (.plain (OpenSpec.upto normalTwiceSpec)) normalTwiceUptoCard
end Rows
end Go.Proofs.YtiolofgnkkhjoaaGreatDoor
