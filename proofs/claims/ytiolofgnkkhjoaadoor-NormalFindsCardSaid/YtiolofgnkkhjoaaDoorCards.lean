/-
  DERIVED. GIVEN WITH THE SEED: THE CARDS: each row of YtiolofgnkkhjoaaDoorRows.lean that lists a variable, with what it lists TIED to the program's text (the seventh form; the later family's looks); each row that meets fmt, with fmt's text TOLD by the authors' own Lean function (tested against real Go, not proved from fmt's source: count such statements apart). THE CARD IS WHAT COUNTS. Prove the row's statement (the work); the ties are given (YtiolofgnkkhjoaaDoorTie.lean); close each card by the builder's one call (the guide's Derived/Test/ToyasCard.lean, 'card_holds'). Laid BY PROGRAM, IN A SANDBOX (cutbox-door.mjs). By AI agents, Wed Nov 11 2026. No macro, syntax, notation, axiom, sorry.
-/
import Derived.Test.YtiolofgnkkhjoaaDoorRows
import GoSem.ClaimSeven
namespace Go.Proofs.YtiolofgnkkhjoaaDoor
namespace Rows

/-- THE TIED CARD OF 'truchmanlaw33.NzipkinDoes'. -/
def nzipkinDoesCard : Claim7 := { stood := { row := nzipkinDoesRow, standIns := [], harness := (true, "45a304759e2d0aa5288a722728064e4cccb4a262119e6387dde6de775760af29"), looks := true }, kinds := [], alts := [], laidByText := true, laidKinds := [.data], laidTests := true, laidLooks := .later }
def NzipkinDoesCardSaid : Prop := Claim7.holds Tryd.pinned (.plain (OpenSpec.ofChange nzipkinDoesSpec)) nzipkinDoesCard

/-- THE TIED CARD OF 'truchmanlaw33.NzipkinStays'. -/
def nzipkinStaysCard : Claim7 := { stood := { row := nzipkinStaysRow, standIns := [], harness := (true, "45a304759e2d0aa5288a722728064e4cccb4a262119e6387dde6de775760af29"), looks := true }, kinds := [], alts := [], laidByText := true, laidKinds := [.data], laidTests := true, laidLooks := .later }
def NzipkinStaysCardSaid : Prop := Claim7.holds Tryd.pinned (.plain (OpenSpec.ofChange nzipkinStaysSpec)) nzipkinStaysCard

/-- THE TIED CARD OF 'truchmanlaw34.NormalFinds'. -/
def normalFindsCard : Claim7 := { stood := { row := normalFindsRow, standIns := [], harness := (true, "45a304759e2d0aa5288a722728064e4cccb4a262119e6387dde6de775760af29"), looks := true }, kinds := [], alts := [], laidByText := true, laidKinds := [.data], laidTests := true, laidLooks := .later }
def NormalFindsCardSaid : Prop := Claim7.holds Tryd.pinned (.plain (OpenSpec.ofChange normalFindsSpec)) normalFindsCard

/-- THE SECOND FORM's CARD OF 'truchmanlaw33.NzipkinDoes'. -/
def nzipkinDoesUptoCard : Claim7 := { stood := { row := nzipkinDoesUptoRow, standIns := [], harness := (true, "45a304759e2d0aa5288a722728064e4cccb4a262119e6387dde6de775760af29"), looks := true }, kinds := [], alts := [], laidByText := true, laidKinds := [.data], laidTests := true, laidLooks := .later }
def NzipkinDoesUptoCardSaid : Prop := Claim7.holds Tryd.pinned (.plain (OpenSpec.upto nzipkinDoesSpec)) nzipkinDoesUptoCard

/-- THE SECOND FORM's CARD OF 'truchmanlaw33.NzipkinStays'. -/
def nzipkinStaysUptoCard : Claim7 := { stood := { row := nzipkinStaysUptoRow, standIns := [], harness := (true, "45a304759e2d0aa5288a722728064e4cccb4a262119e6387dde6de775760af29"), looks := true }, kinds := [], alts := [], laidByText := true, laidKinds := [.data], laidTests := true, laidLooks := .later }
def NzipkinStaysUptoCardSaid : Prop := Claim7.holds Tryd.pinned (.plain (OpenSpec.upto nzipkinStaysSpec)) nzipkinStaysUptoCard

/-- THE SECOND FORM's CARD OF 'truchmanlaw34.NormalFinds'. -/
def normalFindsUptoCard : Claim7 := { stood := { row := normalFindsUptoRow, standIns := [], harness := (true, "45a304759e2d0aa5288a722728064e4cccb4a262119e6387dde6de775760af29"), looks := true }, kinds := [], alts := [], laidByText := true, laidKinds := [.data], laidTests := true, laidLooks := .later }
def NormalFindsUptoCardSaid : Prop := Claim7.holds Tryd.pinned (.plain (OpenSpec.upto normalFindsSpec)) normalFindsUptoCard
end Rows
end Go.Proofs.YtiolofgnkkhjoaaDoor
