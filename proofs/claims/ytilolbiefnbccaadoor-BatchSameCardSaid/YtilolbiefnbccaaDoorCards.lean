/-
  DERIVED. GIVEN WITH THE SEED: THE CARDS: each row of YtilolbiefnbccaaDoorRows.lean that lists a variable, with what it lists TIED to the program's text (the seventh form; the later family's looks); each row that meets fmt, with fmt's text TOLD by the authors' own Lean function (tested against real Go, not proved from fmt's source: count such statements apart). THE CARD IS WHAT COUNTS. Prove the row's statement (the work); the ties are given (YtilolbiefnbccaaDoorTie.lean); close each card by the builder's one call (the guide's Derived/Test/ToyasCard.lean, 'card_holds'). Laid BY PROGRAM, IN A SANDBOX (cutbox-door.mjs). By AI agents, Wed Nov 11 2026. No macro, syntax, notation, axiom, sorry.
-/
import Derived.Test.YtilolbiefnbccaaDoorRows
import GoSem.ClaimSeven
namespace Go.Proofs.YtilolbiefnbccaaDoor
namespace Rows

/-- THE TIED CARD OF 'truchmanlaw28.BatchSame'. -/
def batchSameCard : Claim7 := { stood := { row := batchSameRow, standIns := [], harness := (true, "196bdc55a807875f9accbb9a7952d98b4bdbb9fd5498ba9c23b560df9ec044d3"), looks := true }, kinds := [], alts := [], laidByText := true, laidKinds := [.data], laidTests := true, laidLooks := .later }
def BatchSameCardSaid : Prop := Claim7.holds Tryd.pinned (.plain (OpenSpec.ofChange batchSameSpec)) batchSameCard

/-- THE TIED CARD OF 'truchmanlaw28.BatchCanon'. -/
def batchCanonCard : Claim7 := { stood := { row := batchCanonRow, standIns := [], harness := (true, "196bdc55a807875f9accbb9a7952d98b4bdbb9fd5498ba9c23b560df9ec044d3"), looks := true }, kinds := [], alts := [], laidByText := true, laidKinds := [.data], laidTests := true, laidLooks := .later }
def BatchCanonCardSaid : Prop := Claim7.holds Tryd.pinned (.plain (OpenSpec.ofChange batchCanonSpec)) batchCanonCard

/-- THE TIED CARD OF 'truchmanlaw28.BatchGoes'. -/
def batchGoesCard : Claim7 := { stood := { row := batchGoesRow, standIns := [], harness := (true, "196bdc55a807875f9accbb9a7952d98b4bdbb9fd5498ba9c23b560df9ec044d3"), looks := true }, kinds := [], alts := [], laidByText := true, laidKinds := [.data], laidTests := true, laidLooks := .later }
def BatchGoesCardSaid : Prop := Claim7.holds Tryd.pinned (.plain (OpenSpec.ofChange batchGoesSpec)) batchGoesCard

/-- THE TIED CARD OF 'truchmanlaw33.NzipkinDoes'. -/
def nzipkinDoesCard : Claim7 := { stood := { row := nzipkinDoesRow, standIns := [], harness := (true, "196bdc55a807875f9accbb9a7952d98b4bdbb9fd5498ba9c23b560df9ec044d3"), looks := true }, kinds := [], alts := [], laidByText := true, laidKinds := [.data], laidTests := true, laidLooks := .later }
def NzipkinDoesCardSaid : Prop := Claim7.holds Tryd.pinned (.plain (OpenSpec.ofChange nzipkinDoesSpec)) nzipkinDoesCard

/-- THE TIED CARD OF 'truchmanlaw33.NzipkinStays'. -/
def nzipkinStaysCard : Claim7 := { stood := { row := nzipkinStaysRow, standIns := [], harness := (true, "196bdc55a807875f9accbb9a7952d98b4bdbb9fd5498ba9c23b560df9ec044d3"), looks := true }, kinds := [], alts := [], laidByText := true, laidKinds := [.data], laidTests := true, laidLooks := .later }
def NzipkinStaysCardSaid : Prop := Claim7.holds Tryd.pinned (.plain (OpenSpec.ofChange nzipkinStaysSpec)) nzipkinStaysCard

/-- THE SECOND FORM's CARD OF 'truchmanlaw28.BatchSame'. -/
def batchSameUptoCard : Claim7 := { stood := { row := batchSameUptoRow, standIns := [], harness := (true, "196bdc55a807875f9accbb9a7952d98b4bdbb9fd5498ba9c23b560df9ec044d3"), looks := true }, kinds := [], alts := [], laidByText := true, laidKinds := [.data], laidTests := true, laidLooks := .later }
def BatchSameUptoCardSaid : Prop := Claim7.holds Tryd.pinned (.plain (OpenSpec.upto batchSameSpec)) batchSameUptoCard

/-- THE SECOND FORM's CARD OF 'truchmanlaw28.BatchCanon'. -/
def batchCanonUptoCard : Claim7 := { stood := { row := batchCanonUptoRow, standIns := [], harness := (true, "196bdc55a807875f9accbb9a7952d98b4bdbb9fd5498ba9c23b560df9ec044d3"), looks := true }, kinds := [], alts := [], laidByText := true, laidKinds := [.data], laidTests := true, laidLooks := .later }
def BatchCanonUptoCardSaid : Prop := Claim7.holds Tryd.pinned (.plain (OpenSpec.upto batchCanonSpec)) batchCanonUptoCard

/-- THE SECOND FORM's CARD OF 'truchmanlaw28.BatchGoes'. -/
def batchGoesUptoCard : Claim7 := { stood := { row := batchGoesUptoRow, standIns := [], harness := (true, "196bdc55a807875f9accbb9a7952d98b4bdbb9fd5498ba9c23b560df9ec044d3"), looks := true }, kinds := [], alts := [], laidByText := true, laidKinds := [.data], laidTests := true, laidLooks := .later }
def BatchGoesUptoCardSaid : Prop := Claim7.holds Tryd.pinned (.plain (OpenSpec.upto batchGoesSpec)) batchGoesUptoCard

/-- THE SECOND FORM's CARD OF 'truchmanlaw33.NzipkinDoes'. -/
def nzipkinDoesUptoCard : Claim7 := { stood := { row := nzipkinDoesUptoRow, standIns := [], harness := (true, "196bdc55a807875f9accbb9a7952d98b4bdbb9fd5498ba9c23b560df9ec044d3"), looks := true }, kinds := [], alts := [], laidByText := true, laidKinds := [.data], laidTests := true, laidLooks := .later }
def NzipkinDoesUptoCardSaid : Prop := Claim7.holds Tryd.pinned (.plain (OpenSpec.upto nzipkinDoesSpec)) nzipkinDoesUptoCard

/-- THE SECOND FORM's CARD OF 'truchmanlaw33.NzipkinStays'. -/
def nzipkinStaysUptoCard : Claim7 := { stood := { row := nzipkinStaysUptoRow, standIns := [], harness := (true, "196bdc55a807875f9accbb9a7952d98b4bdbb9fd5498ba9c23b560df9ec044d3"), looks := true }, kinds := [], alts := [], laidByText := true, laidKinds := [.data], laidTests := true, laidLooks := .later }
def NzipkinStaysUptoCardSaid : Prop := Claim7.holds Tryd.pinned (.plain (OpenSpec.upto nzipkinStaysSpec)) nzipkinStaysUptoCard
end Rows
end Go.Proofs.YtilolbiefnbccaaDoor
