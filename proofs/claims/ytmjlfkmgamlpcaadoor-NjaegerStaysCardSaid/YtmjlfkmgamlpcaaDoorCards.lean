/-
  DERIVED. GIVEN WITH THE SEED: THE CARDS: each row of YtmjlfkmgamlpcaaDoorRows.lean that lists a variable, with what it lists TIED to the program's text (the seventh form; the later family's looks); each row that meets fmt, with fmt's text TOLD by the authors' own Lean function (tested against real Go, not proved from fmt's source: count such statements apart). THE CARD IS WHAT COUNTS. Prove the row's statement (the work); the ties are given (YtmjlfkmgamlpcaaDoorTie.lean); close each card by the builder's one call (the guide's Derived/Test/ToyasCard.lean, 'card_holds'). Laid BY PROGRAM, IN A SANDBOX (cutbox-door.mjs). By AI agents, Wed Nov 11 2026. No macro, syntax, notation, axiom, sorry.
-/
import Derived.Test.YtmjlfkmgamlpcaaDoorRows
import GoSem.ClaimSeven
namespace Go.Proofs.YtmjlfkmgamlpcaaDoor
namespace Rows

/-- THE TIED CARD OF 'truchmanlaw29.WeighTells'. -/
def weighTellsCard : Claim7 := { stood := { row := weighTellsRow, standIns := [], harness := (true, "7faabc7b6616c43319b48cc82851ee53096530dc2a7905aed82e4d078642087c"), looks := true }, kinds := [], alts := [], laidByText := true, laidKinds := [.data], laidTests := true, laidLooks := .later }
def WeighTellsCardSaid : Prop := Claim7.holds Tryd.pinned (.plain (OpenSpec.ofChange weighTellsSpec)) weighTellsCard

/-- THE TIED CARD OF 'truchmanlaw29.WeighParts'. -/
def weighPartsCard : Claim7 := { stood := { row := weighPartsRow, standIns := [], harness := (true, "7faabc7b6616c43319b48cc82851ee53096530dc2a7905aed82e4d078642087c"), looks := true }, kinds := [], alts := [], laidByText := true, laidKinds := [.data], laidTests := true, laidLooks := .later }
def WeighPartsCardSaid : Prop := Claim7.holds Tryd.pinned (.plain (OpenSpec.ofChange weighPartsSpec)) weighPartsCard

/-- THE TIED CARD OF 'truchmanlaw32.NjaegerDoes'. -/
def njaegerDoesCard : Claim7 := { stood := { row := njaegerDoesRow, standIns := [], harness := (true, "7faabc7b6616c43319b48cc82851ee53096530dc2a7905aed82e4d078642087c"), looks := true }, kinds := [], alts := [], laidByText := true, laidKinds := [.data], laidTests := true, laidLooks := .later }
def NjaegerDoesCardSaid : Prop := Claim7.holds Tryd.pinned (.plain (OpenSpec.ofChange njaegerDoesSpec)) njaegerDoesCard

/-- THE TIED CARD OF 'truchmanlaw32.NjaegerStays'. -/
def njaegerStaysCard : Claim7 := { stood := { row := njaegerStaysRow, standIns := [], harness := (true, "7faabc7b6616c43319b48cc82851ee53096530dc2a7905aed82e4d078642087c"), looks := true }, kinds := [], alts := [], laidByText := true, laidKinds := [.data], laidTests := true, laidLooks := .later }
def NjaegerStaysCardSaid : Prop := Claim7.holds Tryd.pinned (.plain (OpenSpec.ofChange njaegerStaysSpec)) njaegerStaysCard

/-- THE TIED CARD OF 'truchmanlaw26.AttrsChecks'. -/
def attrsChecksCard : Claim7 := { stood := { row := attrsChecksRow, standIns := [], harness := (true, "7faabc7b6616c43319b48cc82851ee53096530dc2a7905aed82e4d078642087c"), looks := true }, kinds := [], alts := [], laidByText := true, laidKinds := [.data], laidTests := true, laidLooks := .later }
def AttrsChecksCardSaid : Prop := Claim7.holds Tryd.pinned (.plain (OpenSpec.ofChange attrsChecksSpec)) attrsChecksCard

/-- THE TIED CARD OF 'truchmanlaw26.AttrsHold'. -/
def attrsHoldCard : Claim7 := { stood := { row := attrsHoldRow, standIns := [], harness := (true, "7faabc7b6616c43319b48cc82851ee53096530dc2a7905aed82e4d078642087c"), looks := true }, kinds := [], alts := [], laidByText := true, laidKinds := [.data], laidTests := true, laidLooks := .later }
def AttrsHoldCardSaid : Prop := Claim7.holds Tryd.pinned (.plain (OpenSpec.ofChange attrsHoldSpec)) attrsHoldCard

/-- THE TIED CARD OF 'truchmanlaw26.AttrsPick'. -/
def attrsPickCard : Claim7 := { stood := { row := attrsPickRow, standIns := [], harness := (true, "7faabc7b6616c43319b48cc82851ee53096530dc2a7905aed82e4d078642087c"), looks := true }, kinds := [], alts := [], laidByText := true, laidKinds := [.data], laidTests := true, laidLooks := .later }
def AttrsPickCardSaid : Prop := Claim7.holds Tryd.pinned (.plain (OpenSpec.ofChange attrsPickSpec)) attrsPickCard

/-- THE TIED CARD OF 'truchmanlaw28.BatchSame'. -/
def batchSameCard : Claim7 := { stood := { row := batchSameRow, standIns := [], harness := (true, "7faabc7b6616c43319b48cc82851ee53096530dc2a7905aed82e4d078642087c"), looks := true }, kinds := [], alts := [], laidByText := true, laidKinds := [.data], laidTests := true, laidLooks := .later }
def BatchSameCardSaid : Prop := Claim7.holds Tryd.pinned (.plain (OpenSpec.ofChange batchSameSpec)) batchSameCard

/-- THE TIED CARD OF 'truchmanlaw27.SpanSame'. -/
def spanSameCard : Claim7 := { stood := { row := spanSameRow, standIns := [], harness := (true, "7faabc7b6616c43319b48cc82851ee53096530dc2a7905aed82e4d078642087c"), looks := true }, kinds := [], alts := [], laidByText := true, laidKinds := [.data], laidTests := true, laidLooks := .later }
def SpanSameCardSaid : Prop := Claim7.holds Tryd.pinned (.plain (OpenSpec.ofChange spanSameSpec)) spanSameCard

/-- THE SECOND FORM's CARD OF 'truchmanlaw29.WeighTells'. -/
def weighTellsUptoCard : Claim7 := { stood := { row := weighTellsUptoRow, standIns := [], harness := (true, "7faabc7b6616c43319b48cc82851ee53096530dc2a7905aed82e4d078642087c"), looks := true }, kinds := [], alts := [], laidByText := true, laidKinds := [.data], laidTests := true, laidLooks := .later }
def WeighTellsUptoCardSaid : Prop := Claim7.holds Tryd.pinned (.plain (OpenSpec.upto weighTellsSpec)) weighTellsUptoCard

/-- THE SECOND FORM's CARD OF 'truchmanlaw29.WeighParts'. -/
def weighPartsUptoCard : Claim7 := { stood := { row := weighPartsUptoRow, standIns := [], harness := (true, "7faabc7b6616c43319b48cc82851ee53096530dc2a7905aed82e4d078642087c"), looks := true }, kinds := [], alts := [], laidByText := true, laidKinds := [.data], laidTests := true, laidLooks := .later }
def WeighPartsUptoCardSaid : Prop := Claim7.holds Tryd.pinned (.plain (OpenSpec.upto weighPartsSpec)) weighPartsUptoCard

/-- THE SECOND FORM's CARD OF 'truchmanlaw32.NjaegerDoes'. -/
def njaegerDoesUptoCard : Claim7 := { stood := { row := njaegerDoesUptoRow, standIns := [], harness := (true, "7faabc7b6616c43319b48cc82851ee53096530dc2a7905aed82e4d078642087c"), looks := true }, kinds := [], alts := [], laidByText := true, laidKinds := [.data], laidTests := true, laidLooks := .later }
def NjaegerDoesUptoCardSaid : Prop := Claim7.holds Tryd.pinned (.plain (OpenSpec.upto njaegerDoesSpec)) njaegerDoesUptoCard

/-- THE SECOND FORM's CARD OF 'truchmanlaw32.NjaegerStays'. -/
def njaegerStaysUptoCard : Claim7 := { stood := { row := njaegerStaysUptoRow, standIns := [], harness := (true, "7faabc7b6616c43319b48cc82851ee53096530dc2a7905aed82e4d078642087c"), looks := true }, kinds := [], alts := [], laidByText := true, laidKinds := [.data], laidTests := true, laidLooks := .later }
def NjaegerStaysUptoCardSaid : Prop := Claim7.holds Tryd.pinned (.plain (OpenSpec.upto njaegerStaysSpec)) njaegerStaysUptoCard

/-- THE SECOND FORM's CARD OF 'truchmanlaw26.AttrsChecks'. -/
def attrsChecksUptoCard : Claim7 := { stood := { row := attrsChecksUptoRow, standIns := [], harness := (true, "7faabc7b6616c43319b48cc82851ee53096530dc2a7905aed82e4d078642087c"), looks := true }, kinds := [], alts := [], laidByText := true, laidKinds := [.data], laidTests := true, laidLooks := .later }
def AttrsChecksUptoCardSaid : Prop := Claim7.holds Tryd.pinned (.plain (OpenSpec.upto attrsChecksSpec)) attrsChecksUptoCard

/-- THE SECOND FORM's CARD OF 'truchmanlaw26.AttrsHold'. -/
def attrsHoldUptoCard : Claim7 := { stood := { row := attrsHoldUptoRow, standIns := [], harness := (true, "7faabc7b6616c43319b48cc82851ee53096530dc2a7905aed82e4d078642087c"), looks := true }, kinds := [], alts := [], laidByText := true, laidKinds := [.data], laidTests := true, laidLooks := .later }
def AttrsHoldUptoCardSaid : Prop := Claim7.holds Tryd.pinned (.plain (OpenSpec.upto attrsHoldSpec)) attrsHoldUptoCard

/-- THE SECOND FORM's CARD OF 'truchmanlaw26.AttrsPick'. -/
def attrsPickUptoCard : Claim7 := { stood := { row := attrsPickUptoRow, standIns := [], harness := (true, "7faabc7b6616c43319b48cc82851ee53096530dc2a7905aed82e4d078642087c"), looks := true }, kinds := [], alts := [], laidByText := true, laidKinds := [.data], laidTests := true, laidLooks := .later }
def AttrsPickUptoCardSaid : Prop := Claim7.holds Tryd.pinned (.plain (OpenSpec.upto attrsPickSpec)) attrsPickUptoCard

/-- THE SECOND FORM's CARD OF 'truchmanlaw28.BatchSame'. -/
def batchSameUptoCard : Claim7 := { stood := { row := batchSameUptoRow, standIns := [], harness := (true, "7faabc7b6616c43319b48cc82851ee53096530dc2a7905aed82e4d078642087c"), looks := true }, kinds := [], alts := [], laidByText := true, laidKinds := [.data], laidTests := true, laidLooks := .later }
def BatchSameUptoCardSaid : Prop := Claim7.holds Tryd.pinned (.plain (OpenSpec.upto batchSameSpec)) batchSameUptoCard

/-- THE SECOND FORM's CARD OF 'truchmanlaw27.SpanSame'. -/
def spanSameUptoCard : Claim7 := { stood := { row := spanSameUptoRow, standIns := [], harness := (true, "7faabc7b6616c43319b48cc82851ee53096530dc2a7905aed82e4d078642087c"), looks := true }, kinds := [], alts := [], laidByText := true, laidKinds := [.data], laidTests := true, laidLooks := .later }
def SpanSameUptoCardSaid : Prop := Claim7.holds Tryd.pinned (.plain (OpenSpec.upto spanSameSpec)) spanSameUptoCard
end Rows
end Go.Proofs.YtmjlfkmgamlpcaaDoor
