/-
  DERIVED. GIVEN WITH THE SEED: THE CARDS: each row of YtdbcdeihinboeaaDoorRows.lean that lists a variable, with what it lists TIED to the program's text (the seventh form; the later family's looks); each row that meets fmt, with fmt's text TOLD by the authors' own Lean function (tested against real Go, not proved from fmt's source: count such statements apart). THE CARD IS WHAT COUNTS. Prove the row's statement (the work); the ties are given (YtdbcdeihinboeaaDoorTie.lean); close each card by the builder's one call (the guide's Derived/Test/ToyasCard.lean, 'card_holds'). Laid BY PROGRAM, IN A SANDBOX (cutbox-door.mjs). By AI agents, Wed Nov 11 2026. No macro, syntax, notation, axiom, sorry.
-/
import Derived.Test.YtdbcdeihinboeaaDoorRows
import GoSem.ClaimSeven
namespace Go.Proofs.YtdbcdeihinboeaaDoor
namespace Rows

/-- THE TIED CARD OF 'truchmanlaw29.WeighTells'. -/
def weighTellsCard : Claim7 := { stood := { row := weighTellsRow, standIns := [], harness := (true, "ac72196840cc243304b5d369f8ee4da2ef558b9f9855ba4d5b83878f5a394666"), looks := true }, kinds := [], alts := [], laidByText := true, laidKinds := [.data], laidTests := true, laidLooks := .later }
def WeighTellsCardSaid : Prop := Claim7.holds Tryd.pinned (.plain (OpenSpec.ofChange weighTellsSpec)) weighTellsCard

/-- THE TIED CARD OF 'truchmanlaw29.WeighParts'. -/
def weighPartsCard : Claim7 := { stood := { row := weighPartsRow, standIns := [], harness := (true, "ac72196840cc243304b5d369f8ee4da2ef558b9f9855ba4d5b83878f5a394666"), looks := true }, kinds := [], alts := [], laidByText := true, laidKinds := [.data], laidTests := true, laidLooks := .later }
def WeighPartsCardSaid : Prop := Claim7.holds Tryd.pinned (.plain (OpenSpec.ofChange weighPartsSpec)) weighPartsCard

/-- THE TIED CARD OF 'truchmanlaw29.WeighPlain'. -/
def weighPlainCard : Claim7 := { stood := { row := weighPlainRow, standIns := [], harness := (true, "ac72196840cc243304b5d369f8ee4da2ef558b9f9855ba4d5b83878f5a394666"), looks := true }, kinds := [], alts := [], laidByText := true, laidKinds := [.data], laidTests := true, laidLooks := .later }
def WeighPlainCardSaid : Prop := Claim7.holds Tryd.pinned (.plain (OpenSpec.ofChange weighPlainSpec)) weighPlainCard

/-- THE TIED CARD OF 'truchmanlaw09.FaultTells'. -/
def faultTellsCard : Claim7 := { stood := { row := faultTellsRow, standIns := [], harness := (true, "ac72196840cc243304b5d369f8ee4da2ef558b9f9855ba4d5b83878f5a394666"), looks := true }, kinds := [], alts := [], laidByText := true, laidKinds := [.handle], laidTests := true, laidLooks := .later }
def FaultTellsCardSaid : Prop := Claim7.holds Tryd.pinned (.plain (OpenSpec.ofChange faultTellsSpec)) faultTellsCard

/-- THE TIED CARD OF 'truchmanlaw09.FaultKinds'. -/
def faultKindsCard : Claim7 := { stood := { row := faultKindsRow, standIns := [], harness := (true, "ac72196840cc243304b5d369f8ee4da2ef558b9f9855ba4d5b83878f5a394666"), looks := true }, kinds := [], alts := [], laidByText := true, laidKinds := [.handle], laidTests := true, laidLooks := .later }
def FaultKindsCardSaid : Prop := Claim7.holds Tryd.pinned (.plain (OpenSpec.ofChange faultKindsSpec)) faultKindsCard

/-- THE TIED CARD OF 'truchmanlaw09.FaultTwo'. -/
def faultTwoCard : Claim7 := { stood := { row := faultTwoRow, standIns := [], harness := (true, "ac72196840cc243304b5d369f8ee4da2ef558b9f9855ba4d5b83878f5a394666"), looks := true }, kinds := [], alts := [], laidByText := true, laidKinds := [.handle], laidTests := true, laidLooks := .later }
def FaultTwoCardSaid : Prop := Claim7.holds Tryd.pinned (.plain (OpenSpec.ofChange faultTwoSpec)) faultTwoCard

/-- THE TIED CARD OF 'truchmanlaw32.NjaegerDoes'. -/
def njaegerDoesCard : Claim7 := { stood := { row := njaegerDoesRow, standIns := [], harness := (true, "ac72196840cc243304b5d369f8ee4da2ef558b9f9855ba4d5b83878f5a394666"), looks := true }, kinds := [], alts := [], laidByText := true, laidKinds := [.data], laidTests := true, laidLooks := .later }
def NjaegerDoesCardSaid : Prop := Claim7.holds Tryd.pinned (.plain (OpenSpec.ofChange njaegerDoesSpec)) njaegerDoesCard

/-- THE TIED CARD OF 'truchmanlaw32.NjaegerStays'. -/
def njaegerStaysCard : Claim7 := { stood := { row := njaegerStaysRow, standIns := [], harness := (true, "ac72196840cc243304b5d369f8ee4da2ef558b9f9855ba4d5b83878f5a394666"), looks := true }, kinds := [], alts := [], laidByText := true, laidKinds := [.data], laidTests := true, laidLooks := .later }
def NjaegerStaysCardSaid : Prop := Claim7.holds Tryd.pinned (.plain (OpenSpec.ofChange njaegerStaysSpec)) njaegerStaysCard

/-- THE TIED CARD OF 'truchmanlaw33.NzipkinDoes'. -/
def nzipkinDoesCard : Claim7 := { stood := { row := nzipkinDoesRow, standIns := [], harness := (true, "ac72196840cc243304b5d369f8ee4da2ef558b9f9855ba4d5b83878f5a394666"), looks := true }, kinds := [], alts := [], laidByText := true, laidKinds := [.data], laidTests := true, laidLooks := .later }
def NzipkinDoesCardSaid : Prop := Claim7.holds Tryd.pinned (.plain (OpenSpec.ofChange nzipkinDoesSpec)) nzipkinDoesCard

/-- THE TIED CARD OF 'truchmanlaw33.NzipkinStays'. -/
def nzipkinStaysCard : Claim7 := { stood := { row := nzipkinStaysRow, standIns := [], harness := (true, "ac72196840cc243304b5d369f8ee4da2ef558b9f9855ba4d5b83878f5a394666"), looks := true }, kinds := [], alts := [], laidByText := true, laidKinds := [.data], laidTests := true, laidLooks := .later }
def NzipkinStaysCardSaid : Prop := Claim7.holds Tryd.pinned (.plain (OpenSpec.ofChange nzipkinStaysSpec)) nzipkinStaysCard

/-- THE TIED CARD OF 'truchmanlaw26.AttrsChecks'. -/
def attrsChecksCard : Claim7 := { stood := { row := attrsChecksRow, standIns := [], harness := (true, "ac72196840cc243304b5d369f8ee4da2ef558b9f9855ba4d5b83878f5a394666"), looks := true }, kinds := [], alts := [], laidByText := true, laidKinds := [.data], laidTests := true, laidLooks := .later }
def AttrsChecksCardSaid : Prop := Claim7.holds Tryd.pinned (.plain (OpenSpec.ofChange attrsChecksSpec)) attrsChecksCard

/-- THE TIED CARD OF 'truchmanlaw26.AttrsHold'. -/
def attrsHoldCard : Claim7 := { stood := { row := attrsHoldRow, standIns := [], harness := (true, "ac72196840cc243304b5d369f8ee4da2ef558b9f9855ba4d5b83878f5a394666"), looks := true }, kinds := [], alts := [], laidByText := true, laidKinds := [.data], laidTests := true, laidLooks := .later }
def AttrsHoldCardSaid : Prop := Claim7.holds Tryd.pinned (.plain (OpenSpec.ofChange attrsHoldSpec)) attrsHoldCard

/-- THE TIED CARD OF 'truchmanlaw26.AttrsPick'. -/
def attrsPickCard : Claim7 := { stood := { row := attrsPickRow, standIns := [], harness := (true, "ac72196840cc243304b5d369f8ee4da2ef558b9f9855ba4d5b83878f5a394666"), looks := true }, kinds := [], alts := [], laidByText := true, laidKinds := [.data], laidTests := true, laidLooks := .later }
def AttrsPickCardSaid : Prop := Claim7.holds Tryd.pinned (.plain (OpenSpec.ofChange attrsPickSpec)) attrsPickCard

/-- THE TIED CARD OF 'truchmanlaw34.NormalFinds'. -/
def normalFindsCard : Claim7 := { stood := { row := normalFindsRow, standIns := [], harness := (true, "ac72196840cc243304b5d369f8ee4da2ef558b9f9855ba4d5b83878f5a394666"), looks := true }, kinds := [], alts := [], laidByText := true, laidKinds := [.data], laidTests := true, laidLooks := .later }
def NormalFindsCardSaid : Prop := Claim7.holds Tryd.pinned (.plain (OpenSpec.ofChange normalFindsSpec)) normalFindsCard

/-- THE TIED CARD OF 'truchmanlaw28.BatchGoes'. -/
def batchGoesCard : Claim7 := { stood := { row := batchGoesRow, standIns := [], harness := (true, "ac72196840cc243304b5d369f8ee4da2ef558b9f9855ba4d5b83878f5a394666"), looks := true }, kinds := [], alts := [], laidByText := true, laidKinds := [.data], laidTests := true, laidLooks := .later }
def BatchGoesCardSaid : Prop := Claim7.holds Tryd.pinned (.plain (OpenSpec.ofChange batchGoesSpec)) batchGoesCard

/-- THE TIED CARD OF 'truchmanlaw28.BatchCanon'. -/
def batchCanonCard : Claim7 := { stood := { row := batchCanonRow, standIns := [], harness := (true, "ac72196840cc243304b5d369f8ee4da2ef558b9f9855ba4d5b83878f5a394666"), looks := true }, kinds := [], alts := [], laidByText := true, laidKinds := [.data], laidTests := true, laidLooks := .later }
def BatchCanonCardSaid : Prop := Claim7.holds Tryd.pinned (.plain (OpenSpec.ofChange batchCanonSpec)) batchCanonCard

/-- THE TIED CARD OF 'truchmanlaw28.BatchSame'. -/
def batchSameCard : Claim7 := { stood := { row := batchSameRow, standIns := [], harness := (true, "ac72196840cc243304b5d369f8ee4da2ef558b9f9855ba4d5b83878f5a394666"), looks := true }, kinds := [], alts := [], laidByText := true, laidKinds := [.data], laidTests := true, laidLooks := .later }
def BatchSameCardSaid : Prop := Claim7.holds Tryd.pinned (.plain (OpenSpec.ofChange batchSameSpec)) batchSameCard

/-- THE TIED CARD OF 'truchmanlaw27.SpanCanon'. -/
def spanCanonCard : Claim7 := { stood := { row := spanCanonRow, standIns := [], harness := (true, "ac72196840cc243304b5d369f8ee4da2ef558b9f9855ba4d5b83878f5a394666"), looks := true }, kinds := [], alts := [], laidByText := true, laidKinds := [.data], laidTests := true, laidLooks := .later }
def SpanCanonCardSaid : Prop := Claim7.holds Tryd.pinned (.plain (OpenSpec.ofChange spanCanonSpec)) spanCanonCard

/-- THE TIED CARD OF 'truchmanlaw27.SpanSame'. -/
def spanSameCard : Claim7 := { stood := { row := spanSameRow, standIns := [], harness := (true, "ac72196840cc243304b5d369f8ee4da2ef558b9f9855ba4d5b83878f5a394666"), looks := true }, kinds := [], alts := [], laidByText := true, laidKinds := [.data], laidTests := true, laidLooks := .later }
def SpanSameCardSaid : Prop := Claim7.holds Tryd.pinned (.plain (OpenSpec.ofChange spanSameSpec)) spanSameCard

/-- THE SECOND FORM's CARD OF 'truchmanlaw29.WeighTells'. -/
def weighTellsUptoCard : Claim7 := { stood := { row := weighTellsUptoRow, standIns := [], harness := (true, "ac72196840cc243304b5d369f8ee4da2ef558b9f9855ba4d5b83878f5a394666"), looks := true }, kinds := [], alts := [], laidByText := true, laidKinds := [.data], laidTests := true, laidLooks := .later }
def WeighTellsUptoCardSaid : Prop := Claim7.holds Tryd.pinned (.plain (OpenSpec.upto weighTellsSpec)) weighTellsUptoCard

/-- THE SECOND FORM's CARD OF 'truchmanlaw29.WeighParts'. -/
def weighPartsUptoCard : Claim7 := { stood := { row := weighPartsUptoRow, standIns := [], harness := (true, "ac72196840cc243304b5d369f8ee4da2ef558b9f9855ba4d5b83878f5a394666"), looks := true }, kinds := [], alts := [], laidByText := true, laidKinds := [.data], laidTests := true, laidLooks := .later }
def WeighPartsUptoCardSaid : Prop := Claim7.holds Tryd.pinned (.plain (OpenSpec.upto weighPartsSpec)) weighPartsUptoCard

/-- THE SECOND FORM's CARD OF 'truchmanlaw29.WeighPlain'. -/
def weighPlainUptoCard : Claim7 := { stood := { row := weighPlainUptoRow, standIns := [], harness := (true, "ac72196840cc243304b5d369f8ee4da2ef558b9f9855ba4d5b83878f5a394666"), looks := true }, kinds := [], alts := [], laidByText := true, laidKinds := [.data], laidTests := true, laidLooks := .later }
def WeighPlainUptoCardSaid : Prop := Claim7.holds Tryd.pinned (.plain (OpenSpec.upto weighPlainSpec)) weighPlainUptoCard

/-- THE SECOND FORM's CARD OF 'truchmanlaw09.FaultTells'. -/
def faultTellsUptoCard : Claim7 := { stood := { row := faultTellsUptoRow, standIns := [], harness := (true, "ac72196840cc243304b5d369f8ee4da2ef558b9f9855ba4d5b83878f5a394666"), looks := true }, kinds := [], alts := [], laidByText := true, laidKinds := [.handle], laidTests := true, laidLooks := .later }
def FaultTellsUptoCardSaid : Prop := Claim7.holds Tryd.pinned (.plain (OpenSpec.upto faultTellsSpec)) faultTellsUptoCard

/-- THE SECOND FORM's CARD OF 'truchmanlaw09.FaultKinds'. -/
def faultKindsUptoCard : Claim7 := { stood := { row := faultKindsUptoRow, standIns := [], harness := (true, "ac72196840cc243304b5d369f8ee4da2ef558b9f9855ba4d5b83878f5a394666"), looks := true }, kinds := [], alts := [], laidByText := true, laidKinds := [.handle], laidTests := true, laidLooks := .later }
def FaultKindsUptoCardSaid : Prop := Claim7.holds Tryd.pinned (.plain (OpenSpec.upto faultKindsSpec)) faultKindsUptoCard

/-- THE SECOND FORM's CARD OF 'truchmanlaw09.FaultTwo'. -/
def faultTwoUptoCard : Claim7 := { stood := { row := faultTwoUptoRow, standIns := [], harness := (true, "ac72196840cc243304b5d369f8ee4da2ef558b9f9855ba4d5b83878f5a394666"), looks := true }, kinds := [], alts := [], laidByText := true, laidKinds := [.handle], laidTests := true, laidLooks := .later }
def FaultTwoUptoCardSaid : Prop := Claim7.holds Tryd.pinned (.plain (OpenSpec.upto faultTwoSpec)) faultTwoUptoCard

/-- THE SECOND FORM's CARD OF 'truchmanlaw32.NjaegerDoes'. -/
def njaegerDoesUptoCard : Claim7 := { stood := { row := njaegerDoesUptoRow, standIns := [], harness := (true, "ac72196840cc243304b5d369f8ee4da2ef558b9f9855ba4d5b83878f5a394666"), looks := true }, kinds := [], alts := [], laidByText := true, laidKinds := [.data], laidTests := true, laidLooks := .later }
def NjaegerDoesUptoCardSaid : Prop := Claim7.holds Tryd.pinned (.plain (OpenSpec.upto njaegerDoesSpec)) njaegerDoesUptoCard

/-- THE SECOND FORM's CARD OF 'truchmanlaw32.NjaegerStays'. -/
def njaegerStaysUptoCard : Claim7 := { stood := { row := njaegerStaysUptoRow, standIns := [], harness := (true, "ac72196840cc243304b5d369f8ee4da2ef558b9f9855ba4d5b83878f5a394666"), looks := true }, kinds := [], alts := [], laidByText := true, laidKinds := [.data], laidTests := true, laidLooks := .later }
def NjaegerStaysUptoCardSaid : Prop := Claim7.holds Tryd.pinned (.plain (OpenSpec.upto njaegerStaysSpec)) njaegerStaysUptoCard

/-- THE SECOND FORM's CARD OF 'truchmanlaw33.NzipkinDoes'. -/
def nzipkinDoesUptoCard : Claim7 := { stood := { row := nzipkinDoesUptoRow, standIns := [], harness := (true, "ac72196840cc243304b5d369f8ee4da2ef558b9f9855ba4d5b83878f5a394666"), looks := true }, kinds := [], alts := [], laidByText := true, laidKinds := [.data], laidTests := true, laidLooks := .later }
def NzipkinDoesUptoCardSaid : Prop := Claim7.holds Tryd.pinned (.plain (OpenSpec.upto nzipkinDoesSpec)) nzipkinDoesUptoCard

/-- THE SECOND FORM's CARD OF 'truchmanlaw33.NzipkinStays'. -/
def nzipkinStaysUptoCard : Claim7 := { stood := { row := nzipkinStaysUptoRow, standIns := [], harness := (true, "ac72196840cc243304b5d369f8ee4da2ef558b9f9855ba4d5b83878f5a394666"), looks := true }, kinds := [], alts := [], laidByText := true, laidKinds := [.data], laidTests := true, laidLooks := .later }
def NzipkinStaysUptoCardSaid : Prop := Claim7.holds Tryd.pinned (.plain (OpenSpec.upto nzipkinStaysSpec)) nzipkinStaysUptoCard

/-- THE SECOND FORM's CARD OF 'truchmanlaw26.AttrsChecks'. -/
def attrsChecksUptoCard : Claim7 := { stood := { row := attrsChecksUptoRow, standIns := [], harness := (true, "ac72196840cc243304b5d369f8ee4da2ef558b9f9855ba4d5b83878f5a394666"), looks := true }, kinds := [], alts := [], laidByText := true, laidKinds := [.data], laidTests := true, laidLooks := .later }
def AttrsChecksUptoCardSaid : Prop := Claim7.holds Tryd.pinned (.plain (OpenSpec.upto attrsChecksSpec)) attrsChecksUptoCard

/-- THE SECOND FORM's CARD OF 'truchmanlaw26.AttrsHold'. -/
def attrsHoldUptoCard : Claim7 := { stood := { row := attrsHoldUptoRow, standIns := [], harness := (true, "ac72196840cc243304b5d369f8ee4da2ef558b9f9855ba4d5b83878f5a394666"), looks := true }, kinds := [], alts := [], laidByText := true, laidKinds := [.data], laidTests := true, laidLooks := .later }
def AttrsHoldUptoCardSaid : Prop := Claim7.holds Tryd.pinned (.plain (OpenSpec.upto attrsHoldSpec)) attrsHoldUptoCard

/-- THE SECOND FORM's CARD OF 'truchmanlaw26.AttrsPick'. -/
def attrsPickUptoCard : Claim7 := { stood := { row := attrsPickUptoRow, standIns := [], harness := (true, "ac72196840cc243304b5d369f8ee4da2ef558b9f9855ba4d5b83878f5a394666"), looks := true }, kinds := [], alts := [], laidByText := true, laidKinds := [.data], laidTests := true, laidLooks := .later }
def AttrsPickUptoCardSaid : Prop := Claim7.holds Tryd.pinned (.plain (OpenSpec.upto attrsPickSpec)) attrsPickUptoCard

/-- THE SECOND FORM's CARD OF 'truchmanlaw34.NormalFinds'. -/
def normalFindsUptoCard : Claim7 := { stood := { row := normalFindsUptoRow, standIns := [], harness := (true, "ac72196840cc243304b5d369f8ee4da2ef558b9f9855ba4d5b83878f5a394666"), looks := true }, kinds := [], alts := [], laidByText := true, laidKinds := [.data], laidTests := true, laidLooks := .later }
def NormalFindsUptoCardSaid : Prop := Claim7.holds Tryd.pinned (.plain (OpenSpec.upto normalFindsSpec)) normalFindsUptoCard

/-- THE SECOND FORM's CARD OF 'truchmanlaw28.BatchGoes'. -/
def batchGoesUptoCard : Claim7 := { stood := { row := batchGoesUptoRow, standIns := [], harness := (true, "ac72196840cc243304b5d369f8ee4da2ef558b9f9855ba4d5b83878f5a394666"), looks := true }, kinds := [], alts := [], laidByText := true, laidKinds := [.data], laidTests := true, laidLooks := .later }
def BatchGoesUptoCardSaid : Prop := Claim7.holds Tryd.pinned (.plain (OpenSpec.upto batchGoesSpec)) batchGoesUptoCard

/-- THE SECOND FORM's CARD OF 'truchmanlaw28.BatchCanon'. -/
def batchCanonUptoCard : Claim7 := { stood := { row := batchCanonUptoRow, standIns := [], harness := (true, "ac72196840cc243304b5d369f8ee4da2ef558b9f9855ba4d5b83878f5a394666"), looks := true }, kinds := [], alts := [], laidByText := true, laidKinds := [.data], laidTests := true, laidLooks := .later }
def BatchCanonUptoCardSaid : Prop := Claim7.holds Tryd.pinned (.plain (OpenSpec.upto batchCanonSpec)) batchCanonUptoCard

/-- THE SECOND FORM's CARD OF 'truchmanlaw28.BatchSame'. -/
def batchSameUptoCard : Claim7 := { stood := { row := batchSameUptoRow, standIns := [], harness := (true, "ac72196840cc243304b5d369f8ee4da2ef558b9f9855ba4d5b83878f5a394666"), looks := true }, kinds := [], alts := [], laidByText := true, laidKinds := [.data], laidTests := true, laidLooks := .later }
def BatchSameUptoCardSaid : Prop := Claim7.holds Tryd.pinned (.plain (OpenSpec.upto batchSameSpec)) batchSameUptoCard

/-- THE SECOND FORM's CARD OF 'truchmanlaw27.SpanCanon'. -/
def spanCanonUptoCard : Claim7 := { stood := { row := spanCanonUptoRow, standIns := [], harness := (true, "ac72196840cc243304b5d369f8ee4da2ef558b9f9855ba4d5b83878f5a394666"), looks := true }, kinds := [], alts := [], laidByText := true, laidKinds := [.data], laidTests := true, laidLooks := .later }
def SpanCanonUptoCardSaid : Prop := Claim7.holds Tryd.pinned (.plain (OpenSpec.upto spanCanonSpec)) spanCanonUptoCard

/-- THE SECOND FORM's CARD OF 'truchmanlaw27.SpanSame'. -/
def spanSameUptoCard : Claim7 := { stood := { row := spanSameUptoRow, standIns := [], harness := (true, "ac72196840cc243304b5d369f8ee4da2ef558b9f9855ba4d5b83878f5a394666"), looks := true }, kinds := [], alts := [], laidByText := true, laidKinds := [.data], laidTests := true, laidLooks := .later }
def SpanSameUptoCardSaid : Prop := Claim7.holds Tryd.pinned (.plain (OpenSpec.upto spanSameSpec)) spanSameUptoCard
end Rows
end Go.Proofs.YtdbcdeihinboeaaDoor
