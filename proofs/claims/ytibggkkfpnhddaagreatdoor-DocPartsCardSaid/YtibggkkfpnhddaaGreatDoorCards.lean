/-
  DERIVED. GIVEN WITH THE SEED: THE CARDS: each row of YtibggkkfpnhddaaGreatDoorRows.lean that lists a variable, with what it lists TIED to the program's text (the seventh form; the later family's looks); each row that meets fmt, with fmt's text TOLD by the authors' own Lean function (tested against real Go, not proved from fmt's source: count such statements apart). THE CARD IS WHAT COUNTS. Prove the row's statement (the work); the ties are given (YtibggkkfpnhddaaGreatDoorTie.lean); close each card by the builder's one call (the guide's Derived/Test/ToyasCard.lean, 'card_holds'). Laid BY PROGRAM, IN A SANDBOX (cutbox-door.mjs). By AI agents, Wed Nov 11 2026. No macro, syntax, notation, axiom, sorry.
-/
import Derived.Test.YtibggkkfpnhddaaGreatDoorRows
import GoSem.ClaimSeven
namespace Go.Proofs.YtibggkkfpnhddaaGreatDoor
namespace Rows

/-- THE TIED CARD OF 'refectorylaw06.DocMany'. -/
def docManyCard : Claim7 := { stood := { row := docManyRow, standIns := [], harness := (true, "ba705ff2d34fb8dabc114b298e519ab5581c1494db0e0fcdb90b65188084b1a7"), looks := true }, kinds := [], alts := [], laidByText := true, laidKinds := [.data, .pinned, .pinned], laidTests := true, laidLooks := .later }
def DocManyCardSaid : Prop := Claim7.holds Tryz.pinned (.plain (OpenSpec.ofChange docManySpec)) docManyCard

/-- THE TIED CARD OF 'refectorylaw06.DocParts'. -/
def docPartsCard : Claim7 := { stood := { row := docPartsRow, standIns := [], harness := (true, "ba705ff2d34fb8dabc114b298e519ab5581c1494db0e0fcdb90b65188084b1a7"), looks := true }, kinds := [], alts := [], laidByText := true, laidKinds := [.data, .pinned, .pinned], laidTests := true, laidLooks := .later }
def DocPartsCardSaid : Prop := Claim7.holds Tryz.pinned (.plain (OpenSpec.ofChange docPartsSpec)) docPartsCard

/-- THE SECOND FORM's CARD OF 'refectorylaw06.DocMany'. -/
def docManyUptoCard : Claim7 := { stood := { row := docManyUptoRow, standIns := [], harness := (true, "ba705ff2d34fb8dabc114b298e519ab5581c1494db0e0fcdb90b65188084b1a7"), looks := true }, kinds := [], alts := [], laidByText := true, laidKinds := [.data, .pinned, .pinned], laidTests := true, laidLooks := .later }
def DocManyUptoCardSaid : Prop := Claim7.holds Tryz.pinned (.plain (OpenSpec.upto docManySpec)) docManyUptoCard

/-- THE SECOND FORM's CARD OF 'refectorylaw06.DocParts'. -/
def docPartsUptoCard : Claim7 := { stood := { row := docPartsUptoRow, standIns := [], harness := (true, "ba705ff2d34fb8dabc114b298e519ab5581c1494db0e0fcdb90b65188084b1a7"), looks := true }, kinds := [], alts := [], laidByText := true, laidKinds := [.data, .pinned, .pinned], laidTests := true, laidLooks := .later }
def DocPartsUptoCardSaid : Prop := Claim7.holds Tryz.pinned (.plain (OpenSpec.upto docPartsSpec)) docPartsUptoCard
end Rows
end Go.Proofs.YtibggkkfpnhddaaGreatDoor
