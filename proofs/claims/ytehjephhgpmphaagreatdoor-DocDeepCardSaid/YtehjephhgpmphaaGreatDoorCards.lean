/-
  DERIVED. GIVEN WITH THE SEED: THE CARDS: each row of YtehjephhgpmphaaGreatDoorRows.lean that lists a variable, with what it lists TIED to the program's text (the seventh form; the later family's looks); each row that meets fmt, with fmt's text TOLD by the authors' own Lean function (tested against real Go, not proved from fmt's source: count such statements apart). THE CARD IS WHAT COUNTS. Prove the row's statement (the work); the ties are given (YtehjephhgpmphaaGreatDoorTie.lean); close each card by the builder's one call (the guide's Derived/Test/ToyasCard.lean, 'card_holds'). Laid BY PROGRAM, IN A SANDBOX (cutbox-door.mjs). By AI agents, Wed Nov 11 2026. No macro, syntax, notation, axiom, sorry.
-/
import Derived.Test.YtehjephhgpmphaaGreatDoorRows
import GoSem.ClaimSeven
namespace Go.Proofs.YtehjephhgpmphaaGreatDoor
namespace Rows

/-- THE TIED CARD OF 'refectorylaw06.DocDeep'. -/
def docDeepCard : Claim7 := { stood := { row := docDeepRow, standIns := [], harness := (true, "a1795bb6e90fc8194cad87eda371373e90ca63368b6678f988a5223ed9416fac"), looks := true }, kinds := [], alts := [], laidByText := true, laidKinds := [.data, .pinned, .pinned], laidTests := true, laidLooks := .later }
def DocDeepCardSaid : Prop := Claim7.holds Tryz.pinned (.plain (OpenSpec.ofChange docDeepSpec)) docDeepCard

/-- THE TIED CARD OF 'refectorylaw06.DocMany'. -/
def docManyCard : Claim7 := { stood := { row := docManyRow, standIns := [], harness := (true, "a1795bb6e90fc8194cad87eda371373e90ca63368b6678f988a5223ed9416fac"), looks := true }, kinds := [], alts := [], laidByText := true, laidKinds := [.data, .pinned, .pinned], laidTests := true, laidLooks := .later }
def DocManyCardSaid : Prop := Claim7.holds Tryz.pinned (.plain (OpenSpec.ofChange docManySpec)) docManyCard

/-- THE TIED CARD OF 'refectorylaw06.DocParts'. -/
def docPartsCard : Claim7 := { stood := { row := docPartsRow, standIns := [], harness := (true, "a1795bb6e90fc8194cad87eda371373e90ca63368b6678f988a5223ed9416fac"), looks := true }, kinds := [], alts := [], laidByText := true, laidKinds := [.data, .pinned, .pinned], laidTests := true, laidLooks := .later }
def DocPartsCardSaid : Prop := Claim7.holds Tryz.pinned (.plain (OpenSpec.ofChange docPartsSpec)) docPartsCard

/-- THE SECOND FORM's CARD OF 'refectorylaw06.DocDeep'. -/
def docDeepUptoCard : Claim7 := { stood := { row := docDeepUptoRow, standIns := [], harness := (true, "a1795bb6e90fc8194cad87eda371373e90ca63368b6678f988a5223ed9416fac"), looks := true }, kinds := [], alts := [], laidByText := true, laidKinds := [.data, .pinned, .pinned], laidTests := true, laidLooks := .later }
def DocDeepUptoCardSaid : Prop := Claim7.holds Tryz.pinned (.plain (OpenSpec.upto docDeepSpec)) docDeepUptoCard

/-- THE SECOND FORM's CARD OF 'refectorylaw06.DocMany'. -/
def docManyUptoCard : Claim7 := { stood := { row := docManyUptoRow, standIns := [], harness := (true, "a1795bb6e90fc8194cad87eda371373e90ca63368b6678f988a5223ed9416fac"), looks := true }, kinds := [], alts := [], laidByText := true, laidKinds := [.data, .pinned, .pinned], laidTests := true, laidLooks := .later }
def DocManyUptoCardSaid : Prop := Claim7.holds Tryz.pinned (.plain (OpenSpec.upto docManySpec)) docManyUptoCard

/-- THE SECOND FORM's CARD OF 'refectorylaw06.DocParts'. -/
def docPartsUptoCard : Claim7 := { stood := { row := docPartsUptoRow, standIns := [], harness := (true, "a1795bb6e90fc8194cad87eda371373e90ca63368b6678f988a5223ed9416fac"), looks := true }, kinds := [], alts := [], laidByText := true, laidKinds := [.data, .pinned, .pinned], laidTests := true, laidLooks := .later }
def DocPartsUptoCardSaid : Prop := Claim7.holds Tryz.pinned (.plain (OpenSpec.upto docPartsSpec)) docPartsUptoCard
end Rows
end Go.Proofs.YtehjephhgpmphaaGreatDoor
