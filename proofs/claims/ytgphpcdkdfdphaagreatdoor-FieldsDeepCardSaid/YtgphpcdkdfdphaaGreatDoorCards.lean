/-
  DERIVED. GIVEN WITH THE SEED: THE CARDS: each row of YtgphpcdkdfdphaaGreatDoorRows.lean that lists a variable, with what it lists TIED to the program's text (the seventh form; the later family's looks); each row that meets fmt, with fmt's text TOLD by the authors' own Lean function (tested against real Go, not proved from fmt's source: count such statements apart). THE CARD IS WHAT COUNTS. Prove the row's statement (the work); the ties are given (YtgphpcdkdfdphaaGreatDoorTie.lean); close each card by the builder's one call (the guide's Derived/Test/ToyasCard.lean, 'card_holds'). Laid BY PROGRAM, IN A SANDBOX (cutbox-door.mjs). By AI agents, Wed Nov 11 2026. No macro, syntax, notation, axiom, sorry.
-/
import Derived.Test.YtgphpcdkdfdphaaGreatDoorRows
import GoSem.ClaimSeven
namespace Go.Proofs.YtgphpcdkdfdphaaGreatDoor
namespace Rows

/-- THE TIED CARD OF 'refectorylaw11.CoerceInputs'. -/
def coerceInputsCard : Claim7 := { stood := { row := coerceInputsRow, standIns := [], harness := (true, "7cd1a98807b207b0f924c81f7dd7e0d1ce04d898902a3ad4f20b54407a203aed"), looks := true }, kinds := [], alts := [], laidByText := true, laidKinds := [.data, .data, .data, .data, .sentinel, .sentinel, .pinned], laidTests := true, laidLooks := .later }
def CoerceInputsCardSaid : Prop := Claim7.holds Tryz.pinned (.plain (OpenSpec.ofChange coerceInputsSpec)) coerceInputsCard

/-- THE TIED CARD OF 'refectorylaw10.SoundNumbers'. -/
def soundNumbersCard : Claim7 := { stood := { row := soundNumbersRow, standIns := [], harness := (true, "7cd1a98807b207b0f924c81f7dd7e0d1ce04d898902a3ad4f20b54407a203aed"), looks := true }, kinds := [], alts := [], laidByText := true, laidKinds := [.data, .data, .data, .data, .sentinel, .sentinel, .pinned], laidTests := true, laidLooks := .later }
def SoundNumbersCardSaid : Prop := Claim7.holds Tryz.pinned (.plain (OpenSpec.ofChange soundNumbersSpec)) soundNumbersCard

/-- THE TIED CARD OF 'refectorylaw15.VarsKnown'. -/
def varsKnownCard : Claim7 := { stood := { row := varsKnownRow, standIns := [], harness := (true, "7cd1a98807b207b0f924c81f7dd7e0d1ce04d898902a3ad4f20b54407a203aed"), looks := true }, kinds := [], alts := [], laidByText := true, laidKinds := [.data, .data, .data, .data, .sentinel, .sentinel, .pinned], laidTests := true, laidLooks := .later }
def VarsKnownCardSaid : Prop := Claim7.holds Tryz.pinned (.plain (OpenSpec.ofChange varsKnownSpec)) varsKnownCard

/-- THE TIED CARD OF 'refectorylaw15.VarsTypes'. -/
def varsTypesCard : Claim7 := { stood := { row := varsTypesRow, standIns := [], harness := (true, "7cd1a98807b207b0f924c81f7dd7e0d1ce04d898902a3ad4f20b54407a203aed"), looks := true }, kinds := [], alts := [], laidByText := true, laidKinds := [.data, .data, .data, .data, .sentinel, .sentinel, .pinned], laidTests := true, laidLooks := .later }
def VarsTypesCardSaid : Prop := Claim7.holds Tryz.pinned (.plain (OpenSpec.ofChange varsTypesSpec)) varsTypesCard

/-- THE TIED CARD OF 'refectorylaw13.FieldsDeep'. -/
def fieldsDeepCard : Claim7 := { stood := { row := fieldsDeepRow, standIns := [], harness := (true, "7cd1a98807b207b0f924c81f7dd7e0d1ce04d898902a3ad4f20b54407a203aed"), looks := true }, kinds := [], alts := [], laidByText := true, laidKinds := [.data, .data, .data, .data, .sentinel, .sentinel, .pinned], laidTests := true, laidLooks := .later }
def FieldsDeepCardSaid : Prop := Claim7.holds Tryz.pinned (.plain (OpenSpec.ofChange fieldsDeepSpec)) fieldsDeepCard

/-- THE SECOND FORM's CARD OF 'refectorylaw11.CoerceInputs'. -/
def coerceInputsUptoCard : Claim7 := { stood := { row := coerceInputsUptoRow, standIns := [], harness := (true, "7cd1a98807b207b0f924c81f7dd7e0d1ce04d898902a3ad4f20b54407a203aed"), looks := true }, kinds := [], alts := [], laidByText := true, laidKinds := [.data, .data, .data, .data, .sentinel, .sentinel, .pinned], laidTests := true, laidLooks := .later }
def CoerceInputsUptoCardSaid : Prop := Claim7.holds Tryz.pinned (.plain (OpenSpec.upto coerceInputsSpec)) coerceInputsUptoCard

/-- THE SECOND FORM's CARD OF 'refectorylaw10.SoundNumbers'. -/
def soundNumbersUptoCard : Claim7 := { stood := { row := soundNumbersUptoRow, standIns := [], harness := (true, "7cd1a98807b207b0f924c81f7dd7e0d1ce04d898902a3ad4f20b54407a203aed"), looks := true }, kinds := [], alts := [], laidByText := true, laidKinds := [.data, .data, .data, .data, .sentinel, .sentinel, .pinned], laidTests := true, laidLooks := .later }
def SoundNumbersUptoCardSaid : Prop := Claim7.holds Tryz.pinned (.plain (OpenSpec.upto soundNumbersSpec)) soundNumbersUptoCard

/-- THE SECOND FORM's CARD OF 'refectorylaw15.VarsKnown'. -/
def varsKnownUptoCard : Claim7 := { stood := { row := varsKnownUptoRow, standIns := [], harness := (true, "7cd1a98807b207b0f924c81f7dd7e0d1ce04d898902a3ad4f20b54407a203aed"), looks := true }, kinds := [], alts := [], laidByText := true, laidKinds := [.data, .data, .data, .data, .sentinel, .sentinel, .pinned], laidTests := true, laidLooks := .later }
def VarsKnownUptoCardSaid : Prop := Claim7.holds Tryz.pinned (.plain (OpenSpec.upto varsKnownSpec)) varsKnownUptoCard

/-- THE SECOND FORM's CARD OF 'refectorylaw15.VarsTypes'. -/
def varsTypesUptoCard : Claim7 := { stood := { row := varsTypesUptoRow, standIns := [], harness := (true, "7cd1a98807b207b0f924c81f7dd7e0d1ce04d898902a3ad4f20b54407a203aed"), looks := true }, kinds := [], alts := [], laidByText := true, laidKinds := [.data, .data, .data, .data, .sentinel, .sentinel, .pinned], laidTests := true, laidLooks := .later }
def VarsTypesUptoCardSaid : Prop := Claim7.holds Tryz.pinned (.plain (OpenSpec.upto varsTypesSpec)) varsTypesUptoCard

/-- THE SECOND FORM's CARD OF 'refectorylaw13.FieldsDeep'. -/
def fieldsDeepUptoCard : Claim7 := { stood := { row := fieldsDeepUptoRow, standIns := [], harness := (true, "7cd1a98807b207b0f924c81f7dd7e0d1ce04d898902a3ad4f20b54407a203aed"), looks := true }, kinds := [], alts := [], laidByText := true, laidKinds := [.data, .data, .data, .data, .sentinel, .sentinel, .pinned], laidTests := true, laidLooks := .later }
def FieldsDeepUptoCardSaid : Prop := Claim7.holds Tryz.pinned (.plain (OpenSpec.upto fieldsDeepSpec)) fieldsDeepUptoCard
end Rows
end Go.Proofs.YtgphpcdkdfdphaaGreatDoor
