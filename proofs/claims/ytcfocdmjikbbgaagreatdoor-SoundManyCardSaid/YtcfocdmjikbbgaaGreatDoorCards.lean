/-
  DERIVED. GIVEN WITH THE SEED: THE CARDS: each row of YtcfocdmjikbbgaaGreatDoorRows.lean that lists a variable, with what it lists TIED to the program's text (the seventh form; the later family's looks); each row that meets fmt, with fmt's text TOLD by the authors' own Lean function (tested against real Go, not proved from fmt's source: count such statements apart). THE CARD IS WHAT COUNTS. Prove the row's statement (the work); the ties are given (YtcfocdmjikbbgaaGreatDoorTie.lean); close each card by the builder's one call (the guide's Derived/Test/ToyasCard.lean, 'card_holds'). Laid BY PROGRAM, IN A SANDBOX (cutbox-door.mjs). By AI agents, Wed Nov 11 2026. No macro, syntax, notation, axiom, sorry.
-/
import Derived.Test.YtcfocdmjikbbgaaGreatDoorRows
import GoSem.ClaimSeven
namespace Go.Proofs.YtcfocdmjikbbgaaGreatDoor
namespace Rows

/-- THE TIED CARD OF 'refectorylaw11.CoerceInputs'. -/
def coerceInputsCard : Claim7 := { stood := { row := coerceInputsRow, standIns := [], harness := (true, "9ac363673bfa6da6c05d61da73de36d66596a4f9a1e7a9e795ef077e8019651b"), looks := true }, kinds := [], alts := [], laidByText := true, laidKinds := [.data, .data, .data, .data, .sentinel, .sentinel, .pinned], laidTests := true, laidLooks := .later }
def CoerceInputsCardSaid : Prop := Claim7.holds Tryz.pinned (.plain (OpenSpec.ofChange coerceInputsSpec)) coerceInputsCard

/-- THE TIED CARD OF 'refectorylaw11.CoerceNulls'. -/
def coerceNullsCard : Claim7 := { stood := { row := coerceNullsRow, standIns := [], harness := (true, "9ac363673bfa6da6c05d61da73de36d66596a4f9a1e7a9e795ef077e8019651b"), looks := true }, kinds := [], alts := [], laidByText := true, laidKinds := [.data, .data, .data, .data, .sentinel, .sentinel, .pinned], laidTests := true, laidLooks := .later }
def CoerceNullsCardSaid : Prop := Claim7.holds Tryz.pinned (.plain (OpenSpec.ofChange coerceNullsSpec)) coerceNullsCard

/-- THE TIED CARD OF 'refectorylaw10.SoundWrong'. -/
def soundWrongCard : Claim7 := { stood := { row := soundWrongRow, standIns := [], harness := (true, "9ac363673bfa6da6c05d61da73de36d66596a4f9a1e7a9e795ef077e8019651b"), looks := true }, kinds := [], alts := [], laidByText := true, laidKinds := [.data, .data, .data, .data, .sentinel, .sentinel, .pinned], laidTests := true, laidLooks := .later }
def SoundWrongCardSaid : Prop := Claim7.holds Tryz.pinned (.plain (OpenSpec.ofChange soundWrongSpec)) soundWrongCard

/-- THE TIED CARD OF 'refectorylaw10.SoundMany'. -/
def soundManyCard : Claim7 := { stood := { row := soundManyRow, standIns := [], harness := (true, "9ac363673bfa6da6c05d61da73de36d66596a4f9a1e7a9e795ef077e8019651b"), looks := true }, kinds := [], alts := [], laidByText := true, laidKinds := [.data, .data, .data, .data, .sentinel, .sentinel, .pinned], laidTests := true, laidLooks := .later }
def SoundManyCardSaid : Prop := Claim7.holds Tryz.pinned (.plain (OpenSpec.ofChange soundManySpec)) soundManyCard

/-- THE TIED CARD OF 'refectorylaw10.SoundNumbers'. -/
def soundNumbersCard : Claim7 := { stood := { row := soundNumbersRow, standIns := [], harness := (true, "9ac363673bfa6da6c05d61da73de36d66596a4f9a1e7a9e795ef077e8019651b"), looks := true }, kinds := [], alts := [], laidByText := true, laidKinds := [.data, .data, .data, .data, .sentinel, .sentinel, .pinned], laidTests := true, laidLooks := .later }
def SoundNumbersCardSaid : Prop := Claim7.holds Tryz.pinned (.plain (OpenSpec.ofChange soundNumbersSpec)) soundNumbersCard

/-- THE TIED CARD OF 'refectorylaw15.VarsKnown'. -/
def varsKnownCard : Claim7 := { stood := { row := varsKnownRow, standIns := [], harness := (true, "9ac363673bfa6da6c05d61da73de36d66596a4f9a1e7a9e795ef077e8019651b"), looks := true }, kinds := [], alts := [], laidByText := true, laidKinds := [.data, .data, .data, .data, .sentinel, .sentinel, .pinned], laidTests := true, laidLooks := .later }
def VarsKnownCardSaid : Prop := Claim7.holds Tryz.pinned (.plain (OpenSpec.ofChange varsKnownSpec)) varsKnownCard

/-- THE TIED CARD OF 'refectorylaw15.VarsTypes'. -/
def varsTypesCard : Claim7 := { stood := { row := varsTypesRow, standIns := [], harness := (true, "9ac363673bfa6da6c05d61da73de36d66596a4f9a1e7a9e795ef077e8019651b"), looks := true }, kinds := [], alts := [], laidByText := true, laidKinds := [.data, .data, .data, .data, .sentinel, .sentinel, .pinned], laidTests := true, laidLooks := .later }
def VarsTypesCardSaid : Prop := Claim7.holds Tryz.pinned (.plain (OpenSpec.ofChange varsTypesSpec)) varsTypesCard

/-- THE TIED CARD OF 'refectorylaw13.FieldsWrong'. -/
def fieldsWrongCard : Claim7 := { stood := { row := fieldsWrongRow, standIns := [], harness := (true, "9ac363673bfa6da6c05d61da73de36d66596a4f9a1e7a9e795ef077e8019651b"), looks := true }, kinds := [], alts := [], laidByText := true, laidKinds := [.data, .data, .data, .data, .sentinel, .sentinel, .pinned], laidTests := true, laidLooks := .later }
def FieldsWrongCardSaid : Prop := Claim7.holds Tryz.pinned (.plain (OpenSpec.ofChange fieldsWrongSpec)) fieldsWrongCard

/-- THE TIED CARD OF 'refectorylaw13.FieldsDeep'. -/
def fieldsDeepCard : Claim7 := { stood := { row := fieldsDeepRow, standIns := [], harness := (true, "9ac363673bfa6da6c05d61da73de36d66596a4f9a1e7a9e795ef077e8019651b"), looks := true }, kinds := [], alts := [], laidByText := true, laidKinds := [.data, .data, .data, .data, .sentinel, .sentinel, .pinned], laidTests := true, laidLooks := .later }
def FieldsDeepCardSaid : Prop := Claim7.holds Tryz.pinned (.plain (OpenSpec.ofChange fieldsDeepSpec)) fieldsDeepCard

/-- THE TIED CARD OF 'refectorylaw08.SdlWrong'. -/
def sdlWrongCard : Claim7 := { stood := { row := sdlWrongRow, standIns := [], harness := (true, "9ac363673bfa6da6c05d61da73de36d66596a4f9a1e7a9e795ef077e8019651b"), looks := true }, kinds := [], alts := [], laidByText := true, laidKinds := [.data, .data, .data, .data, .sentinel, .sentinel, .pinned, .pinned], laidTests := true, laidLooks := .later }
def SdlWrongCardSaid : Prop := Claim7.holds Tryz.pinned (.plain (OpenSpec.ofChange sdlWrongSpec)) sdlWrongCard

/-- THE SECOND FORM's CARD OF 'refectorylaw11.CoerceInputs'. -/
def coerceInputsUptoCard : Claim7 := { stood := { row := coerceInputsUptoRow, standIns := [], harness := (true, "9ac363673bfa6da6c05d61da73de36d66596a4f9a1e7a9e795ef077e8019651b"), looks := true }, kinds := [], alts := [], laidByText := true, laidKinds := [.data, .data, .data, .data, .sentinel, .sentinel, .pinned], laidTests := true, laidLooks := .later }
def CoerceInputsUptoCardSaid : Prop := Claim7.holds Tryz.pinned (.plain (OpenSpec.upto coerceInputsSpec)) coerceInputsUptoCard

/-- THE SECOND FORM's CARD OF 'refectorylaw11.CoerceNulls'. -/
def coerceNullsUptoCard : Claim7 := { stood := { row := coerceNullsUptoRow, standIns := [], harness := (true, "9ac363673bfa6da6c05d61da73de36d66596a4f9a1e7a9e795ef077e8019651b"), looks := true }, kinds := [], alts := [], laidByText := true, laidKinds := [.data, .data, .data, .data, .sentinel, .sentinel, .pinned], laidTests := true, laidLooks := .later }
def CoerceNullsUptoCardSaid : Prop := Claim7.holds Tryz.pinned (.plain (OpenSpec.upto coerceNullsSpec)) coerceNullsUptoCard

/-- THE SECOND FORM's CARD OF 'refectorylaw10.SoundWrong'. -/
def soundWrongUptoCard : Claim7 := { stood := { row := soundWrongUptoRow, standIns := [], harness := (true, "9ac363673bfa6da6c05d61da73de36d66596a4f9a1e7a9e795ef077e8019651b"), looks := true }, kinds := [], alts := [], laidByText := true, laidKinds := [.data, .data, .data, .data, .sentinel, .sentinel, .pinned], laidTests := true, laidLooks := .later }
def SoundWrongUptoCardSaid : Prop := Claim7.holds Tryz.pinned (.plain (OpenSpec.upto soundWrongSpec)) soundWrongUptoCard

/-- THE SECOND FORM's CARD OF 'refectorylaw10.SoundMany'. -/
def soundManyUptoCard : Claim7 := { stood := { row := soundManyUptoRow, standIns := [], harness := (true, "9ac363673bfa6da6c05d61da73de36d66596a4f9a1e7a9e795ef077e8019651b"), looks := true }, kinds := [], alts := [], laidByText := true, laidKinds := [.data, .data, .data, .data, .sentinel, .sentinel, .pinned], laidTests := true, laidLooks := .later }
def SoundManyUptoCardSaid : Prop := Claim7.holds Tryz.pinned (.plain (OpenSpec.upto soundManySpec)) soundManyUptoCard

/-- THE SECOND FORM's CARD OF 'refectorylaw10.SoundNumbers'. -/
def soundNumbersUptoCard : Claim7 := { stood := { row := soundNumbersUptoRow, standIns := [], harness := (true, "9ac363673bfa6da6c05d61da73de36d66596a4f9a1e7a9e795ef077e8019651b"), looks := true }, kinds := [], alts := [], laidByText := true, laidKinds := [.data, .data, .data, .data, .sentinel, .sentinel, .pinned], laidTests := true, laidLooks := .later }
def SoundNumbersUptoCardSaid : Prop := Claim7.holds Tryz.pinned (.plain (OpenSpec.upto soundNumbersSpec)) soundNumbersUptoCard

/-- THE SECOND FORM's CARD OF 'refectorylaw15.VarsKnown'. -/
def varsKnownUptoCard : Claim7 := { stood := { row := varsKnownUptoRow, standIns := [], harness := (true, "9ac363673bfa6da6c05d61da73de36d66596a4f9a1e7a9e795ef077e8019651b"), looks := true }, kinds := [], alts := [], laidByText := true, laidKinds := [.data, .data, .data, .data, .sentinel, .sentinel, .pinned], laidTests := true, laidLooks := .later }
def VarsKnownUptoCardSaid : Prop := Claim7.holds Tryz.pinned (.plain (OpenSpec.upto varsKnownSpec)) varsKnownUptoCard

/-- THE SECOND FORM's CARD OF 'refectorylaw15.VarsTypes'. -/
def varsTypesUptoCard : Claim7 := { stood := { row := varsTypesUptoRow, standIns := [], harness := (true, "9ac363673bfa6da6c05d61da73de36d66596a4f9a1e7a9e795ef077e8019651b"), looks := true }, kinds := [], alts := [], laidByText := true, laidKinds := [.data, .data, .data, .data, .sentinel, .sentinel, .pinned], laidTests := true, laidLooks := .later }
def VarsTypesUptoCardSaid : Prop := Claim7.holds Tryz.pinned (.plain (OpenSpec.upto varsTypesSpec)) varsTypesUptoCard

/-- THE SECOND FORM's CARD OF 'refectorylaw13.FieldsWrong'. -/
def fieldsWrongUptoCard : Claim7 := { stood := { row := fieldsWrongUptoRow, standIns := [], harness := (true, "9ac363673bfa6da6c05d61da73de36d66596a4f9a1e7a9e795ef077e8019651b"), looks := true }, kinds := [], alts := [], laidByText := true, laidKinds := [.data, .data, .data, .data, .sentinel, .sentinel, .pinned], laidTests := true, laidLooks := .later }
def FieldsWrongUptoCardSaid : Prop := Claim7.holds Tryz.pinned (.plain (OpenSpec.upto fieldsWrongSpec)) fieldsWrongUptoCard

/-- THE SECOND FORM's CARD OF 'refectorylaw13.FieldsDeep'. -/
def fieldsDeepUptoCard : Claim7 := { stood := { row := fieldsDeepUptoRow, standIns := [], harness := (true, "9ac363673bfa6da6c05d61da73de36d66596a4f9a1e7a9e795ef077e8019651b"), looks := true }, kinds := [], alts := [], laidByText := true, laidKinds := [.data, .data, .data, .data, .sentinel, .sentinel, .pinned], laidTests := true, laidLooks := .later }
def FieldsDeepUptoCardSaid : Prop := Claim7.holds Tryz.pinned (.plain (OpenSpec.upto fieldsDeepSpec)) fieldsDeepUptoCard

/-- THE SECOND FORM's CARD OF 'refectorylaw08.SdlWrong'. -/
def sdlWrongUptoCard : Claim7 := { stood := { row := sdlWrongUptoRow, standIns := [], harness := (true, "9ac363673bfa6da6c05d61da73de36d66596a4f9a1e7a9e795ef077e8019651b"), looks := true }, kinds := [], alts := [], laidByText := true, laidKinds := [.data, .data, .data, .data, .sentinel, .sentinel, .pinned, .pinned], laidTests := true, laidLooks := .later }
def SdlWrongUptoCardSaid : Prop := Claim7.holds Tryz.pinned (.plain (OpenSpec.upto sdlWrongSpec)) sdlWrongUptoCard
end Rows
end Go.Proofs.YtcfocdmjikbbgaaGreatDoor
