/-
  DERIVED. GIVEN WITH THE SEED: THE CARDS: each row of YtdedgkgeflpkgaaGreatDoorRows.lean that lists a variable, with what it lists TIED to the program's text (the seventh form; the later family's looks); each row that meets fmt, with fmt's text TOLD by the authors' own Lean function (tested against real Go, not proved from fmt's source: count such statements apart). THE CARD IS WHAT COUNTS. Prove the row's statement (the work); the ties are given (YtdedgkgeflpkgaaGreatDoorTie.lean); close each card by the builder's one call (the guide's Derived/Test/ToyasCard.lean, 'card_holds'). Laid BY PROGRAM, IN A SANDBOX (cutbox-door.mjs). By AI agents, Wed Nov 11 2026. No macro, syntax, notation, axiom, sorry.
-/
import Derived.Test.YtdedgkgeflpkgaaGreatDoorRows
import GoSem.ClaimSeven
namespace Go.Proofs.YtdedgkgeflpkgaaGreatDoor
namespace Rows

/-- THE TIED CARD OF 'refectorylaw07.PrintNone'. -/
def printNoneCard : Claim7 := { stood := { row := printNoneRow, standIns := [], harness := (true, "b29a68cfeff772106ae40a4bb5f477f468b18cb86417fbb648975598ab27b671"), looks := true }, kinds := [], alts := [], laidByText := true, laidKinds := [.data, .pinned, .pinned], laidTests := true, laidLooks := .later }
def PrintNoneCardSaid : Prop := Claim7.holds Tryz.pinned (.plain (OpenSpec.ofChange printNoneSpec)) printNoneCard

/-- THE TIED CARD OF 'refectorylaw07.PrintWords'. -/
def printWordsCard : Claim7 := { stood := { row := printWordsRow, standIns := [], harness := (true, "b29a68cfeff772106ae40a4bb5f477f468b18cb86417fbb648975598ab27b671"), looks := true }, kinds := [], alts := [], laidByText := true, laidKinds := [.data, .pinned, .pinned], laidTests := true, laidLooks := .later }
def PrintWordsCardSaid : Prop := Claim7.holds Tryz.pinned (.plain (OpenSpec.ofChange printWordsSpec)) printWordsCard

/-- THE SECOND FORM's CARD OF 'refectorylaw07.PrintNone'. -/
def printNoneUptoCard : Claim7 := { stood := { row := printNoneUptoRow, standIns := [], harness := (true, "b29a68cfeff772106ae40a4bb5f477f468b18cb86417fbb648975598ab27b671"), looks := true }, kinds := [], alts := [], laidByText := true, laidKinds := [.data, .pinned, .pinned], laidTests := true, laidLooks := .later }
def PrintNoneUptoCardSaid : Prop := Claim7.holds Tryz.pinned (.plain (OpenSpec.upto printNoneSpec)) printNoneUptoCard

/-- THE SECOND FORM's CARD OF 'refectorylaw07.PrintWords'. -/
def printWordsUptoCard : Claim7 := { stood := { row := printWordsUptoRow, standIns := [], harness := (true, "b29a68cfeff772106ae40a4bb5f477f468b18cb86417fbb648975598ab27b671"), looks := true }, kinds := [], alts := [], laidByText := true, laidKinds := [.data, .pinned, .pinned], laidTests := true, laidLooks := .later }
def PrintWordsUptoCardSaid : Prop := Claim7.holds Tryz.pinned (.plain (OpenSpec.upto printWordsSpec)) printWordsUptoCard
end Rows
end Go.Proofs.YtdedgkgeflpkgaaGreatDoor
