/- Fields with so many arguments, directives, sets, an alias or none, print as the page writes them: the law PrintWords returns true for all arguments. Conditions: none. -/
import Derived.Test.YtdedgkgeflpkgaaGreatDoorEvC
import Derived.Test.YtdedgkgeflpkgaaGreatDoorCards
import Derived.Test.YtdedgkgeflpkgaaGreatDoorTie
import Derived.WalkKit
import Derived.ProofKit
import Derived.OpenShut
import Derived.Below
import Derived.Deep.DeepHandedRow
import Derived.Deep.DeepWitnessRowRef
import Derived.Lay
namespace Go.Proofs.YtdedgkgeflpkgaaGreatDoor.evPrintWords
open Go.ChangeShapes Go.WideShapes Go.ChangeAt Go.RowKit Go.Ev
set_option linter.unusedVariables false

abbrev L0 : List (Nat × Ev.Obj) := []
theorem size : Tryz.prog.funcs.size ≤ 4096 := of_decide_eq_true (by kernel_rfl)
theorem laidL : laidOK L0 = true := by kernel_rfl
theorem awake : RC.isTrue (run (table Tryz.prog (gsOf L0)) .nil 1000 6 .nil (startOf L0)) = true := by kernel_rfl
theorem place : ([4, 5] : List Nat).all (placeChk (table Tryz.prog (gsOf L0)) 100 7 (startOf L0)) = true := by kernel_rfl
theorem placeGood : GoodFn Tryz.prog 7 := goodFn_of (by kernel_rfl)
noncomputable def orc : Orc := .place 7 [4, 5] (.more 6 .nil (.bool true) (.nil))
theorem orcOK (ρ : Rho) (base : Nat) (hf : ρ.fam = famOf L0) : OrcOK Tryz.prog (gsOf L0) ρ base orc := orc_place (rest := .more 6 .nil (.bool true) (.nil)) size laidL hf place (orc_true (rest := .nil) size laidL hf awake trivial) placeGood
noncomputable def cases (j0 : Nat) (j1 : Nat) (j3 : Nat) : Bool := ([false, true]).all fun j2 => RC.isTrue (run (table Tryz.prog (gsOf L0)) orc 1000 4 (.cons (modArg 5 0 j0) (.cons (modArg 4 1 j1) (.cons (.bool j2) (.cons (modArg 4 2 j3) (.nil))))) (startOf L0))
end Go.Proofs.YtdedgkgeflpkgaaGreatDoor.evPrintWords
