/- An operation with each of its parts, or without, and so many fragments: the law DocParts returns true for all arguments. Conditions: none. -/
import Derived.Test.YtibggkkfpnhddaaGreatDoorEvD
import Derived.Test.YtibggkkfpnhddaaGreatDoorCards
import Derived.Test.YtibggkkfpnhddaaGreatDoorTie
import Derived.WalkKit
import Derived.ProofKit
import Derived.OpenShut
import Derived.Below
import Derived.Deep.DeepHandedRow
import Derived.Deep.DeepWitnessRowRef
import Derived.Lay
namespace Go.Proofs.YtibggkkfpnhddaaGreatDoor.evDocParts
open Go.ChangeShapes Go.WideShapes Go.ChangeAt Go.RowKit Go.Ev
set_option linter.unusedVariables false

abbrev L0 : List (Nat × Ev.Obj) := []
theorem size : Tryz.prog.funcs.size ≤ 4095 := of_decide_eq_true (by kernel_rfl)
theorem laidL : laidOK L0 = true := by kernel_rfl
theorem awake : RC.isTrue (run (table Tryz.prog (gsOf L0)) .nil 1000 7 .nil (startOf L0)) = true := by kernel_rfl
theorem place : ([5] : List Nat).all (placeChk (table Tryz.prog (gsOf L0)) 100 5 (startOf L0)) = true := by kernel_rfl
theorem placeGood : GoodFn Tryz.prog 5 := goodFn_of (by kernel_rfl)
noncomputable def orc : Orc := .place 5 [5] (.more 7 .nil (.bool true) (.nil))
theorem orcOK (ρ : Rho) (base : Nat) (hf : ρ.fam = famOf L0) : OrcOK Tryz.prog (gsOf L0) ρ base orc := orc_place (rest := .more 7 .nil (.bool true) (.nil)) size laidL hf place (orc_true (o := .nil) (rest := .nil) size laidL hf (fun _ => trivial) awake trivial) placeGood
noncomputable def cases (j3 : Bool) (j4 : Nat) : Bool := ([false, true]).all fun j0 => ([false, true]).all fun j1 => ([false, true]).all fun j2 => RC.isTrue (run (table Tryz.prog (gsOf L0)) orc 1000 4 (.cons (.bool j0) (.cons (.bool j1) (.cons (.bool j2) (.cons (.bool j3) (.cons (modArg 5 0 j4) (.nil)))))) (startOf L0))
end Go.Proofs.YtibggkkfpnhddaaGreatDoor.evDocParts
