/- A field that there is not is found, so deep, behind so many: the law FieldsDeep returns true for all arguments. Conditions: none. -/
import Derived.Test.YtgphpcdkdfdphaaGreatDoorEvD
import Derived.Test.YtgphpcdkdfdphaaGreatDoorCards
import Derived.Test.YtgphpcdkdfdphaaGreatDoorTie
import Derived.Test.YtgphpcdkdfdphaaGreatDoorIdxLay
import Derived.WalkKit
import Derived.ProofKit
import Derived.OpenShut
import Derived.Below
import Derived.Deep.DeepHandedRow
import Derived.Deep.DeepWitnessRowRef
import Derived.Lay
namespace Go.Proofs.YtgphpcdkdfdphaaGreatDoor.evFieldsDeep
open Go.ChangeShapes Go.WideShapes Go.ChangeAt Go.RowKit Go.Ev
set_option linter.unusedVariables false

noncomputable abbrev L0 : List (Nat × Ev.Obj) := [(0, maxObj 3), (3, opqObj 227 0), (4, opqObj 227 1)]
theorem size : Tryz.prog.funcs.size ≤ 4095 := of_decide_eq_true (by kernel_rfl)
theorem laidL : laidOK L0 = true := by kernel_rfl
theorem idxGood : GoodFn Tryz.prog 231 := goodFn_of (by kernel_rfl)
theorem idxOK (ρ : Rho) (base : Nat) (hf : ρ.fam = famOf L0) : OrcOK Tryz.prog (gsOf L0) ρ base (.idx 231 .nil) := orc_idx (gi := 0) (t := 3) idxGood (by rw [hf]; kernel_rfl) (by kernel_rfl) (fun s1 s2 m w h1 h2 => Tryz.stringslite_Index s1 s2 m w h1 h2) trivial
theorem awake : RC.isTrue (run (table Tryz.prog (gsOf L0)) (.idx 231 .nil) 1000 24 .nil (startOf L0)) = true := by kernel_rfl
theorem place : ([9] : List Nat).all (placeChk (table Tryz.prog (gsOf L0)) 100 10 (startOf L0)) = true := by kernel_rfl
theorem placeGood : GoodFn Tryz.prog 10 := goodFn_of (by kernel_rfl)
noncomputable def orc : Orc := .idx 231 (.place 10 [9] (.more 24 .nil (.bool true) (.nil)))
theorem orcOK (ρ : Rho) (base : Nat) (hf : ρ.fam = famOf L0) : OrcOK Tryz.prog (gsOf L0) ρ base orc := orc_idx (gi := 0) (t := 3) (rest := .place 10 [9] (.more 24 .nil (.bool true) (.nil))) idxGood (by rw [hf]; kernel_rfl) (by kernel_rfl) (fun s1 s2 m w h1 h2 => Tryz.stringslite_Index s1 s2 m w h1 h2) (orc_place (rest := .more 24 .nil (.bool true) (.nil)) size laidL hf place (orc_true (o := (.idx 231 .nil)) (rest := .nil) size laidL hf (fun base => idxOK ρ base hf) awake trivial) placeGood)
noncomputable def cases (j0 : Nat) (j1 : Nat) (j2 : Bool) : Bool := RC.isTrue (run (table Tryz.prog (gsOf L0)) orc 1000 7 (.cons (modArg 9 0 j0) (.cons (modArg 9 1 j1) (.cons (.bool j2) (.nil)))) (startOf L0))
end Go.Proofs.YtgphpcdkdfdphaaGreatDoor.evFieldsDeep
