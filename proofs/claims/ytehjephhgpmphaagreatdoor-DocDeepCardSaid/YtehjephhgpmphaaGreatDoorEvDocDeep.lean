/- Sets in one another are parsed as deep as may be, and refused deeper, at the place: the law DocDeep returns true for all arguments. Conditions: none. -/
import Derived.Test.YtehjephhgpmphaaGreatDoorEvC
import Derived.Test.YtehjephhgpmphaaGreatDoorCards
import Derived.Test.YtehjephhgpmphaaGreatDoorTie
import Derived.WalkKit
import Derived.ProofKit
import Derived.OpenShut
import Derived.Below
import Derived.Deep.DeepHandedRow
import Derived.Deep.DeepWitnessRowRef
import Derived.Lay
namespace Go.Proofs.YtehjephhgpmphaaGreatDoor.evDocDeep
open Go.ChangeShapes Go.WideShapes Go.ChangeAt Go.RowKit Go.Ev
set_option linter.unusedVariables false

abbrev L0 : List (Nat × Ev.Obj) := []
theorem size : Tryz.prog.funcs.size ≤ 4096 := of_decide_eq_true (by kernel_rfl)
theorem laidL : laidOK L0 = true := by kernel_rfl
theorem awake : RC.isTrue (run (table Tryz.prog (gsOf L0)) .nil 1000 8 .nil (startOf L0)) = true := by kernel_rfl
theorem place : ([20] : List Nat).all (placeChk (table Tryz.prog (gsOf L0)) 100 6 (startOf L0)) = true := by kernel_rfl
theorem placeGood : GoodFn Tryz.prog 6 := goodFn_of (by kernel_rfl)
noncomputable def orc : Orc := .place 6 [20] (.more 8 .nil (.bool true) (.nil))
theorem orcOK (ρ : Rho) (base : Nat) (hf : ρ.fam = famOf L0) : OrcOK Tryz.prog (gsOf L0) ρ base orc := orc_place (rest := .more 8 .nil (.bool true) (.nil)) size laidL hf place (orc_true (rest := .nil) size laidL hf awake trivial) placeGood
noncomputable def cases (j0 : Nat) : Bool := ([false, true]).all fun j1 => RC.isTrue (run (table Tryz.prog (gsOf L0)) orc 1000 3 (.cons (modArg 20 0 j0) (.cons (.bool j1) (.nil))) (startOf L0))
theorem c_0 : cases 0 = true := by kernel_rfl
theorem c_1 : cases 1 = true := by kernel_rfl
theorem c_2 : cases 2 = true := by kernel_rfl
theorem c_3 : cases 3 = true := by kernel_rfl
theorem c_4 : cases 4 = true := by kernel_rfl
theorem c_5 : cases 5 = true := by kernel_rfl
theorem c_6 : cases 6 = true := by kernel_rfl
theorem c_7 : cases 7 = true := by kernel_rfl
theorem c_8 : cases 8 = true := by kernel_rfl
theorem c_9 : cases 9 = true := by kernel_rfl
theorem c_10 : cases 10 = true := by kernel_rfl
theorem c_11 : cases 11 = true := by kernel_rfl
theorem c_12 : cases 12 = true := by kernel_rfl
theorem c_13 : cases 13 = true := by kernel_rfl
theorem c_14 : cases 14 = true := by kernel_rfl
theorem c_15 : cases 15 = true := by kernel_rfl
theorem c_16 : cases 16 = true := by kernel_rfl
theorem c_17 : cases 17 = true := by kernel_rfl
theorem c_18 : cases 18 = true := by kernel_rfl
theorem c_19 : cases 19 = true := by kernel_rfl
theorem walk (w : World) (a0 : Int) (a1 : Bool) (h0 : (Lit.int .i64 a0).wf = true) : Calls Tryz.prog 3 #[.int .i64 a0, .bool a1] w fun e w' => e = .returned (.bool true) ∧ Below w.heap.size w w' := by
  obtain ⟨l0, v0⟩ := vr_mod (L0 := L0) (vs := [a0]) (g := gInit L0 w) (w := 0) (m := 20) (wf_range h0) ⟨by omega, by omega⟩ rfl
  have hc : cases ((a0 % ((20 : Nat) : Int)).toNat) = true := by
    generalize (a0 % ((20 : Nat) : Int)).toNat = k0 at l0
    have e0 : k0 = 0 ∨ k0 = 1 ∨ k0 = 2 ∨ k0 = 3 ∨ k0 = 4 ∨ k0 = 5 ∨ k0 = 6 ∨ k0 = 7 ∨ k0 = 8 ∨ k0 = 9 ∨ k0 = 10 ∨ k0 = 11 ∨ k0 = 12 ∨ k0 = 13 ∨ k0 = 14 ∨ k0 = 15 ∨ k0 = 16 ∨ k0 = 17 ∨ k0 = 18 ∨ k0 = 19 := by omega
    rcases e0 with rfl | rfl | rfl | rfl | rfl | rfl | rfl | rfl | rfl | rfl | rfl | rfl | rfl | rfl | rfl | rfl | rfl | rfl | rfl | rfl
    · exact c_0
    · exact c_1
    · exact c_2
    · exact c_3
    · exact c_4
    · exact c_5
    · exact c_6
    · exact c_7
    · exact c_8
    · exact c_9
    · exact c_10
    · exact c_11
    · exact c_12
    · exact c_13
    · exact c_14
    · exact c_15
    · exact c_16
    · exact c_17
    · exact c_18
    · exact c_19
  have hc := List.all_eq_true.1 hc a1 (by cases a1 <;> decide)
  exact law_calls (ρ := rhoOf L0 [a0]) size laidL rfl (fun _ _ h => by cases h) (orcOK _ _ rfl) hc (.cons v0 (.cons (.bool _) (.nil)))

theorem own : ownKnob Tryz.prog.godebug = none := by kernel_rfl
/-- the witness: the settled world, the tables laid -/
noncomputable def laidWorld (os : Os) : World := World.laidAll Tryz.prog os Rows.docDeepRow.laid
theorem laid_met (os : Os) (args : Array Value) : laidMet Tryz.prog Rows.docDeepRow.laid ((laidWorld os).forCall (fun _ _ => 0) ⟨#[], args, []⟩).memory :=
  laidMet_laidAll args (by kernel_rfl) (by kernel_rfl)
theorem witness_row (os : Os) {H : Type} (enc : TypeId × Value → H) :
    (OpenSpec.ofChange Rows.docDeepSpec).preRow enc Tryz.prog Tryz.f3 Rows.docDeepRow.domain false Rows.docDeepRow.laid ((laidWorld os).forCall (fun _ _ => 0) ⟨#[], #[.int .i64 0, .bool false], []⟩).memory #[.int .i64 0, .bool false] := by
  have hw : (DataW.whole enc Tryz.prog ((laidWorld os).forCall (fun _ _ => 0) ⟨#[], #[.int .i64 0, .bool false], []⟩).memory Tryz.f3.params.toList (OpenSpec.ofChange Rows.docDeepSpec).vars false (#[.int .i64 0, .bool false] : Array Value).toList 8).map (fun x => (x.1, x.2.1)) =
      some ([.lit (.int .i64 0), .lit (.bool false)], []) := by kernel_rfl
  obtain ⟨⟨x1, x2, x3⟩, hx, hx1⟩ := Option.map_eq_some_iff.1 hw
  simp only [Prod.mk.injEq] at hx1
  obtain ⟨rfl, rfl⟩ := hx1
  exact OpenSpec.preRow_of_cond 8 hx (by kernel_rfl) (fun k hk => by cases hk) (by kernel_rfl) (laid_met os _)

set_option maxRecDepth 100000 in
theorem lifted (os : Os) (started : os.Started) (H : Type) (enc : TypeId × Value → H) (F : Stop.Interp) :
    ReturnsInHanded {} Tryz.checked os 3 .any ((OpenSpec.ofChange Rows.docDeepSpec).preRow enc Tryz.prog Tryz.f3 Rows.docDeepRow.domain false Rows.docDeepRow.laid) (((OpenSpec.ofChange Rows.docDeepSpec).at F).post enc Tryz.prog Tryz.f3 false true false false) := by
  refine returnsInHanded_of_row (C := Tryz.checked) (s := OpenSpec.ofChange Rows.docDeepSpec) own started (by kernel_rfl) Tryz.func3
    (witness_row_atRef (enc := enc) (C := Tryz.checked) false (laidWorld os) #[.int .i64 0, .bool false] rfl (by kernel_rfl) (by kernel_rfl) (by kernel_rfl) (witness_row os enc)) ?_
  intro W base args ds gs before hval0 hW _ _ _ hL _ _
  have hval : ∀ (j : Nat) t v, Tryz.f3.params[j]? = some t → args[j]? = some v → Value.okWide Tryz.prog W .any base t v := hval0
  have hW' := hW
  obtain ⟨p, q, hA0, hV, rfl, hfz, hnd⟩ := hW
  have hA : DataW.TrodAll enc Tryz.prog W 0 (fun _ => true) true Tryz.f3.params.toList args.toList ds p := hA0
  rw [Tryz.params3] at hA hval
  obtain ⟨v0, vs0, d0, ds0, p0, q0, hargs, rfl, rfl, h0, r0⟩ := trodAll_cons hA
  obtain ⟨v1, vs1, d1, ds1, p1, q1, rfl, rfl, rfl, h1, r1⟩ := trodAll_cons r0
  obtain ⟨rfl, rfl, rfl⟩ := trodAll_nil r1
  obtain rfl : args = #[v0, v1] := by cases args; simp_all
  obtain ⟨rfl, rfl⟩ := trodVars_none hV
  obtain ⟨a0, rfl, rfl, rfl, w0⟩ := open_int Tryz.underlying3 (hval 0 3 v0 rfl rfl) h0
  obtain ⟨a1, rfl, rfl, rfl⟩ := open_bool Tryz.underlying4 (hval 1 4 v1 rfl rfl) h1
  clear hA0 hval0
  refine (walk W a0 a1 w0).mono fun e W' ⟨he, bel⟩ => ?_
  subst he
  exact ⟨_, rfl, _, _, _, [], _, [], hW', trodAll_mk1 (shut_bool Tryz.underlying4 _), (trodAll_cons_mk (shut_int Tryz.underlying3 w0) (trodAll_cons_mk (shut_bool Tryz.underlying4 _) trodAll_mk0)), rfl, bel.frame _, fun h => by cases h⟩

theorem said : Rows.DocDeepSaid :=
  OpenClaim.holds_of_cond 3 Tryz.f3 rfl rfl rfl rfl rfl rfl rfl ⟨rfl, rfl, rfl, rfl, rfl⟩ rfl rfl rfl rfl rfl (by kernel_rfl) Tryz.func3 (by kernel_rfl)
    (of_decide_eq_true (by kernel_rfl)) (by unfold Func.isWrapper; first | (rw [if_pos (by decide +kernel)]; kernel_rfl) | (rw [if_neg (by decide +kernel)]; exact ⟨rfl, rfl⟩))
    (fun os started H enc _ F => by rw [OpenClaim.pre_eq_preRow]; exact lifted os started H enc F)

theorem plain (f : FuncId) (fn : Func) (hf : Tryz.pinned.checked.prog.funcNamed "refectory/refectorylaw06.DocDeep" = some f) (hfn : Tryz.pinned.checked.prog.funcs[f]? = some fn) :
    true = Tryz.pinned.checked.prog.looks [] ∧ ∀ (j : Nat) t, fn.params[j]? = some t → Tryz.pinned.checked.prog.wantsStandIn t = false := by
  obtain rfl : f = 3 := Option.some.inj ((show Tryz.prog.funcNamed "refectory/refectorylaw06.DocDeep" = some 3 by kernel_rfl).symm.trans hf) |>.symm
  obtain rfl : fn = Tryz.f3 := (Option.some.inj (Tryz.func3.symm.trans hfn)).symm
  refine ⟨by kernel_rfl, fun j t ht => ?_⟩
  rw [Tryz.params3] at ht
  have ht := Array.mem_of_getElem? ht
  have ht : t = 3 ∨ t = 4 := by simpa using ht
  rcases ht with rfl | rfl
  · exact (show Tryz.prog.wantsStandIn 3 = false by kernel_rfl)
  · exact (show Tryz.prog.wantsStandIn 4 = false by kernel_rfl)

theorem card : Rows.DocDeepCardSaid :=
  Claim7.holds_tied_plain_at .later [] _ _ _ _ said (fun _ h => by cases h) (by kernel_rfl) (fun _ h => by cases h) docDeep_row_tie rfl ⟨rfl, rfl⟩ (by kernel_rfl) rfl plain (by kernel_rfl)
end Go.Proofs.YtehjephhgpmphaaGreatDoor.evDocDeep
namespace Go.Proofs.YtehjephhgpmphaaGreatDoor
theorem docDeep_holds : Rows.DocDeepCardSaid := evDocDeep.card
end Go.Proofs.YtehjephhgpmphaaGreatDoor
#print axioms Go.Proofs.YtehjephhgpmphaaGreatDoor.docDeep_holds
