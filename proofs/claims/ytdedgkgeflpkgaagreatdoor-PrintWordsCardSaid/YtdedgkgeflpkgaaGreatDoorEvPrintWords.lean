/- Fields with so many arguments, directives, sets, an alias or none, print as the page writes them: the law PrintWords returns true for all arguments. Conditions: none. -/
import Derived.Test.YtdedgkgeflpkgaaGreatDoorEvPrintWords1
import Derived.Test.YtdedgkgeflpkgaaGreatDoorEvPrintWords2
import Derived.Test.YtdedgkgeflpkgaaGreatDoorEvPrintWords3
import Derived.Test.YtdedgkgeflpkgaaGreatDoorEvPrintWords4
import Derived.Test.YtdedgkgeflpkgaaGreatDoorEvC
import Derived.Test.YtdedgkgeflpkgaaGreatDoorCards
import Derived.Test.YtdedgkgeflpkgaaGreatDoorTie
import Derived.WalkKit
import Derived.ProofKit
import Derived.OpenShut
import Derived.Below
import Derived.Deep.DeepHandedRow
import Derived.Deep.DeepWitnessRowRef
import Derived.Lay
namespace Go.Proofs.YtdedgkgeflpkgaaGreatDoor.evPrintWords
open Go.ChangeShapes Go.WideShapes Go.ChangeAt Go.RowKit Go.Ev
set_option linter.unusedVariables false

theorem walk (w : World) (a0 : Int) (a1 : Int) (a2 : Bool) (a3 : Int) (h0 : (Lit.int .i64 a0).wf = true) (h1 : (Lit.int .i64 a1).wf = true) (h3 : (Lit.int .i64 a3).wf = true) : Calls Tryz.prog 4 #[.int .i64 a0, .int .i64 a1, .bool a2, .int .i64 a3] w fun e w' => e = .returned (.bool true) ∧ Below w.heap.size w w' := by
  obtain ⟨l0, v0⟩ := vr_mod (L0 := L0) (vs := [a0, a1, a3]) (g := gInit L0 w) (w := 0) (m := 5) (wf_range h0) ⟨by omega, by omega⟩ rfl
  obtain ⟨l1, v1⟩ := vr_mod (L0 := L0) (vs := [a0, a1, a3]) (g := gInit L0 w) (w := 1) (m := 4) (wf_range h1) ⟨by omega, by omega⟩ rfl
  obtain ⟨l3, v3⟩ := vr_mod (L0 := L0) (vs := [a0, a1, a3]) (g := gInit L0 w) (w := 2) (m := 4) (wf_range h3) ⟨by omega, by omega⟩ rfl
  have hc : cases ((a0 % ((5 : Nat) : Int)).toNat) ((a1 % ((4 : Nat) : Int)).toNat) ((a3 % ((4 : Nat) : Int)).toNat) = true := by
    generalize (a0 % ((5 : Nat) : Int)).toNat = k0 at l0
    generalize (a1 % ((4 : Nat) : Int)).toNat = k1 at l1
    generalize (a3 % ((4 : Nat) : Int)).toNat = k3 at l3
    have e0 : k0 = 0 ∨ k0 = 1 ∨ k0 = 2 ∨ k0 = 3 ∨ k0 = 4 := by omega
    have e1 : k1 = 0 ∨ k1 = 1 ∨ k1 = 2 ∨ k1 = 3 := by omega
    have e3 : k3 = 0 ∨ k3 = 1 ∨ k3 = 2 ∨ k3 = 3 := by omega
    rcases e0 with rfl | rfl | rfl | rfl | rfl <;> rcases e1 with rfl | rfl | rfl | rfl <;> rcases e3 with rfl | rfl | rfl | rfl
    · exact c_0_0_0
    · exact c_0_0_1
    · exact c_0_0_2
    · exact c_0_0_3
    · exact c_0_1_0
    · exact c_0_1_1
    · exact c_0_1_2
    · exact c_0_1_3
    · exact c_0_2_0
    · exact c_0_2_1
    · exact c_0_2_2
    · exact c_0_2_3
    · exact c_0_3_0
    · exact c_0_3_1
    · exact c_0_3_2
    · exact c_0_3_3
    · exact c_1_0_0
    · exact c_1_0_1
    · exact c_1_0_2
    · exact c_1_0_3
    · exact c_1_1_0
    · exact c_1_1_1
    · exact c_1_1_2
    · exact c_1_1_3
    · exact c_1_2_0
    · exact c_1_2_1
    · exact c_1_2_2
    · exact c_1_2_3
    · exact c_1_3_0
    · exact c_1_3_1
    · exact c_1_3_2
    · exact c_1_3_3
    · exact c_2_0_0
    · exact c_2_0_1
    · exact c_2_0_2
    · exact c_2_0_3
    · exact c_2_1_0
    · exact c_2_1_1
    · exact c_2_1_2
    · exact c_2_1_3
    · exact c_2_2_0
    · exact c_2_2_1
    · exact c_2_2_2
    · exact c_2_2_3
    · exact c_2_3_0
    · exact c_2_3_1
    · exact c_2_3_2
    · exact c_2_3_3
    · exact c_3_0_0
    · exact c_3_0_1
    · exact c_3_0_2
    · exact c_3_0_3
    · exact c_3_1_0
    · exact c_3_1_1
    · exact c_3_1_2
    · exact c_3_1_3
    · exact c_3_2_0
    · exact c_3_2_1
    · exact c_3_2_2
    · exact c_3_2_3
    · exact c_3_3_0
    · exact c_3_3_1
    · exact c_3_3_2
    · exact c_3_3_3
    · exact c_4_0_0
    · exact c_4_0_1
    · exact c_4_0_2
    · exact c_4_0_3
    · exact c_4_1_0
    · exact c_4_1_1
    · exact c_4_1_2
    · exact c_4_1_3
    · exact c_4_2_0
    · exact c_4_2_1
    · exact c_4_2_2
    · exact c_4_2_3
    · exact c_4_3_0
    · exact c_4_3_1
    · exact c_4_3_2
    · exact c_4_3_3
  have hc := List.all_eq_true.1 hc a2 (by cases a2 <;> decide)
  exact law_calls (ρ := rhoOf L0 [a0, a1, a3]) size laidL rfl (fun _ _ h => by cases h) (orcOK _ _ rfl) hc (.cons v0 (.cons v1 (.cons (.bool _) (.cons v3 (.nil)))))

theorem own : ownKnob Tryz.prog.godebug = none := by kernel_rfl
/-- the witness: the settled world, the tables laid -/
noncomputable def laidWorld (os : Os) : World := World.laidAll Tryz.prog os Rows.printWordsRow.laid
theorem laid_met (os : Os) (args : Array Value) : laidMet Tryz.prog Rows.printWordsRow.laid ((laidWorld os).forCall (fun _ _ => 0) ⟨#[], args, []⟩).memory :=
  laidMet_laidAll args (by kernel_rfl) (by kernel_rfl)
theorem witness_row (os : Os) {H : Type} (enc : TypeId × Value → H) :
    (OpenSpec.ofChange Rows.printWordsSpec).preRow enc Tryz.prog Tryz.f4 Rows.printWordsRow.domain false Rows.printWordsRow.laid ((laidWorld os).forCall (fun _ _ => 0) ⟨#[], #[.int .i64 0, .int .i64 0, .bool false, .int .i64 0], []⟩).memory #[.int .i64 0, .int .i64 0, .bool false, .int .i64 0] := by
  have hw : (DataW.whole enc Tryz.prog ((laidWorld os).forCall (fun _ _ => 0) ⟨#[], #[.int .i64 0, .int .i64 0, .bool false, .int .i64 0], []⟩).memory Tryz.f4.params.toList (OpenSpec.ofChange Rows.printWordsSpec).vars false (#[.int .i64 0, .int .i64 0, .bool false, .int .i64 0] : Array Value).toList 8).map (fun x => (x.1, x.2.1)) =
      some ([.lit (.int .i64 0), .lit (.int .i64 0), .lit (.bool false), .lit (.int .i64 0)], []) := by kernel_rfl
  obtain ⟨⟨x1, x2, x3⟩, hx, hx1⟩ := Option.map_eq_some_iff.1 hw
  simp only [Prod.mk.injEq] at hx1
  obtain ⟨rfl, rfl⟩ := hx1
  exact OpenSpec.preRow_of_cond 8 hx (by kernel_rfl) (fun k hk => by cases hk) (by kernel_rfl) (laid_met os _)

set_option maxRecDepth 100000 in
theorem lifted (os : Os) (started : os.Started) (H : Type) (enc : TypeId × Value → H) (F : Stop.Interp) :
    ReturnsInHanded {} Tryz.checked os 4 .any ((OpenSpec.ofChange Rows.printWordsSpec).preRow enc Tryz.prog Tryz.f4 Rows.printWordsRow.domain false Rows.printWordsRow.laid) (((OpenSpec.ofChange Rows.printWordsSpec).at F).post enc Tryz.prog Tryz.f4 false true false false) := by
  refine returnsInHanded_of_row (C := Tryz.checked) (s := OpenSpec.ofChange Rows.printWordsSpec) own started (by kernel_rfl) Tryz.func4
    (witness_row_atRef (enc := enc) (C := Tryz.checked) false (laidWorld os) #[.int .i64 0, .int .i64 0, .bool false, .int .i64 0] rfl (by kernel_rfl) (by kernel_rfl) (by kernel_rfl) (witness_row os enc)) ?_
  intro W base args ds gs before hval0 hW _ _ _ hL _ _
  have hval : ∀ (j : Nat) t v, Tryz.f4.params[j]? = some t → args[j]? = some v → Value.okWide Tryz.prog W .any base t v := hval0
  have hW' := hW
  obtain ⟨p, q, hA0, hV, rfl, hfz, hnd⟩ := hW
  have hA : DataW.TrodAll enc Tryz.prog W 0 (fun _ => true) true Tryz.f4.params.toList args.toList ds p := hA0
  rw [Tryz.params4] at hA hval
  obtain ⟨v0, vs0, d0, ds0, p0, q0, hargs, rfl, rfl, h0, r0⟩ := trodAll_cons hA
  obtain ⟨v1, vs1, d1, ds1, p1, q1, rfl, rfl, rfl, h1, r1⟩ := trodAll_cons r0
  obtain ⟨v2, vs2, d2, ds2, p2, q2, rfl, rfl, rfl, h2, r2⟩ := trodAll_cons r1
  obtain ⟨v3, vs3, d3, ds3, p3, q3, rfl, rfl, rfl, h3, r3⟩ := trodAll_cons r2
  obtain ⟨rfl, rfl, rfl⟩ := trodAll_nil r3
  obtain rfl : args = #[v0, v1, v2, v3] := by cases args; simp_all
  obtain ⟨rfl, rfl⟩ := trodVars_none hV
  obtain ⟨a0, rfl, rfl, rfl, w0⟩ := open_int Tryz.underlying3 (hval 0 3 v0 rfl rfl) h0
  obtain ⟨a1, rfl, rfl, rfl, w1⟩ := open_int Tryz.underlying3 (hval 1 3 v1 rfl rfl) h1
  obtain ⟨a2, rfl, rfl, rfl⟩ := open_bool Tryz.underlying4 (hval 2 4 v2 rfl rfl) h2
  obtain ⟨a3, rfl, rfl, rfl, w3⟩ := open_int Tryz.underlying3 (hval 3 3 v3 rfl rfl) h3
  clear hA0 hval0
  refine (walk W a0 a1 a2 a3 w0 w1 w3).mono fun e W' ⟨he, bel⟩ => ?_
  subst he
  exact ⟨_, rfl, _, _, _, [], _, [], hW', trodAll_mk1 (shut_bool Tryz.underlying4 _), (trodAll_cons_mk (shut_int Tryz.underlying3 w0) (trodAll_cons_mk (shut_int Tryz.underlying3 w1) (trodAll_cons_mk (shut_bool Tryz.underlying4 _) (trodAll_cons_mk (shut_int Tryz.underlying3 w3) trodAll_mk0)))), rfl, bel.frame _, fun h => by cases h⟩

theorem said : Rows.PrintWordsSaid :=
  OpenClaim.holds_of_cond 4 Tryz.f4 rfl rfl rfl rfl rfl rfl rfl ⟨rfl, rfl, rfl, rfl, rfl⟩ rfl rfl rfl rfl rfl (by kernel_rfl) Tryz.func4 (by kernel_rfl)
    (of_decide_eq_true (by kernel_rfl)) (by unfold Func.isWrapper; first | (rw [if_pos (by decide +kernel)]; kernel_rfl) | (rw [if_neg (by decide +kernel)]; exact ⟨rfl, rfl⟩))
    (fun os started H enc _ F => by rw [OpenClaim.pre_eq_preRow]; exact lifted os started H enc F)

theorem plain (f : FuncId) (fn : Func) (hf : Tryz.pinned.checked.prog.funcNamed "refectory/refectorylaw07.PrintWords" = some f) (hfn : Tryz.pinned.checked.prog.funcs[f]? = some fn) :
    true = Tryz.pinned.checked.prog.looks [] ∧ ∀ (j : Nat) t, fn.params[j]? = some t → Tryz.pinned.checked.prog.wantsStandIn t = false := by
  obtain rfl : f = 4 := Option.some.inj ((show Tryz.prog.funcNamed "refectory/refectorylaw07.PrintWords" = some 4 by kernel_rfl).symm.trans hf) |>.symm
  obtain rfl : fn = Tryz.f4 := (Option.some.inj (Tryz.func4.symm.trans hfn)).symm
  refine ⟨by kernel_rfl, fun j t ht => ?_⟩
  rw [Tryz.params4] at ht
  have ht := Array.mem_of_getElem? ht
  have ht : t = 3 ∨ t = 3 ∨ t = 4 ∨ t = 3 := by simpa using ht
  rcases ht with rfl | rfl | rfl | rfl
  · exact (show Tryz.prog.wantsStandIn 3 = false by kernel_rfl)
  · exact (show Tryz.prog.wantsStandIn 3 = false by kernel_rfl)
  · exact (show Tryz.prog.wantsStandIn 4 = false by kernel_rfl)
  · exact (show Tryz.prog.wantsStandIn 3 = false by kernel_rfl)

theorem card : Rows.PrintWordsCardSaid :=
  Claim7.holds_tied_plain_at .later [] _ _ _ _ said (fun _ h => by cases h) (by kernel_rfl) (fun _ h => by cases h) printWords_row_tie rfl ⟨rfl, rfl⟩ (by kernel_rfl) rfl plain (by kernel_rfl)
end Go.Proofs.YtdedgkgeflpkgaaGreatDoor.evPrintWords
namespace Go.Proofs.YtdedgkgeflpkgaaGreatDoor
theorem printWords_holds : Rows.PrintWordsCardSaid := evPrintWords.card
end Go.Proofs.YtdedgkgeflpkgaaGreatDoor
#print axioms Go.Proofs.YtdedgkgeflpkgaaGreatDoor.printWords_holds
