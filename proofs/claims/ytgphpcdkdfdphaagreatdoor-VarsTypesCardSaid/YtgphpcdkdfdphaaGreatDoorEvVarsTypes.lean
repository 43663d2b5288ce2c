/- A variable of a type at a place of another one: the law VarsTypes returns true for all numbers. Conditions: none. -/
import Derived.Test.YtgphpcdkdfdphaaGreatDoorEvVarsTypes1
import Derived.Test.YtgphpcdkdfdphaaGreatDoorEvVarsTypes2
import Derived.Test.YtgphpcdkdfdphaaGreatDoorEvVarsTypes3
import Derived.Test.YtgphpcdkdfdphaaGreatDoorEvVarsTypes4
import Derived.Test.YtgphpcdkdfdphaaGreatDoorEvD
import Derived.Test.YtgphpcdkdfdphaaGreatDoorCards
import Derived.Test.YtgphpcdkdfdphaaGreatDoorTie
import Derived.Test.YtgphpcdkdfdphaaGreatDoorIdxLay
import Derived.WalkKit
import Derived.ProofKit
import Derived.OpenShut
import Derived.Below
import Derived.Deep.DeepHandedRow
import Derived.Deep.DeepWitnessRowRef
import Derived.Lay
namespace Go.Proofs.YtgphpcdkdfdphaaGreatDoor.evVarsTypes
open Go.ChangeShapes Go.WideShapes Go.ChangeAt Go.RowKit Go.Ev
set_option linter.unusedVariables false

theorem walk (w : World) (a0 : Int) (a1 : Int) (a2 : Int) (h0 : (Lit.int .i64 a0).wf = true) (h1 : (Lit.int .i64 a1).wf = true) (h2 : (Lit.int .i64 a2).wf = true) (m : Int) (cs : Array Value) (hm1 : w.heap[0]? = some (.cells cs 3 (0, 0))) (hm2 : cs.size = 1) (hm3 : cs[0]? = some (.int .i64 m)) (hm4 : -9223372036854775808 ≤ m ∧ m < 9223372036854775808) (cs0 : Array Value) (u0 : TypeId) (x0 : Value) (hq0a : w.heap[3]? = some (.cells cs0 227 (0, 0))) (hq0b : cs0.size = 1) (hq0c : cs0[0]? = some (.iface u0 x0)) (cs1 : Array Value) (u1 : TypeId) (x1 : Value) (hq1a : w.heap[4]? = some (.cells cs1 227 (0, 0))) (hq1b : cs1.size = 1) (hq1c : cs1[0]? = some (.iface u1 x1)) : Calls Tryz.prog 6 #[.int .i64 a0, .int .i64 a1, .int .i64 a2] w fun e w' => e = .returned (.bool true) ∧ Below w.heap.size w w' := by
  obtain ⟨l0, v0⟩ := vr_mod (L0 := L0) (vs := ([a0, a1, a2] ++ List.replicate 96 0 ++ [m])) (ov := (fun k => [.iface u0 x0, .iface u1 x1].getD k .nilIface)) (g := gInit L0 w) (w := 0) (m := 6) (wf_range h0) ⟨by omega, by omega⟩ rfl
  obtain ⟨l1, v1⟩ := vr_mod (L0 := L0) (vs := ([a0, a1, a2] ++ List.replicate 96 0 ++ [m])) (ov := (fun k => [.iface u0 x0, .iface u1 x1].getD k .nilIface)) (g := gInit L0 w) (w := 1) (m := 2) (wf_range h1) ⟨by omega, by omega⟩ rfl
  obtain ⟨l2, v2⟩ := vr_mod (L0 := L0) (vs := ([a0, a1, a2] ++ List.replicate 96 0 ++ [m])) (ov := (fun k => [.iface u0 x0, .iface u1 x1].getD k .nilIface)) (g := gInit L0 w) (w := 2) (m := 3) (wf_range h2) ⟨by omega, by omega⟩ rfl
  have hc : cases ((a0 % ((6 : Nat) : Int)).toNat) ((a1 % ((2 : Nat) : Int)).toNat) ((a2 % ((3 : Nat) : Int)).toNat) = true := by
    generalize (a0 % ((6 : Nat) : Int)).toNat = k0 at l0
    generalize (a1 % ((2 : Nat) : Int)).toNat = k1 at l1
    generalize (a2 % ((3 : Nat) : Int)).toNat = k2 at l2
    have e0 : k0 = 0 ∨ k0 = 1 ∨ k0 = 2 ∨ k0 = 3 ∨ k0 = 4 ∨ k0 = 5 := by omega
    have e1 : k1 = 0 ∨ k1 = 1 := by omega
    have e2 : k2 = 0 ∨ k2 = 1 ∨ k2 = 2 := by omega
    rcases e0 with rfl | rfl | rfl | rfl | rfl | rfl <;> rcases e1 with rfl | rfl <;> rcases e2 with rfl | rfl | rfl
    · exact c_0_0_0
    · exact c_0_0_1
    · exact c_0_0_2
    · exact c_0_1_0
    · exact c_0_1_1
    · exact c_0_1_2
    · exact c_1_0_0
    · exact c_1_0_1
    · exact c_1_0_2
    · exact c_1_1_0
    · exact c_1_1_1
    · exact c_1_1_2
    · exact c_2_0_0
    · exact c_2_0_1
    · exact c_2_0_2
    · exact c_2_1_0
    · exact c_2_1_1
    · exact c_2_1_2
    · exact c_3_0_0
    · exact c_3_0_1
    · exact c_3_0_2
    · exact c_3_1_0
    · exact c_3_1_1
    · exact c_3_1_2
    · exact c_4_0_0
    · exact c_4_0_1
    · exact c_4_0_2
    · exact c_4_1_0
    · exact c_4_1_1
    · exact c_4_1_2
    · exact c_5_0_0
    · exact c_5_0_1
    · exact c_5_0_2
    · exact c_5_1_0
    · exact c_5_1_1
    · exact c_5_1_2
  exact law_calls (ρ := rhoOf L0 ([a0, a1, a2] ++ List.replicate 96 0 ++ [m]) (fun k => [.iface u0 x0, .iface u1 x1].getD k .nilIface)) size laidL rfl (init_cons (init_max hm1 hm2 hm3 hm4 rfl) (init_cons (init_opq hq0a hq0b hq0c rfl) (init_cons (init_opq hq1a hq1b hq1c rfl) init_nil))) (orcOK _ _ rfl) hc (.cons v0 (.cons v1 (.cons v2 (.nil))))

theorem own : ownKnob Tryz.prog.godebug = none := by kernel_rfl
/-- the witness: the settled world, the tables laid -/
noncomputable def laidWorld (os : Os) : World := World.laidAll Tryz.prog os Rows.varsTypesRow.laid
theorem laid_met (os : Os) (args : Array Value) : laidMet Tryz.prog Rows.varsTypesRow.laid ((laidWorld os).forCall (fun _ _ => 0) ⟨#[], args, []⟩).memory :=
  laidMet_laidAll args (by kernel_rfl) (by kernel_rfl)
theorem witness_row (os : Os) {H : Type} (enc : TypeId × Value → H) :
    (OpenSpec.ofChange Rows.varsTypesSpec).preRow enc Tryz.prog Tryz.f6 Rows.varsTypesRow.domain false Rows.varsTypesRow.laid ((laidWorld os).forCall (fun _ _ => 0) ⟨#[], #[.int .i64 0, .int .i64 0, .int .i64 0], []⟩).memory #[.int .i64 0, .int .i64 0, .int .i64 0] := by
  have hw : (DataW.whole enc Tryz.prog ((laidWorld os).forCall (fun _ _ => 0) ⟨#[], #[.int .i64 0, .int .i64 0, .int .i64 0], []⟩).memory Tryz.f6.params.toList (OpenSpec.ofChange Rows.varsTypesSpec).vars false (#[.int .i64 0, .int .i64 0, .int .i64 0] : Array Value).toList 8).map (fun x => (x.1, x.2.1)) =
      some ([.lit (.int .i64 0), .lit (.int .i64 0), .lit (.int .i64 0)], []) := by kernel_rfl
  obtain ⟨⟨x1, x2, x3⟩, hx, hx1⟩ := Option.map_eq_some_iff.1 hw
  simp only [Prod.mk.injEq] at hx1
  obtain ⟨rfl, rfl⟩ := hx1
  exact OpenSpec.preRow_of_cond 8 hx (by kernel_rfl) (fun k hk => by cases hk) (by kernel_rfl) (laid_met os _)

set_option maxRecDepth 100000 in
theorem lifted (os : Os) (started : os.Started) (H : Type) (enc : TypeId × Value → H) (F : Stop.Interp) :
    ReturnsInHanded {} Tryz.checked os 6 .any ((OpenSpec.ofChange Rows.varsTypesSpec).preRow enc Tryz.prog Tryz.f6 Rows.varsTypesRow.domain false Rows.varsTypesRow.laid) (((OpenSpec.ofChange Rows.varsTypesSpec).at F).post enc Tryz.prog Tryz.f6 false true false false) := by
  refine returnsInHanded_of_row (C := Tryz.checked) (s := OpenSpec.ofChange Rows.varsTypesSpec) own started (by kernel_rfl) Tryz.func6
    (witness_row_atRef (enc := enc) (C := Tryz.checked) false (laidWorld os) #[.int .i64 0, .int .i64 0, .int .i64 0] rfl (by kernel_rfl) (by kernel_rfl) (by kernel_rfl) (witness_row os enc)) ?_
  intro W base args ds gs before hval0 hW _ _ _ hL hsh _
  have hval : ∀ (j : Nat) t v, Tryz.f6.params[j]? = some t → args[j]? = some v → Value.okWide Tryz.prog W .any base t v := hval0
  have hW' := hW
  obtain ⟨p, q, hA0, hV, rfl, hfz, hnd⟩ := hW
  have hA : DataW.TrodAll enc Tryz.prog W 0 (fun _ => true) true Tryz.f6.params.toList args.toList ds p := hA0
  rw [Tryz.params6] at hA hval
  obtain ⟨v0, vs0, d0, ds0, p0, q0, hargs, rfl, rfl, h0, r0⟩ := trodAll_cons hA
  obtain ⟨v1, vs1, d1, ds1, p1, q1, rfl, rfl, rfl, h1, r1⟩ := trodAll_cons r0
  obtain ⟨v2, vs2, d2, ds2, p2, q2, rfl, rfl, rfl, h2, r2⟩ := trodAll_cons r1
  obtain ⟨rfl, rfl, rfl⟩ := trodAll_nil r2
  obtain rfl : args = #[v0, v1, v2] := by cases args; simp_all
  obtain ⟨rfl, rfl⟩ := trodVars_none hV
  obtain ⟨a0, rfl, rfl, rfl, w0⟩ := open_int Tryz.underlying3 (hval 0 3 v0 rfl rfl) h0
  obtain ⟨a1, rfl, rfl, rfl, w1⟩ := open_int Tryz.underlying3 (hval 1 3 v1 rfl rfl) h1
  obtain ⟨a2, rfl, rfl, rfl, w2⟩ := open_int Tryz.underlying3 (hval 2 3 v2 rfl rfl) h2
  obtain ⟨cs, m, hm1, hm2, hm3, hm4⟩ := shaped_max (P := Tryz.prog) (gi := 0) (t := 3) (zero := #[.int .i64 0]) hsh (of_decide_eq_true (by kernel_rfl)) (by kernel_rfl) rfl (by kernel_rfl) (by kernel_rfl) Tryz.underlying3
  obtain ⟨cs0, u0, x0, hq0a, hq0b, hq0c⟩ := laid_opq (P := Tryz.prog) (n := "strconv.ErrSyntax") (g := 3) (t := 227) (t' := 227) (zero := #[.nilIface]) hL (by kernel_rfl) (List.mem_of_getElem? (i := 5) (show Rows.varsTypesRow.laid[5]? = some _ from rfl)) (by kernel_rfl) (by kernel_rfl) Tryz.underlying227 hsh (of_decide_eq_true (by kernel_rfl)) (by kernel_rfl)
  obtain ⟨cs1, u1, x1, hq1a, hq1b, hq1c⟩ := laid_opq (P := Tryz.prog) (n := "strconv.ErrRange") (g := 4) (t := 227) (t' := 227) (zero := #[.nilIface]) hL (by kernel_rfl) (List.mem_of_getElem? (i := 4) (show Rows.varsTypesRow.laid[4]? = some _ from rfl)) (by kernel_rfl) (by kernel_rfl) Tryz.underlying227 hsh (of_decide_eq_true (by kernel_rfl)) (by kernel_rfl)
  clear hA0 hval0 hsh
  refine (walk W a0 a1 a2 w0 w1 w2 m cs hm1 hm2 hm3 hm4 cs0 u0 x0 hq0a hq0b hq0c cs1 u1 x1 hq1a hq1b hq1c).mono fun e W' ⟨he, bel⟩ => ?_
  subst he
  exact ⟨_, rfl, _, _, _, [], _, [], hW', trodAll_mk1 (shut_bool Tryz.underlying4 _), (trodAll_cons_mk (shut_int Tryz.underlying3 w0) (trodAll_cons_mk (shut_int Tryz.underlying3 w1) (trodAll_cons_mk (shut_int Tryz.underlying3 w2) trodAll_mk0))), rfl, bel.frame _, fun h => by cases h⟩

set_option maxHeartbeats 8000000 in
theorem facts : joinedFacts Tryz.pinned.checked.prog 6 Tryz.f6 (OpenSpec.ofChange Rows.varsTypesSpec).bare Rows.varsTypesRow = true := by
  unfold joinedFacts
  simp only [Bool.and_eq_true]
  and_intros <;> (as_aux_lemma => kernel_rfl)
theorem wrapped : Tryz.f6.isWrapper Tryz.pinned.checked.prog Rows.varsTypesRow.wrapper Rows.varsTypesRow.mainSum := by
  unfold Func.isWrapper; first | (rw [if_pos (by decide +kernel)]; kernel_rfl) | (rw [if_neg (by decide +kernel)]; exact ⟨rfl, rfl⟩)
theorem said : Rows.VarsTypesSaid :=
  OpenClaim.holds_of_cond 6 Tryz.f6 rfl rfl rfl rfl rfl rfl rfl ⟨rfl, rfl, rfl, rfl, rfl⟩ rfl rfl rfl rfl rfl (by kernel_rfl) Tryz.func6 facts
    (of_decide_eq_true (by kernel_rfl)) wrapped
    (fun os started H enc _ F => by rw [OpenClaim.pre_eq_preRow]; exact lifted os started H enc F)

theorem plain (f : FuncId) (fn : Func) (hf : Tryz.pinned.checked.prog.funcNamed "refectory/refectorylaw15.VarsTypes" = some f) (hfn : Tryz.pinned.checked.prog.funcs[f]? = some fn) :
    true = Tryz.pinned.checked.prog.looks [] ∧ ∀ (j : Nat) t, fn.params[j]? = some t → Tryz.pinned.checked.prog.wantsStandIn t = false := by
  obtain rfl : f = 6 := Option.some.inj ((show Tryz.prog.funcNamed "refectory/refectorylaw15.VarsTypes" = some 6 by kernel_rfl).symm.trans hf) |>.symm
  obtain rfl : fn = Tryz.f6 := (Option.some.inj (Tryz.func6.symm.trans hfn)).symm
  refine ⟨by kernel_rfl, fun j t ht => ?_⟩
  rw [Tryz.params6] at ht
  have ht := Array.mem_of_getElem? ht
  have ht : t = 3 ∨ t = 3 ∨ t = 3 := by simpa using ht
  rcases ht with rfl | rfl | rfl
  · exact (show Tryz.prog.wantsStandIn 3 = false by kernel_rfl)
  · exact (show Tryz.prog.wantsStandIn 3 = false by kernel_rfl)
  · exact (show Tryz.prog.wantsStandIn 3 = false by kernel_rfl)

set_option maxHeartbeats 8000000 in
theorem card : Rows.VarsTypesCardSaid :=
  Claim7.holds_tied_plain_at .later [] _ _ _ _ said (fun _ h => by cases h) (by as_aux_lemma => kernel_rfl) (fun _ h => by cases h) varsTypes_row_tie rfl ⟨rfl, rfl⟩ (by as_aux_lemma => kernel_rfl) rfl plain (by as_aux_lemma => kernel_rfl)
end Go.Proofs.YtgphpcdkdfdphaaGreatDoor.evVarsTypes
namespace Go.Proofs.YtgphpcdkdfdphaaGreatDoor
theorem varsTypes_holds : Rows.VarsTypesCardSaid := evVarsTypes.card
end Go.Proofs.YtgphpcdkdfdphaaGreatDoor
#print axioms Go.Proofs.YtgphpcdkdfdphaaGreatDoor.varsTypes_holds
