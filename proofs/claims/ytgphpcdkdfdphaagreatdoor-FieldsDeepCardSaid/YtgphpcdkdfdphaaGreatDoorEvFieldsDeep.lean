/- A field that there is not is found, so deep, behind so many: the law FieldsDeep returns true for all arguments. Conditions: none. -/
import Derived.Test.YtgphpcdkdfdphaaGreatDoorEvFieldsDeep1
import Derived.Test.YtgphpcdkdfdphaaGreatDoorEvFieldsDeep2
import Derived.Test.YtgphpcdkdfdphaaGreatDoorEvFieldsDeep3
import Derived.Test.YtgphpcdkdfdphaaGreatDoorEvFieldsDeep4
import Derived.Test.YtgphpcdkdfdphaaGreatDoorEvFieldsDeep5
import Derived.Test.YtgphpcdkdfdphaaGreatDoorEvFieldsDeep6
import Derived.Test.YtgphpcdkdfdphaaGreatDoorEvFieldsDeep7
import Derived.Test.YtgphpcdkdfdphaaGreatDoorEvFieldsDeep8
import Derived.Test.YtgphpcdkdfdphaaGreatDoorEvFieldsDeep9
import Derived.Test.YtgphpcdkdfdphaaGreatDoorEvFieldsDeep10
import Derived.Test.YtgphpcdkdfdphaaGreatDoorEvFieldsDeep11
import Derived.Test.YtgphpcdkdfdphaaGreatDoorEvFieldsDeep12
import Derived.Test.YtgphpcdkdfdphaaGreatDoorEvD
import Derived.Test.YtgphpcdkdfdphaaGreatDoorCards
import Derived.Test.YtgphpcdkdfdphaaGreatDoorTie
import Derived.Test.YtgphpcdkdfdphaaGreatDoorIdxLay
import Derived.WalkKit
import Derived.ProofKit
import Derived.OpenShut
import Derived.Below
import Derived.Deep.DeepHandedRow
import Derived.Deep.DeepWitnessRowRef
import Derived.Lay
namespace Go.Proofs.YtgphpcdkdfdphaaGreatDoor.evFieldsDeep
open Go.ChangeShapes Go.WideShapes Go.ChangeAt Go.RowKit Go.Ev
set_option linter.unusedVariables false

theorem walk (w : World) (a0 : Int) (a1 : Int) (a2 : Bool) (h0 : (Lit.int .i64 a0).wf = true) (h1 : (Lit.int .i64 a1).wf = true) (m : Int) (cs : Array Value) (hm1 : w.heap[0]? = some (.cells cs 3 (0, 0))) (hm2 : cs.size = 1) (hm3 : cs[0]? = some (.int .i64 m)) (hm4 : -9223372036854775808 ≤ m ∧ m < 9223372036854775808) (cs0 : Array Value) (u0 : TypeId) (x0 : Value) (hq0a : w.heap[3]? = some (.cells cs0 227 (0, 0))) (hq0b : cs0.size = 1) (hq0c : cs0[0]? = some (.iface u0 x0)) (cs1 : Array Value) (u1 : TypeId) (x1 : Value) (hq1a : w.heap[4]? = some (.cells cs1 227 (0, 0))) (hq1b : cs1.size = 1) (hq1c : cs1[0]? = some (.iface u1 x1)) : Calls Tryz.prog 7 #[.int .i64 a0, .int .i64 a1, .bool a2] w fun e w' => e = .returned (.bool true) ∧ Below w.heap.size w w' := by
  obtain ⟨l0, v0⟩ := vr_mod (L0 := L0) (vs := ([a0, a1] ++ List.replicate 97 0 ++ [m])) (ov := (fun k => [.iface u0 x0, .iface u1 x1].getD k .nilIface)) (g := gInit L0 w) (w := 0) (m := 9) (wf_range h0) ⟨by omega, by omega⟩ rfl
  obtain ⟨l1, v1⟩ := vr_mod (L0 := L0) (vs := ([a0, a1] ++ List.replicate 97 0 ++ [m])) (ov := (fun k => [.iface u0 x0, .iface u1 x1].getD k .nilIface)) (g := gInit L0 w) (w := 1) (m := 9) (wf_range h1) ⟨by omega, by omega⟩ rfl
  have hc : cases ((a0 % ((9 : Nat) : Int)).toNat) ((a1 % ((9 : Nat) : Int)).toNat) (a2) = true := by
    generalize (a0 % ((9 : Nat) : Int)).toNat = k0 at l0
    generalize (a1 % ((9 : Nat) : Int)).toNat = k1 at l1
    have e0 : k0 = 0 ∨ k0 = 1 ∨ k0 = 2 ∨ k0 = 3 ∨ k0 = 4 ∨ k0 = 5 ∨ k0 = 6 ∨ k0 = 7 ∨ k0 = 8 := by omega
    have e1 : k1 = 0 ∨ k1 = 1 ∨ k1 = 2 ∨ k1 = 3 ∨ k1 = 4 ∨ k1 = 5 ∨ k1 = 6 ∨ k1 = 7 ∨ k1 = 8 := by omega
    rcases e0 with rfl | rfl | rfl | rfl | rfl | rfl | rfl | rfl | rfl <;> rcases e1 with rfl | rfl | rfl | rfl | rfl | rfl | rfl | rfl | rfl <;> cases a2
    · exact c_0_0_false
    · exact c_0_0_true
    · exact c_0_1_false
    · exact c_0_1_true
    · exact c_0_2_false
    · exact c_0_2_true
    · exact c_0_3_false
    · exact c_0_3_true
    · exact c_0_4_false
    · exact c_0_4_true
    · exact c_0_5_false
    · exact c_0_5_true
    · exact c_0_6_false
    · exact c_0_6_true
    · exact c_0_7_false
    · exact c_0_7_true
    · exact c_0_8_false
    · exact c_0_8_true
    · exact c_1_0_false
    · exact c_1_0_true
    · exact c_1_1_false
    · exact c_1_1_true
    · exact c_1_2_false
    · exact c_1_2_true
    · exact c_1_3_false
    · exact c_1_3_true
    · exact c_1_4_false
    · exact c_1_4_true
    · exact c_1_5_false
    · exact c_1_5_true
    · exact c_1_6_false
    · exact c_1_6_true
    · exact c_1_7_false
    · exact c_1_7_true
    · exact c_1_8_false
    · exact c_1_8_true
    · exact c_2_0_false
    · exact c_2_0_true
    · exact c_2_1_false
    · exact c_2_1_true
    · exact c_2_2_false
    · exact c_2_2_true
    · exact c_2_3_false
    · exact c_2_3_true
    · exact c_2_4_false
    · exact c_2_4_true
    · exact c_2_5_false
    · exact c_2_5_true
    · exact c_2_6_false
    · exact c_2_6_true
    · exact c_2_7_false
    · exact c_2_7_true
    · exact c_2_8_false
    · exact c_2_8_true
    · exact c_3_0_false
    · exact c_3_0_true
    · exact c_3_1_false
    · exact c_3_1_true
    · exact c_3_2_false
    · exact c_3_2_true
    · exact c_3_3_false
    · exact c_3_3_true
    · exact c_3_4_false
    · exact c_3_4_true
    · exact c_3_5_false
    · exact c_3_5_true
    · exact c_3_6_false
    · exact c_3_6_true
    · exact c_3_7_false
    · exact c_3_7_true
    · exact c_3_8_false
    · exact c_3_8_true
    · exact c_4_0_false
    · exact c_4_0_true
    · exact c_4_1_false
    · exact c_4_1_true
    · exact c_4_2_false
    · exact c_4_2_true
    · exact c_4_3_false
    · exact c_4_3_true
    · exact c_4_4_false
    · exact c_4_4_true
    · exact c_4_5_false
    · exact c_4_5_true
    · exact c_4_6_false
    · exact c_4_6_true
    · exact c_4_7_false
    · exact c_4_7_true
    · exact c_4_8_false
    · exact c_4_8_true
    · exact c_5_0_false
    · exact c_5_0_true
    · exact c_5_1_false
    · exact c_5_1_true
    · exact c_5_2_false
    · exact c_5_2_true
    · exact c_5_3_false
    · exact c_5_3_true
    · exact c_5_4_false
    · exact c_5_4_true
    · exact c_5_5_false
    · exact c_5_5_true
    · exact c_5_6_false
    · exact c_5_6_true
    · exact c_5_7_false
    · exact c_5_7_true
    · exact c_5_8_false
    · exact c_5_8_true
    · exact c_6_0_false
    · exact c_6_0_true
    · exact c_6_1_false
    · exact c_6_1_true
    · exact c_6_2_false
    · exact c_6_2_true
    · exact c_6_3_false
    · exact c_6_3_true
    · exact c_6_4_false
    · exact c_6_4_true
    · exact c_6_5_false
    · exact c_6_5_true
    · exact c_6_6_false
    · exact c_6_6_true
    · exact c_6_7_false
    · exact c_6_7_true
    · exact c_6_8_false
    · exact c_6_8_true
    · exact c_7_0_false
    · exact c_7_0_true
    · exact c_7_1_false
    · exact c_7_1_true
    · exact c_7_2_false
    · exact c_7_2_true
    · exact c_7_3_false
    · exact c_7_3_true
    · exact c_7_4_false
    · exact c_7_4_true
    · exact c_7_5_false
    · exact c_7_5_true
    · exact c_7_6_false
    · exact c_7_6_true
    · exact c_7_7_false
    · exact c_7_7_true
    · exact c_7_8_false
    · exact c_7_8_true
    · exact c_8_0_false
    · exact c_8_0_true
    · exact c_8_1_false
    · exact c_8_1_true
    · exact c_8_2_false
    · exact c_8_2_true
    · exact c_8_3_false
    · exact c_8_3_true
    · exact c_8_4_false
    · exact c_8_4_true
    · exact c_8_5_false
    · exact c_8_5_true
    · exact c_8_6_false
    · exact c_8_6_true
    · exact c_8_7_false
    · exact c_8_7_true
    · exact c_8_8_false
    · exact c_8_8_true
  exact law_calls (ρ := rhoOf L0 ([a0, a1] ++ List.replicate 97 0 ++ [m]) (fun k => [.iface u0 x0, .iface u1 x1].getD k .nilIface)) size laidL rfl (init_cons (init_max hm1 hm2 hm3 hm4 rfl) (init_cons (init_opq hq0a hq0b hq0c rfl) (init_cons (init_opq hq1a hq1b hq1c rfl) init_nil))) (orcOK _ _ rfl) hc (.cons v0 (.cons v1 (.cons (.bool _) (.nil))))

theorem own : ownKnob Tryz.prog.godebug = none := by kernel_rfl
/-- the witness: the settled world, the tables laid -/
noncomputable def laidWorld (os : Os) : World := World.laidAll Tryz.prog os Rows.fieldsDeepRow.laid
theorem laid_met (os : Os) (args : Array Value) : laidMet Tryz.prog Rows.fieldsDeepRow.laid ((laidWorld os).forCall (fun _ _ => 0) ⟨#[], args, []⟩).memory :=
  laidMet_laidAll args (by kernel_rfl) (by kernel_rfl)
theorem witness_row (os : Os) {H : Type} (enc : TypeId × Value → H) :
    (OpenSpec.ofChange Rows.fieldsDeepSpec).preRow enc Tryz.prog Tryz.f7 Rows.fieldsDeepRow.domain false Rows.fieldsDeepRow.laid ((laidWorld os).forCall (fun _ _ => 0) ⟨#[], #[.int .i64 0, .int .i64 0, .bool false], []⟩).memory #[.int .i64 0, .int .i64 0, .bool false] := by
  have hw : (DataW.whole enc Tryz.prog ((laidWorld os).forCall (fun _ _ => 0) ⟨#[], #[.int .i64 0, .int .i64 0, .bool false], []⟩).memory Tryz.f7.params.toList (OpenSpec.ofChange Rows.fieldsDeepSpec).vars false (#[.int .i64 0, .int .i64 0, .bool false] : Array Value).toList 8).map (fun x => (x.1, x.2.1)) =
      some ([.lit (.int .i64 0), .lit (.int .i64 0), .lit (.bool false)], []) := by kernel_rfl
  obtain ⟨⟨x1, x2, x3⟩, hx, hx1⟩ := Option.map_eq_some_iff.1 hw
  simp only [Prod.mk.injEq] at hx1
  obtain ⟨rfl, rfl⟩ := hx1
  exact OpenSpec.preRow_of_cond 8 hx (by kernel_rfl) (fun k hk => by cases hk) (by kernel_rfl) (laid_met os _)

set_option maxRecDepth 100000 in
theorem lifted (os : Os) (started : os.Started) (H : Type) (enc : TypeId × Value → H) (F : Stop.Interp) :
    ReturnsInHanded {} Tryz.checked os 7 .any ((OpenSpec.ofChange Rows.fieldsDeepSpec).preRow enc Tryz.prog Tryz.f7 Rows.fieldsDeepRow.domain false Rows.fieldsDeepRow.laid) (((OpenSpec.ofChange Rows.fieldsDeepSpec).at F).post enc Tryz.prog Tryz.f7 false true false false) := by
  refine returnsInHanded_of_row (C := Tryz.checked) (s := OpenSpec.ofChange Rows.fieldsDeepSpec) own started (by kernel_rfl) Tryz.func7
    (witness_row_atRef (enc := enc) (C := Tryz.checked) false (laidWorld os) #[.int .i64 0, .int .i64 0, .bool false] rfl (by kernel_rfl) (by kernel_rfl) (by kernel_rfl) (witness_row os enc)) ?_
  intro W base args ds gs before hval0 hW _ _ _ hL hsh _
  have hval : ∀ (j : Nat) t v, Tryz.f7.params[j]? = some t → args[j]? = some v → Value.okWide Tryz.prog W .any base t v := hval0
  have hW' := hW
  obtain ⟨p, q, hA0, hV, rfl, hfz, hnd⟩ := hW
  have hA : DataW.TrodAll enc Tryz.prog W 0 (fun _ => true) true Tryz.f7.params.toList args.toList ds p := hA0
  rw [Tryz.params7] at hA hval
  obtain ⟨v0, vs0, d0, ds0, p0, q0, hargs, rfl, rfl, h0, r0⟩ := trodAll_cons hA
  obtain ⟨v1, vs1, d1, ds1, p1, q1, rfl, rfl, rfl, h1, r1⟩ := trodAll_cons r0
  obtain ⟨v2, vs2, d2, ds2, p2, q2, rfl, rfl, rfl, h2, r2⟩ := trodAll_cons r1
  obtain ⟨rfl, rfl, rfl⟩ := trodAll_nil r2
  obtain rfl : args = #[v0, v1, v2] := by cases args; simp_all
  obtain ⟨rfl, rfl⟩ := trodVars_none hV
  obtain ⟨a0, rfl, rfl, rfl, w0⟩ := open_int Tryz.underlying3 (hval 0 3 v0 rfl rfl) h0
  obtain ⟨a1, rfl, rfl, rfl, w1⟩ := open_int Tryz.underlying3 (hval 1 3 v1 rfl rfl) h1
  obtain ⟨a2, rfl, rfl, rfl⟩ := open_bool Tryz.underlying4 (hval 2 4 v2 rfl rfl) h2
  obtain ⟨cs, m, hm1, hm2, hm3, hm4⟩ := shaped_max (P := Tryz.prog) (gi := 0) (t := 3) (zero := #[.int .i64 0]) hsh (of_decide_eq_true (by kernel_rfl)) (by kernel_rfl) rfl (by kernel_rfl) (by kernel_rfl) Tryz.underlying3
  obtain ⟨cs0, u0, x0, hq0a, hq0b, hq0c⟩ := laid_opq (P := Tryz.prog) (n := "strconv.ErrSyntax") (g := 3) (t := 227) (t' := 227) (zero := #[.nilIface]) hL (by kernel_rfl) (List.mem_of_getElem? (i := 5) (show Rows.fieldsDeepRow.laid[5]? = some _ from rfl)) (by kernel_rfl) (by kernel_rfl) Tryz.underlying227 hsh (of_decide_eq_true (by kernel_rfl)) (by kernel_rfl)
  obtain ⟨cs1, u1, x1, hq1a, hq1b, hq1c⟩ := laid_opq (P := Tryz.prog) (n := "strconv.ErrRange") (g := 4) (t := 227) (t' := 227) (zero := #[.nilIface]) hL (by kernel_rfl) (List.mem_of_getElem? (i := 4) (show Rows.fieldsDeepRow.laid[4]? = some _ from rfl)) (by kernel_rfl) (by kernel_rfl) Tryz.underlying227 hsh (of_decide_eq_true (by kernel_rfl)) (by kernel_rfl)
  clear hA0 hval0 hsh
  refine (walk W a0 a1 a2 w0 w1 m cs hm1 hm2 hm3 hm4 cs0 u0 x0 hq0a hq0b hq0c cs1 u1 x1 hq1a hq1b hq1c).mono fun e W' ⟨he, bel⟩ => ?_
  subst he
  exact ⟨_, rfl, _, _, _, [], _, [], hW', trodAll_mk1 (shut_bool Tryz.underlying4 _), (trodAll_cons_mk (shut_int Tryz.underlying3 w0) (trodAll_cons_mk (shut_int Tryz.underlying3 w1) (trodAll_cons_mk (shut_bool Tryz.underlying4 _) trodAll_mk0))), rfl, bel.frame _, fun h => by cases h⟩

set_option maxHeartbeats 8000000 in
theorem facts : joinedFacts Tryz.pinned.checked.prog 7 Tryz.f7 (OpenSpec.ofChange Rows.fieldsDeepSpec).bare Rows.fieldsDeepRow = true := by
  unfold joinedFacts
  simp only [Bool.and_eq_true]
  and_intros <;> (as_aux_lemma => kernel_rfl)
theorem wrapped : Tryz.f7.isWrapper Tryz.pinned.checked.prog Rows.fieldsDeepRow.wrapper Rows.fieldsDeepRow.mainSum := by
  unfold Func.isWrapper; first | (rw [if_pos (by decide +kernel)]; kernel_rfl) | (rw [if_neg (by decide +kernel)]; exact ⟨rfl, rfl⟩)
theorem said : Rows.FieldsDeepSaid :=
  OpenClaim.holds_of_cond 7 Tryz.f7 rfl rfl rfl rfl rfl rfl rfl ⟨rfl, rfl, rfl, rfl, rfl⟩ rfl rfl rfl rfl rfl (by kernel_rfl) Tryz.func7 facts
    (of_decide_eq_true (by kernel_rfl)) wrapped
    (fun os started H enc _ F => by rw [OpenClaim.pre_eq_preRow]; exact lifted os started H enc F)

theorem plain (f : FuncId) (fn : Func) (hf : Tryz.pinned.checked.prog.funcNamed "refectory/refectorylaw13.FieldsDeep" = some f) (hfn : Tryz.pinned.checked.prog.funcs[f]? = some fn) :
    true = Tryz.pinned.checked.prog.looks [] ∧ ∀ (j : Nat) t, fn.params[j]? = some t → Tryz.pinned.checked.prog.wantsStandIn t = false := by
  obtain rfl : f = 7 := Option.some.inj ((show Tryz.prog.funcNamed "refectory/refectorylaw13.FieldsDeep" = some 7 by kernel_rfl).symm.trans hf) |>.symm
  obtain rfl : fn = Tryz.f7 := (Option.some.inj (Tryz.func7.symm.trans hfn)).symm
  refine ⟨by kernel_rfl, fun j t ht => ?_⟩
  rw [Tryz.params7] at ht
  have ht := Array.mem_of_getElem? ht
  have ht : t = 3 ∨ t = 3 ∨ t = 4 := by simpa using ht
  rcases ht with rfl | rfl | rfl
  · exact (show Tryz.prog.wantsStandIn 3 = false by kernel_rfl)
  · exact (show Tryz.prog.wantsStandIn 3 = false by kernel_rfl)
  · exact (show Tryz.prog.wantsStandIn 4 = false by kernel_rfl)

set_option maxHeartbeats 8000000 in
theorem card : Rows.FieldsDeepCardSaid :=
  Claim7.holds_tied_plain_at .later [] _ _ _ _ said (fun _ h => by cases h) (by as_aux_lemma => kernel_rfl) (fun _ h => by cases h) fieldsDeep_row_tie rfl ⟨rfl, rfl⟩ (by as_aux_lemma => kernel_rfl) rfl plain (by as_aux_lemma => kernel_rfl)
end Go.Proofs.YtgphpcdkdfdphaaGreatDoor.evFieldsDeep
namespace Go.Proofs.YtgphpcdkdfdphaaGreatDoor
theorem fieldsDeep_holds : Rows.FieldsDeepCardSaid := evFieldsDeep.card
end Go.Proofs.YtgphpcdkdfdphaaGreatDoor
#print axioms Go.Proofs.YtgphpcdkdfdphaaGreatDoor.fieldsDeep_holds
