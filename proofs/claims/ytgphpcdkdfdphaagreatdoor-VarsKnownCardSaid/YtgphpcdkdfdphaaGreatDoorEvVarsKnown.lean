/- Variables that may stand where they do, and that may not: the law VarsKnown returns true for every number. Conditions: none. -/
import Derived.Test.YtgphpcdkdfdphaaGreatDoorEvVarsKnown1
import Derived.Test.YtgphpcdkdfdphaaGreatDoorEvVarsKnown2
import Derived.Test.YtgphpcdkdfdphaaGreatDoorEvD
import Derived.Test.YtgphpcdkdfdphaaGreatDoorCards
import Derived.Test.YtgphpcdkdfdphaaGreatDoorTie
import Derived.Test.YtgphpcdkdfdphaaGreatDoorIdxLay
import Derived.WalkKit
import Derived.ProofKit
import Derived.OpenShut
import Derived.Below
import Derived.Deep.DeepHandedRow
import Derived.Deep.DeepWitnessRowRef
import Derived.Lay
namespace Go.Proofs.YtgphpcdkdfdphaaGreatDoor.evVarsKnown
open Go.ChangeShapes Go.WideShapes Go.ChangeAt Go.RowKit Go.Ev
set_option linter.unusedVariables false

theorem walk (w : World) (a0 : Int) (h0 : (Lit.int .i64 a0).wf = true) (m : Int) (cs : Array Value) (hm1 : w.heap[0]? = some (.cells cs 3 (0, 0))) (hm2 : cs.size = 1) (hm3 : cs[0]? = some (.int .i64 m)) (hm4 : -9223372036854775808 ≤ m ∧ m < 9223372036854775808) (cs0 : Array Value) (u0 : TypeId) (x0 : Value) (hq0a : w.heap[3]? = some (.cells cs0 227 (0, 0))) (hq0b : cs0.size = 1) (hq0c : cs0[0]? = some (.iface u0 x0)) (cs1 : Array Value) (u1 : TypeId) (x1 : Value) (hq1a : w.heap[4]? = some (.cells cs1 227 (0, 0))) (hq1b : cs1.size = 1) (hq1c : cs1[0]? = some (.iface u1 x1)) : Calls Tryz.prog 5 #[.int .i64 a0] w fun e w' => e = .returned (.bool true) ∧ Below w.heap.size w w' := by
  obtain ⟨l0, v0⟩ := vr_mod (L0 := L0) (vs := ([a0] ++ List.replicate 98 0 ++ [m])) (ov := (fun k => [.iface u0 x0, .iface u1 x1].getD k .nilIface)) (g := gInit L0 w) (w := 0) (m := 16) (wf_range h0) ⟨by omega, by omega⟩ rfl
  have hc : cases ((a0 % ((16 : Nat) : Int)).toNat) = true := by
    generalize (a0 % ((16 : Nat) : Int)).toNat = k0 at l0
    have e0 : k0 = 0 ∨ k0 = 1 ∨ k0 = 2 ∨ k0 = 3 ∨ k0 = 4 ∨ k0 = 5 ∨ k0 = 6 ∨ k0 = 7 ∨ k0 = 8 ∨ k0 = 9 ∨ k0 = 10 ∨ k0 = 11 ∨ k0 = 12 ∨ k0 = 13 ∨ k0 = 14 ∨ k0 = 15 := by omega
    rcases e0 with rfl | rfl | rfl | rfl | rfl | rfl | rfl | rfl | rfl | rfl | rfl | rfl | rfl | rfl | rfl | rfl
    · exact c_0
    · exact c_1
    · exact c_2
    · exact c_3
    · exact c_4
    · exact c_5
    · exact c_6
    · exact c_7
    · exact c_8
    · exact c_9
    · exact c_10
    · exact c_11
    · exact c_12
    · exact c_13
    · exact c_14
    · exact c_15
  exact law_calls (ρ := rhoOf L0 ([a0] ++ List.replicate 98 0 ++ [m]) (fun k => [.iface u0 x0, .iface u1 x1].getD k .nilIface)) size laidL rfl (init_cons (init_max hm1 hm2 hm3 hm4 rfl) (init_cons (init_opq hq0a hq0b hq0c rfl) (init_cons (init_opq hq1a hq1b hq1c rfl) init_nil))) (orcOK _ _ rfl) hc (.cons v0 (.nil))

theorem own : ownKnob Tryz.prog.godebug = none := by kernel_rfl
/-- the witness: the settled world, the tables laid -/
noncomputable def laidWorld (os : Os) : World := World.laidAll Tryz.prog os Rows.varsKnownRow.laid
theorem laid_met (os : Os) (args : Array Value) : laidMet Tryz.prog Rows.varsKnownRow.laid ((laidWorld os).forCall (fun _ _ => 0) ⟨#[], args, []⟩).memory :=
  laidMet_laidAll args (by kernel_rfl) (by kernel_rfl)
theorem witness_row (os : Os) {H : Type} (enc : TypeId × Value → H) :
    (OpenSpec.ofChange Rows.varsKnownSpec).preRow enc Tryz.prog Tryz.f5 Rows.varsKnownRow.domain false Rows.varsKnownRow.laid ((laidWorld os).forCall (fun _ _ => 0) ⟨#[], #[.int .i64 0], []⟩).memory #[.int .i64 0] := by
  have hw : (DataW.whole enc Tryz.prog ((laidWorld os).forCall (fun _ _ => 0) ⟨#[], #[.int .i64 0], []⟩).memory Tryz.f5.params.toList (OpenSpec.ofChange Rows.varsKnownSpec).vars false (#[.int .i64 0] : Array Value).toList 8).map (fun x => (x.1, x.2.1)) =
      some ([.lit (.int .i64 0)], []) := by kernel_rfl
  obtain ⟨⟨x1, x2, x3⟩, hx, hx1⟩ := Option.map_eq_some_iff.1 hw
  simp only [Prod.mk.injEq] at hx1
  obtain ⟨rfl, rfl⟩ := hx1
  exact OpenSpec.preRow_of_cond 8 hx (by kernel_rfl) (fun k hk => by cases hk) (by kernel_rfl) (laid_met os _)

set_option maxRecDepth 100000 in
theorem lifted (os : Os) (started : os.Started) (H : Type) (enc : TypeId × Value → H) (F : Stop.Interp) :
    ReturnsInHanded {} Tryz.checked os 5 .any ((OpenSpec.ofChange Rows.varsKnownSpec).preRow enc Tryz.prog Tryz.f5 Rows.varsKnownRow.domain false Rows.varsKnownRow.laid) (((OpenSpec.ofChange Rows.varsKnownSpec).at F).post enc Tryz.prog Tryz.f5 false true false false) := by
  refine returnsInHanded_of_row (C := Tryz.checked) (s := OpenSpec.ofChange Rows.varsKnownSpec) own started (by kernel_rfl) Tryz.func5
    (witness_row_atRef (enc := enc) (C := Tryz.checked) false (laidWorld os) #[.int .i64 0] rfl (by kernel_rfl) (by kernel_rfl) (by kernel_rfl) (witness_row os enc)) ?_
  intro W base args ds gs before hval0 hW _ _ _ hL hsh _
  have hval : ∀ (j : Nat) t v, Tryz.f5.params[j]? = some t → args[j]? = some v → Value.okWide Tryz.prog W .any base t v := hval0
  have hW' := hW
  obtain ⟨p, q, hA0, hV, rfl, hfz, hnd⟩ := hW
  have hA : DataW.TrodAll enc Tryz.prog W 0 (fun _ => true) true Tryz.f5.params.toList args.toList ds p := hA0
  rw [Tryz.params5] at hA hval
  obtain ⟨v0, vs0, d0, ds0, p0, q0, hargs, rfl, rfl, h0, r0⟩ := trodAll_cons hA
  obtain ⟨rfl, rfl, rfl⟩ := trodAll_nil r0
  obtain rfl : args = #[v0] := by cases args; simp_all
  obtain ⟨rfl, rfl⟩ := trodVars_none hV
  obtain ⟨a0, rfl, rfl, rfl, w0⟩ := open_int Tryz.underlying3 (hval 0 3 v0 rfl rfl) h0
  obtain ⟨cs, m, hm1, hm2, hm3, hm4⟩ := shaped_max (P := Tryz.prog) (gi := 0) (t := 3) (zero := #[.int .i64 0]) hsh (of_decide_eq_true (by kernel_rfl)) (by kernel_rfl) rfl (by kernel_rfl) (by kernel_rfl) Tryz.underlying3
  obtain ⟨cs0, u0, x0, hq0a, hq0b, hq0c⟩ := laid_opq (P := Tryz.prog) (n := "strconv.ErrSyntax") (g := 3) (t := 227) (t' := 227) (zero := #[.nilIface]) hL (by kernel_rfl) (List.mem_of_getElem? (i := 5) (show Rows.varsKnownRow.laid[5]? = some _ from rfl)) (by kernel_rfl) (by kernel_rfl) Tryz.underlying227 hsh (of_decide_eq_true (by kernel_rfl)) (by kernel_rfl)
  obtain ⟨cs1, u1, x1, hq1a, hq1b, hq1c⟩ := laid_opq (P := Tryz.prog) (n := "strconv.ErrRange") (g := 4) (t := 227) (t' := 227) (zero := #[.nilIface]) hL (by kernel_rfl) (List.mem_of_getElem? (i := 4) (show Rows.varsKnownRow.laid[4]? = some _ from rfl)) (by kernel_rfl) (by kernel_rfl) Tryz.underlying227 hsh (of_decide_eq_true (by kernel_rfl)) (by kernel_rfl)
  clear hA0 hval0 hsh
  refine (walk W a0 w0 m cs hm1 hm2 hm3 hm4 cs0 u0 x0 hq0a hq0b hq0c cs1 u1 x1 hq1a hq1b hq1c).mono fun e W' ⟨he, bel⟩ => ?_
  subst he
  exact ⟨_, rfl, _, _, _, [], _, [], hW', trodAll_mk1 (shut_bool Tryz.underlying4 _), (trodAll_cons_mk (shut_int Tryz.underlying3 w0) trodAll_mk0), rfl, bel.frame _, fun h => by cases h⟩

set_option maxHeartbeats 8000000 in
theorem facts : joinedFacts Tryz.pinned.checked.prog 5 Tryz.f5 (OpenSpec.ofChange Rows.varsKnownSpec).bare Rows.varsKnownRow = true := by
  unfold joinedFacts
  simp only [Bool.and_eq_true]
  and_intros <;> (as_aux_lemma => kernel_rfl)
theorem wrapped : Tryz.f5.isWrapper Tryz.pinned.checked.prog Rows.varsKnownRow.wrapper Rows.varsKnownRow.mainSum := by
  unfold Func.isWrapper; first | (rw [if_pos (by decide +kernel)]; kernel_rfl) | (rw [if_neg (by decide +kernel)]; exact ⟨rfl, rfl⟩)
theorem said : Rows.VarsKnownSaid :=
  OpenClaim.holds_of_cond 5 Tryz.f5 rfl rfl rfl rfl rfl rfl rfl ⟨rfl, rfl, rfl, rfl, rfl⟩ rfl rfl rfl rfl rfl (by kernel_rfl) Tryz.func5 facts
    (of_decide_eq_true (by kernel_rfl)) wrapped
    (fun os started H enc _ F => by rw [OpenClaim.pre_eq_preRow]; exact lifted os started H enc F)

theorem plain (f : FuncId) (fn : Func) (hf : Tryz.pinned.checked.prog.funcNamed "refectory/refectorylaw15.VarsKnown" = some f) (hfn : Tryz.pinned.checked.prog.funcs[f]? = some fn) :
    true = Tryz.pinned.checked.prog.looks [] ∧ ∀ (j : Nat) t, fn.params[j]? = some t → Tryz.pinned.checked.prog.wantsStandIn t = false := by
  obtain rfl : f = 5 := Option.some.inj ((show Tryz.prog.funcNamed "refectory/refectorylaw15.VarsKnown" = some 5 by kernel_rfl).symm.trans hf) |>.symm
  obtain rfl : fn = Tryz.f5 := (Option.some.inj (Tryz.func5.symm.trans hfn)).symm
  refine ⟨by kernel_rfl, fun j t ht => ?_⟩
  rw [Tryz.params5] at ht
  have ht := Array.mem_of_getElem? ht
  have ht : t = 3 := by simpa using ht
  rcases ht with rfl
  exact (show Tryz.prog.wantsStandIn 3 = false by kernel_rfl)

set_option maxHeartbeats 8000000 in
theorem card : Rows.VarsKnownCardSaid :=
  Claim7.holds_tied_plain_at .later [] _ _ _ _ said (fun _ h => by cases h) (by as_aux_lemma => kernel_rfl) (fun _ h => by cases h) varsKnown_row_tie rfl ⟨rfl, rfl⟩ (by as_aux_lemma => kernel_rfl) rfl plain (by as_aux_lemma => kernel_rfl)
end Go.Proofs.YtgphpcdkdfdphaaGreatDoor.evVarsKnown
namespace Go.Proofs.YtgphpcdkdfdphaaGreatDoor
theorem varsKnown_holds : Rows.VarsKnownCardSaid := evVarsKnown.card
end Go.Proofs.YtgphpcdkdfdphaaGreatDoor
#print axioms Go.Proofs.YtgphpcdkdfdphaaGreatDoor.varsKnown_holds
