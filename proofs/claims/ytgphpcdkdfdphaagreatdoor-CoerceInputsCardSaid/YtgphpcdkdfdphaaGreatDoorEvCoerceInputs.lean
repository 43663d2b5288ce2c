/- An input by its fields is coerced as the page says: the law CoerceInputs returns true for every number. Conditions: none. -/
import Derived.Test.YtgphpcdkdfdphaaGreatDoorEvD
import Derived.Test.YtgphpcdkdfdphaaGreatDoorCards
import Derived.Test.YtgphpcdkdfdphaaGreatDoorTie
import Derived.Test.YtgphpcdkdfdphaaGreatDoorIdxLay
import Derived.WalkKit
import Derived.ProofKit
import Derived.OpenShut
import Derived.Below
import Derived.Deep.DeepHandedRow
import Derived.Deep.DeepWitnessRowRef
import Derived.Lay
namespace Go.Proofs.YtgphpcdkdfdphaaGreatDoor.evCoerceInputs
open Go.ChangeShapes Go.WideShapes Go.ChangeAt Go.RowKit Go.Ev
set_option linter.unusedVariables false

noncomputable abbrev L0 : List (Nat × Ev.Obj) := [(0, maxObj 3), (3, opqObj 227 0), (4, opqObj 227 1)]
theorem size : Tryz.prog.funcs.size ≤ 4095 := of_decide_eq_true (by kernel_rfl)
theorem laidL : laidOK L0 = true := by kernel_rfl
theorem idxGood : GoodFn Tryz.prog 231 := goodFn_of (by kernel_rfl)
theorem idxOK (ρ : Rho) (base : Nat) (hf : ρ.fam = famOf L0) : OrcOK Tryz.prog (gsOf L0) ρ base (.idx 231 .nil) := orc_idx (gi := 0) (t := 3) idxGood (by rw [hf]; kernel_rfl) (by kernel_rfl) (fun s1 s2 m w h1 h2 => Tryz.stringslite_Index s1 s2 m w h1 h2) trivial
theorem awake : RC.isTrue (run (table Tryz.prog (gsOf L0)) (.idx 231 .nil) 1000 13 .nil (startOf L0)) = true := by kernel_rfl
theorem place : ([6] : List Nat).all (placeChk (table Tryz.prog (gsOf L0)) 100 10 (startOf L0)) = true := by kernel_rfl
theorem placeGood : GoodFn Tryz.prog 10 := goodFn_of (by kernel_rfl)
noncomputable def orc : Orc := .idx 231 (.place 10 [6] (.more 13 .nil (.bool true) (.nil)))
theorem orcOK (ρ : Rho) (base : Nat) (hf : ρ.fam = famOf L0) : OrcOK Tryz.prog (gsOf L0) ρ base orc := orc_idx (gi := 0) (t := 3) (rest := .place 10 [6] (.more 13 .nil (.bool true) (.nil))) idxGood (by rw [hf]; kernel_rfl) (by kernel_rfl) (fun s1 s2 m w h1 h2 => Tryz.stringslite_Index s1 s2 m w h1 h2) (orc_place (rest := .more 13 .nil (.bool true) (.nil)) size laidL hf place (orc_true (o := (.idx 231 .nil)) (rest := .nil) size laidL hf (fun base => idxOK ρ base hf) awake trivial) placeGood)
noncomputable def cases (j0 : Nat) : Bool := RC.isTrue (run (table Tryz.prog (gsOf L0)) orc 1000 3 (.cons (modArg 6 0 j0) (.nil)) (startOf L0))
theorem c_0 : cases 0 = true := by kernel_rfl
theorem c_1 : cases 1 = true := by kernel_rfl
theorem c_2 : cases 2 = true := by kernel_rfl
theorem c_3 : cases 3 = true := by kernel_rfl
theorem c_4 : cases 4 = true := by kernel_rfl
theorem c_5 : cases 5 = true := by kernel_rfl
theorem walk (w : World) (a0 : Int) (h0 : (Lit.int .i64 a0).wf = true) (m : Int) (cs : Array Value) (hm1 : w.heap[0]? = some (.cells cs 3 (0, 0))) (hm2 : cs.size = 1) (hm3 : cs[0]? = some (.int .i64 m)) (hm4 : -9223372036854775808 ≤ m ∧ m < 9223372036854775808) (cs0 : Array Value) (u0 : TypeId) (x0 : Value) (hq0a : w.heap[3]? = some (.cells cs0 227 (0, 0))) (hq0b : cs0.size = 1) (hq0c : cs0[0]? = some (.iface u0 x0)) (cs1 : Array Value) (u1 : TypeId) (x1 : Value) (hq1a : w.heap[4]? = some (.cells cs1 227 (0, 0))) (hq1b : cs1.size = 1) (hq1c : cs1[0]? = some (.iface u1 x1)) : Calls Tryz.prog 3 #[.int .i64 a0] w fun e w' => e = .returned (.bool true) ∧ Below w.heap.size w w' := by
  obtain ⟨l0, v0⟩ := vr_mod (L0 := L0) (vs := ([a0] ++ List.replicate 98 0 ++ [m])) (ov := (fun k => [.iface u0 x0, .iface u1 x1].getD k .nilIface)) (g := gInit L0 w) (w := 0) (m := 6) (wf_range h0) ⟨by omega, by omega⟩ rfl
  have hc : cases ((a0 % ((6 : Nat) : Int)).toNat) = true := by
    generalize (a0 % ((6 : Nat) : Int)).toNat = k0 at l0
    have e0 : k0 = 0 ∨ k0 = 1 ∨ k0 = 2 ∨ k0 = 3 ∨ k0 = 4 ∨ k0 = 5 := by omega
    rcases e0 with rfl | rfl | rfl | rfl | rfl | rfl
    · exact c_0
    · exact c_1
    · exact c_2
    · exact c_3
    · exact c_4
    · exact c_5
  exact law_calls (ρ := rhoOf L0 ([a0] ++ List.replicate 98 0 ++ [m]) (fun k => [.iface u0 x0, .iface u1 x1].getD k .nilIface)) size laidL rfl (init_cons (init_max hm1 hm2 hm3 hm4 rfl) (init_cons (init_opq hq0a hq0b hq0c rfl) (init_cons (init_opq hq1a hq1b hq1c rfl) init_nil))) (orcOK _ _ rfl) hc (.cons v0 (.nil))

theorem own : ownKnob Tryz.prog.godebug = none := by kernel_rfl
/-- the witness: the settled world, the tables laid -/
noncomputable def laidWorld (os : Os) : World := World.laidAll Tryz.prog os Rows.coerceInputsRow.laid
theorem laid_met (os : Os) (args : Array Value) : laidMet Tryz.prog Rows.coerceInputsRow.laid ((laidWorld os).forCall (fun _ _ => 0) ⟨#[], args, []⟩).memory :=
  laidMet_laidAll args (by kernel_rfl) (by kernel_rfl)
theorem witness_row (os : Os) {H : Type} (enc : TypeId × Value → H) :
    (OpenSpec.ofChange Rows.coerceInputsSpec).preRow enc Tryz.prog Tryz.f3 Rows.coerceInputsRow.domain false Rows.coerceInputsRow.laid ((laidWorld os).forCall (fun _ _ => 0) ⟨#[], #[.int .i64 0], []⟩).memory #[.int .i64 0] := by
  have hw : (DataW.whole enc Tryz.prog ((laidWorld os).forCall (fun _ _ => 0) ⟨#[], #[.int .i64 0], []⟩).memory Tryz.f3.params.toList (OpenSpec.ofChange Rows.coerceInputsSpec).vars false (#[.int .i64 0] : Array Value).toList 8).map (fun x => (x.1, x.2.1)) =
      some ([.lit (.int .i64 0)], []) := by kernel_rfl
  obtain ⟨⟨x1, x2, x3⟩, hx, hx1⟩ := Option.map_eq_some_iff.1 hw
  simp only [Prod.mk.injEq] at hx1
  obtain ⟨rfl, rfl⟩ := hx1
  exact OpenSpec.preRow_of_cond 8 hx (by kernel_rfl) (fun k hk => by cases hk) (by kernel_rfl) (laid_met os _)

set_option maxRecDepth 100000 in
theorem lifted (os : Os) (started : os.Started) (H : Type) (enc : TypeId × Value → H) (F : Stop.Interp) :
    ReturnsInHanded {} Tryz.checked os 3 .any ((OpenSpec.ofChange Rows.coerceInputsSpec).preRow enc Tryz.prog Tryz.f3 Rows.coerceInputsRow.domain false Rows.coerceInputsRow.laid) (((OpenSpec.ofChange Rows.coerceInputsSpec).at F).post enc Tryz.prog Tryz.f3 false true false false) := by
  refine returnsInHanded_of_row (C := Tryz.checked) (s := OpenSpec.ofChange Rows.coerceInputsSpec) own started (by kernel_rfl) Tryz.func3
    (witness_row_atRef (enc := enc) (C := Tryz.checked) false (laidWorld os) #[.int .i64 0] rfl (by kernel_rfl) (by kernel_rfl) (by kernel_rfl) (witness_row os enc)) ?_
  intro W base args ds gs before hval0 hW _ _ _ hL hsh _
  have hval : ∀ (j : Nat) t v, Tryz.f3.params[j]? = some t → args[j]? = some v → Value.okWide Tryz.prog W .any base t v := hval0
  have hW' := hW
  obtain ⟨p, q, hA0, hV, rfl, hfz, hnd⟩ := hW
  have hA : DataW.TrodAll enc Tryz.prog W 0 (fun _ => true) true Tryz.f3.params.toList args.toList ds p := hA0
  rw [Tryz.params3] at hA hval
  obtain ⟨v0, vs0, d0, ds0, p0, q0, hargs, rfl, rfl, h0, r0⟩ := trodAll_cons hA
  obtain ⟨rfl, rfl, rfl⟩ := trodAll_nil r0
  obtain rfl : args = #[v0] := by cases args; simp_all
  obtain ⟨rfl, rfl⟩ := trodVars_none hV
  obtain ⟨a0, rfl, rfl, rfl, w0⟩ := open_int Tryz.underlying3 (hval 0 3 v0 rfl rfl) h0
  obtain ⟨cs, m, hm1, hm2, hm3, hm4⟩ := shaped_max (P := Tryz.prog) (gi := 0) (t := 3) (zero := #[.int .i64 0]) hsh (of_decide_eq_true (by kernel_rfl)) (by kernel_rfl) rfl (by kernel_rfl) (by kernel_rfl) Tryz.underlying3
  obtain ⟨cs0, u0, x0, hq0a, hq0b, hq0c⟩ := laid_opq (P := Tryz.prog) (n := "strconv.ErrSyntax") (g := 3) (t := 227) (t' := 227) (zero := #[.nilIface]) hL (by kernel_rfl) (List.mem_of_getElem? (i := 5) (show Rows.coerceInputsRow.laid[5]? = some _ from rfl)) (by kernel_rfl) (by kernel_rfl) Tryz.underlying227 hsh (of_decide_eq_true (by kernel_rfl)) (by kernel_rfl)
  obtain ⟨cs1, u1, x1, hq1a, hq1b, hq1c⟩ := laid_opq (P := Tryz.prog) (n := "strconv.ErrRange") (g := 4) (t := 227) (t' := 227) (zero := #[.nilIface]) hL (by kernel_rfl) (List.mem_of_getElem? (i := 4) (show Rows.coerceInputsRow.laid[4]? = some _ from rfl)) (by kernel_rfl) (by kernel_rfl) Tryz.underlying227 hsh (of_decide_eq_true (by kernel_rfl)) (by kernel_rfl)
  clear hA0 hval0 hsh
  refine (walk W a0 w0 m cs hm1 hm2 hm3 hm4 cs0 u0 x0 hq0a hq0b hq0c cs1 u1 x1 hq1a hq1b hq1c).mono fun e W' ⟨he, bel⟩ => ?_
  subst he
  exact ⟨_, rfl, _, _, _, [], _, [], hW', trodAll_mk1 (shut_bool Tryz.underlying4 _), (trodAll_cons_mk (shut_int Tryz.underlying3 w0) trodAll_mk0), rfl, bel.frame _, fun h => by cases h⟩

set_option maxHeartbeats 8000000 in
theorem facts : joinedFacts Tryz.pinned.checked.prog 3 Tryz.f3 (OpenSpec.ofChange Rows.coerceInputsSpec).bare Rows.coerceInputsRow = true := by
  unfold joinedFacts
  simp only [Bool.and_eq_true]
  and_intros <;> (as_aux_lemma => kernel_rfl)
theorem wrapped : Tryz.f3.isWrapper Tryz.pinned.checked.prog Rows.coerceInputsRow.wrapper Rows.coerceInputsRow.mainSum := by
  unfold Func.isWrapper; first | (rw [if_pos (by decide +kernel)]; kernel_rfl) | (rw [if_neg (by decide +kernel)]; exact ⟨rfl, rfl⟩)
theorem said : Rows.CoerceInputsSaid :=
  OpenClaim.holds_of_cond 3 Tryz.f3 rfl rfl rfl rfl rfl rfl rfl ⟨rfl, rfl, rfl, rfl, rfl⟩ rfl rfl rfl rfl rfl (by kernel_rfl) Tryz.func3 facts
    (of_decide_eq_true (by kernel_rfl)) wrapped
    (fun os started H enc _ F => by rw [OpenClaim.pre_eq_preRow]; exact lifted os started H enc F)

theorem plain (f : FuncId) (fn : Func) (hf : Tryz.pinned.checked.prog.funcNamed "refectory/refectorylaw11.CoerceInputs" = some f) (hfn : Tryz.pinned.checked.prog.funcs[f]? = some fn) :
    true = Tryz.pinned.checked.prog.looks [] ∧ ∀ (j : Nat) t, fn.params[j]? = some t → Tryz.pinned.checked.prog.wantsStandIn t = false := by
  obtain rfl : f = 3 := Option.some.inj ((show Tryz.prog.funcNamed "refectory/refectorylaw11.CoerceInputs" = some 3 by kernel_rfl).symm.trans hf) |>.symm
  obtain rfl : fn = Tryz.f3 := (Option.some.inj (Tryz.func3.symm.trans hfn)).symm
  refine ⟨by kernel_rfl, fun j t ht => ?_⟩
  rw [Tryz.params3] at ht
  have ht := Array.mem_of_getElem? ht
  have ht : t = 3 := by simpa using ht
  rcases ht with rfl
  exact (show Tryz.prog.wantsStandIn 3 = false by kernel_rfl)

set_option maxHeartbeats 8000000 in
theorem card : Rows.CoerceInputsCardSaid :=
  Claim7.holds_tied_plain_at .later [] _ _ _ _ said (fun _ h => by cases h) (by as_aux_lemma => kernel_rfl) (fun _ h => by cases h) coerceInputs_row_tie rfl ⟨rfl, rfl⟩ (by as_aux_lemma => kernel_rfl) rfl plain (by as_aux_lemma => kernel_rfl)
end Go.Proofs.YtgphpcdkdfdphaaGreatDoor.evCoerceInputs
namespace Go.Proofs.YtgphpcdkdfdphaaGreatDoor
theorem coerceInputs_holds : Rows.CoerceInputsCardSaid := evCoerceInputs.card
end Go.Proofs.YtgphpcdkdfdphaaGreatDoor
#print axioms Go.Proofs.YtgphpcdkdfdphaaGreatDoor.coerceInputs_holds
