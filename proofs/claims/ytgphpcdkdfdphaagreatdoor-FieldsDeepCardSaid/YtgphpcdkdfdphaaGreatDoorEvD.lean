/- A reckoner for the model's code, proved sound: what it reckons true is returned, on every schedule, and nothing that was there turns: part D. Conditions: none. -/
import Derived.Test.YtgphpcdkdfdphaaGreatDoorEvC
import Derived.Scope
import Derived.Laws.BytesString
import Derived.Lib.Bytealg
import Derived.Lib.IndexEntry
import Derived.Lib.UnsafeStr
import Derived.Below
import GoSem.ClaimJoined
namespace Go.Ev
set_option linter.unusedVariables false

noncomputable def lkI (p : Plan) (ops : Array Oper) (nt i : Nat) : List (Nat × Nat) :=
  match ops[i]? with
  | some o => lkOf p ops nt i o
  | none => []

noncomputable def ddOf (p : Plan) (ops : Array Oper) (nt : Nat) (vs e0 : E2) (ts : List St) (alt : Option St) (s : St) : DD where
  B := p.B
  cls := p.cls
  val := fun i => E2.rd i vs
  env := fun i => envOf vs e0 (lkI p ops nt i)
  node := fun n => Nat.blt n p.N
  has := p.has
  T := fun n => (nodeSt ts alt n).getD s
  key := fun i => match keyOf (E2.rd i vs) with
    | some (k, _) => k
    | none => ⟨.x0, .x0, .x0, .x0⟩
  ver := fun i => match keyOf (E2.rd i vs) with
    | some (_, v) => v
    | none => 0

section
variable {P : Program} {gs : Nat → Bool} {ρ : Rho} {base nt : Nat} {ops : Array Oper} {p : Plan} {call : Nat → V → St → RC}

theorem entOrd_of (F : PlanFacts p ops nt) : ∀ {is : List Nat} {l : List DEnt}, entsOf P gs ops nt p is = some l → permOK p ops nt is = true → entOrd l
  | [], l, h, _ => by
    injection h with h
    subst h
    trivial
  | i :: is, l, h, hp => by
    have hmap := (ents_spec h).1
    simp only [entsOf] at h
    cases h1 : entOf P gs ops nt p i with
    | none => rw [h1] at h; cases h
    | some d =>
      cases h2 : entsOf P gs ops nt p is with
      | none => rw [h1, h2] at h; cases h
      | some l2 =>
        rw [h1, h2] at h
        injection h with h
        subst h
        obtain ⟨o, iop, dd, gd, e1, e2, e3, e4, e5, e6⟩ := ent_spec h1
        have hilt : i < ops.size := (Array.getElem?_eq_some_iff.1 e1).1
        have hmap2 := (ents_spec h2).1
        have hix : ∀ x ∈ l2, x.ix ∈ is := fun x hx => by rw [← hmap2]; exact List.mem_map.2 ⟨x, hx, rfl⟩
        unfold permOK at hp
        rw [e1] at hp
        simp only [Bool.and_eq_true, Bool.not_eq_true', List.contains_eq_mem, decide_eq_false_iff_not, List.all_eq_true] at hp
        obtain ⟨p1, p2, p4, p3⟩ := hp
        have hsz := F.size
        refine ⟨by rw [e6]; exact Nat.lt_of_lt_of_le hilt hsz, fun x hx he => p1 ?_, fun q hq => ?_, ?_, fun hk x hx h2k => ?_, entOrd_of F h2 p3⟩
        · have := hix x hx
          rw [he, e6] at this
          exact this
        · rw [e6] at hq ⊢
          obtain ⟨q1, q2, q3, _⟩ := lk_mem hq
          obtain ⟨q4, _⟩ := writer_spec q3
          obtain ⟨q5, q6⟩ := p2 q hq
          refine ⟨Nat.lt_of_lt_of_le q4 hsz, fun he => ?_, fun x hx he => q5 (he ▸ hix x hx)⟩
          rw [beq_iff.2 he] at q6
          cases q6
        · rw [e6]
          rcases e5 with ⟨h5, h6⟩ | ⟨h5, h6⟩ | h5
          · exact .inl ⟨h5, h6⟩
          · exact .inr (.inl ⟨h5, h6⟩)
          · exact .inr (.inr h5)
        · have hk : p.cls i = 1 := by rw [e6] at hk; exact hk
          obtain ⟨j, hj, hej⟩ := (ents_spec h2).2.1 x hx
          obtain ⟨_, _, _, _, _, _, _, _, _, f⟩ := ent_spec hej
          have h2k : p.cls j = 2 := by rw [f] at h2k; exact h2k
          simp only [Bool.or_eq_true, Bool.not_eq_true', List.all_eq_true] at p4
          rcases p4 with p4 | p4
          · rw [beq_iff.2 hk] at p4; cases p4
          · have := p4 j hj
            rw [beq_iff.2 h2k] at this; cases this

theorem has_le {n j : Nat} (hn : n ≤ p.effs.length) : p.has n j = true ↔ j ∈ p.effs.take n := by
  unfold Plan.has Plan.setOf
  rw [if_pos (ble_iff.2 hn)]
  simp

theorem has_alt {j : Nat} : p.has (p.effs.length + 1) j = true ↔ j ∈ p.effs.take (p.effs.length - 2) ∨ j ∈ p.effs.drop (p.effs.length - 1) := by
  unfold Plan.has Plan.setOf
  rw [if_neg (by rw [ble_iff]; omega)]
  simp

theorem bool_eq_iff {a b : Bool} (h : a = true ↔ b = true) : a = b := by
  cases a <;> cases b <;> simp at h ⊢

theorem store_noCall {op : IOp} (hs : isStore op = true) {e : E2} {s : St} {f : Nat} {as : V} {s1 : St} (h : evOp op e s = .call f as s1) : False := by
  cases op
  case st1 a x =>
    have h : withPtr (Opd.val a e) (fun f v o => store1 f v o (Opd.val x e) s) = .call f as s1 := h
    obtain ⟨f', i, o, hp, h⟩ := withPtr_inv h trivial
    have : FP f' s (store1 f' i o (Opd.val x e) s) := FP.bool trivial (FP.row fun _ _ _ => FP.bool (FP.bool trivial FP.write) FP.write)
    rw [h] at this
    exact this
  case stN sz a x =>
    have h : withPtr (Opd.val a e) (fun f v o => storeN sz f v o (Opd.val x e) s) = .call f as s1 := h
    obtain ⟨f', i, o, hp, h⟩ := withPtr_inv h trivial
    have : FP f' s (storeN sz f' i o (Opd.val x e) s) := by
      unfold storeN
      cases V.agg? (Opd.val x e) with
      | no => trivial
      | yes cs => exact FP.bool trivial (FP.row fun _ _ _ => FP.bool (FP.bool trivial FP.write) FP.write)
    rw [h] at this
    exact this
  all_goals (exact absurd hs (by simp [isStore]))

theorem EffFact.store {e0 : E2} {d : DEnt} {vs : E2} {t s' : St} (h : EffFact call e0 d vs t s') (hg : d.gd = .no) (hs : isStore d.op = true) : evOp d.op (envOf vs e0 d.lk) t = .ok (E2.rd d.ix vs) s' := by
  rcases h with ⟨h, _⟩ | ⟨_, h⟩ | ⟨_, f, as, s1, h, _⟩
  · rw [hg] at h; cases h
  · exact h
  · exact (store_noCall hs h).elim

theorem draw_ok {l : List DEnt} {dia : Option (DEnt × DEnt)} {vs e0 : E2} {s fin : St} {ts : List St} {alt : Option St} (F : PlanFacts p ops nt) (hl : entsOf P gs ops nt p p.perm = some l) (hdia : diaOf P gs ops nt p = some dia)
    (hp : ph1 call e0 l E2.empty s = .ok vs ts) (ha : altOf vs e0 ts dia = some alt) (hfin : ts[ts.length - 1]? = some fin) (hn : ∀ d ∈ l, (d.kind = 0 ∧ isPure d.op = true) ∨ chkNodes vs e0 ts alt d d.nodes = true) (hv : chkVers vs s.nx ts alt [] l = true) :
    DrawOK P gs ρ base nt ops call e0 s (envOf vs e0 (finsOf ops nt)) fin (ddOf p ops nt vs e0 ts alt s) := by
  obtain ⟨hmap, hent1, hent2, heffmap⟩ := ents_spec hl
  have heffmap : (l.filter isEff).map (·.ix) = p.effs := heffmap
  obtain ⟨_, ⟨t0, rest, hts0, hsub0, _⟩, hlen, heff⟩ := ph1_spec ρ base hp (entOrd_of F hl F.permOK)
  have hlen : ts.length = p.effs.length + 1 := by rw [hlen, ← heffmap, List.length_map]
  have hnd : p.effs.Nodup := (permOK_nodup F.permOK).filter _
  have hsz := F.size
  have hntle := F.ntle
  -- operations
  have hop : ∀ (i : Nat) (o : Oper), ops[i]? = some o → ∃ d ∈ l, ∃ iop dd gd, compOp P gs nt o.op = some iop ∧ compDst nt o.dst = some dd ∧ compGd ops nt o.guard = some gd ∧
      ((p.cls i = 0 ∧ isFloat iop = true) ∨ (p.cls i = 2 ∧ isFresh iop = true) ∨ p.cls i = 1) ∧ d.ix = i ∧ d.op = iop ∧ d.gd = gd ∧ d.lk = lkI p ops nt i ∧ d.kind = p.cls i ∧ (p.cls i ≠ 1 → d.nodes = p.nodesOf i) := by
    intro i o ho
    obtain ⟨d, hd, he⟩ := hent2 i (F.perm i (Array.getElem?_eq_some_iff.1 ho).1)
    obtain ⟨o', iop, dd, gd, e1, e2, e3, e4, e5, e6⟩ := ent_spec he
    rw [ho] at e1
    injection e1 with e1
    subst e1
    refine ⟨d, hd, iop, dd, gd, e2, e3, e4, e5, by rw [e6], by rw [e6], by rw [e6], ?_, by rw [e6], fun hc => ?_⟩
    · rw [e6]; unfold lkI; rw [ho]
    · rw [e6]
      show (bif Nat.beq (p.cls i) 1 then [] else p.nodesOf i) = _
      cases hb : Nat.beq (p.cls i) 1 with
      | true => exact absurd (beq_iff.1 hb) hc
      | false => rfl
  have hdix : ∀ d1 ∈ l, ∀ d2 ∈ l, d1.ix = d2.ix → d1 = d2 := by
    intro d1 h1 d2 h2 he
    obtain ⟨i1, _, e1⟩ := hent1 d1 h1
    obtain ⟨i2, _, e2⟩ := hent1 d2 h2
    obtain ⟨_, _, _, _, _, _, _, _, _, f1⟩ := ent_spec e1
    obtain ⟨_, _, _, _, _, _, _, _, _, f2⟩ := ent_spec e2
    have g1 : d1.ix = i1 := by rw [f1]
    have g2 : d2.ix = i2 := by rw [f2]
    have : i1 = i2 := by rw [← g1, ← g2, he]
    subst this
    rw [e1] at e2
    injection e2
  have heffs : ∀ (k i : Nat), p.effs[k]? = some i → p.cls i = 1 ∧ ∃ d t1 t2, d ∈ l ∧ d.ix = i ∧ ts[k]? = some t1 ∧ ts[k + 1]? = some t2 ∧ EffFact call e0 d vs t1 t2 := by
    intro k i hk
    have hm := List.mem_of_getElem? hk
    have hc : p.cls i = 1 := beq_iff.1 (List.mem_filter.1 hm).2
    rw [← heffmap, List.getElem?_map] at hk
    obtain ⟨d, hd, he⟩ := Option.map_eq_some_iff.1 hk
    obtain ⟨t1, t2, g1, g2, g4⟩ := heff k d hd
    exact ⟨hc, d, t1, t2, (List.mem_filter.1 (List.mem_of_getElem? hd)).1, he, g1, g2, g4⟩
  have hmem : ∀ i, i < ops.size → p.cls i = 1 → ∃ k : Nat, p.effs[k]? = some i := by
    intro i hi hc
    exact List.mem_iff_getElem?.1 (List.mem_filter.2 ⟨F.perm i hi, beq_iff.2 hc⟩)
  have hTle : ∀ {n : Nat} {t : St}, ts[n]? = some t → nodeSt ts alt n = some t := by
    intro n t h
    rw [nodeSt_eq]
    rw [h]
  have hT : ∀ {n : Nat} {t : St}, nodeSt ts alt n = some t → (ddOf p ops nt vs e0 ts alt s).T n = t := by
    intro n t h
    show (nodeSt ts alt n).getD s = t
    rw [h]; rfl
  have hNle : ∀ {n}, n < p.N → n ≤ p.effs.length ∨ (p.dia = true ∧ n = p.effs.length + 1) := by
    intro n h
    unfold Plan.N at h
    cases hd : p.dia with
    | true =>
      rw [hd] at h
      have h : n < p.effs.length + 2 := h
      rcases Nat.lt_or_ge p.effs.length n with h1 | h1
      · exact .inr ⟨rfl, by omega⟩
      · exact .inl h1
    | false =>
      rw [hd] at h
      have h : n < p.effs.length + 1 := h
      exact .inl (by omega)
  have hNlt : p.effs.length < p.N := by
    unfold Plan.N
    cases p.dia <;> simp
  have hfinm : ts[p.effs.length]? = some fin := by rw [hlen] at hfin; exact hfin
  -- the two stores at the end
  have hdia2 : p.dia = true → ∃ A B a b sA sb s4, A ∈ l ∧ B ∈ l ∧ A.ix = a ∧ B.ix = b ∧ p.effs[p.effs.length - 2]? = some a ∧ p.effs[p.effs.length - 1]? = some b ∧ A.gd = .no ∧ B.gd = .no ∧
      ts[p.effs.length - 2]? = some sA ∧ evOp B.op (envOf vs e0 B.lk) sA = .ok (E2.rd B.ix vs) sb ∧ evOp A.op (envOf vs e0 A.lk) sb = .ok (E2.rd A.ix vs) s4 ∧ alt = some sb ∧ Sub ρ base s4 fin := by
    intro hd
    have h2 := F.two hd
    unfold diaOf at hdia
    rw [hd] at hdia
    have hdia : (match p.effs[p.effs.length - 2]?, p.effs[p.effs.length - 1]? with
    | some a, some b => match entOf P gs ops nt p a, entOf P gs ops nt p b with
      | some A, some B => if isStore A.op && (isStore B.op && (Gd.isNo A.gd && Gd.isNo B.gd)) then some (some (A, B)) else none
      | _, _ => none
    | _, _ => none) = some dia := hdia
    cases h3 : p.effs[p.effs.length - 2]? with
    | none => rw [h3] at hdia; cases hdia
    | some a =>
      cases h4 : p.effs[p.effs.length - 1]? with
      | none => rw [h3, h4] at hdia; cases hdia
      | some b =>
        rw [h3, h4] at hdia
        dsimp only at hdia
        cases h5 : entOf P gs ops nt p a with
        | none => rw [h5] at hdia; cases hdia
        | some A =>
          cases h6 : entOf P gs ops nt p b with
          | none => rw [h5, h6] at hdia; cases hdia
          | some B =>
            rw [h5, h6] at hdia
            dsimp only at hdia
            split at hdia
            · rename_i hc
              injection hdia with hdia
              simp only [Bool.and_eq_true] at hc
              obtain ⟨c1, c2, c3, c4⟩ := hc
              obtain ⟨ca, da, tA1, tA2, da1, da2, da3, da4, da6⟩ := heffs _ a h3
              obtain ⟨cb, db, tB1, tB2, db1, db2, db3, db4, db6⟩ := heffs _ b h4
              obtain ⟨_, _, _, _, _, _, _, _, _, fA⟩ := ent_spec h5
              obtain ⟨_, _, _, _, _, _, _, _, _, fB⟩ := ent_spec h6
              have hAix : A.ix = a := by rw [fA]
              have hBix : B.ix = b := by rw [fB]
              obtain ⟨dA, hdA, heA⟩ := hent2 a (List.mem_filter.1 (List.mem_of_getElem? h3)).1
              obtain ⟨dB, hdB, heB⟩ := hent2 b (List.mem_filter.1 (List.mem_of_getElem? h4)).1
              rw [h5] at heA
              rw [h6] at heB
              injection heA with heA
              injection heB with heB
              have hda : da = A := hdix da da1 A (heA ▸ hdA) (da2.trans hAix.symm)
              have hdb : db = B := hdix db db1 B (heB ▸ hdB) (db2.trans hBix.symm)
              rw [hda] at da1 da6
              rw [hdb] at db1 db6
              rw [← hdia] at ha
              obtain ⟨sA, fin', sb, s4, ka, kb, e1, e2, e3, e4, e5, e6, e7, e8, e9⟩ := altOf_spec ha
              have hgA : A.gd = .no := by
                cases hg : A.gd with
                | no => rfl
                | is i w => rw [hg] at c3; cases c3
              have hgB : B.gd = .no := by
                cases hg : B.gd with
                | no => rfl
                | is i w => rw [hg] at c4; cases c4
              have hfe : fin' = fin := by rw [hfin] at e2; injection e2 with e2; exact e2.symm
              have hsA : sA = tA1 := by
                rw [hlen, show p.effs.length + 1 - 3 = p.effs.length - 2 by omega, da3] at e1
                injection e1 with e1; exact e1.symm
              have hBt : tB1 = tA2 := by
                rw [show p.effs.length - 2 + 1 = p.effs.length - 1 by omega, db3] at da4
                injection da4
              have hBf : tB2 = fin := by
                rw [show p.effs.length - 1 + 1 = p.effs.length by omega, hfinm] at db4
                injection db4 with db4; exact db4.symm
              have hA1 := da6.store hgA c1
              have hB1 := db6.store hgB c2
              rw [hBt, hBf] at hB1
              rw [← hsA] at hA1 da3
              rw [hfe] at e7 e8
              obtain ⟨k1, f1, f2⟩ := store_FP c1 hA1
              obtain ⟨k2, f3, f4⟩ := store_FP c2 hB1
              obtain ⟨k3, f5, f6⟩ := store_FP c2 e5
              obtain ⟨k4, f7, f8⟩ := store_FP c1 e6
              rw [e3] at f1 f7
              rw [e4] at f3 f5
              injection f1 with f1; injection f7 with f7; injection f3 with f3; injection f5 with f5
              subst f1 f3 f5 f7
              refine ⟨A, B, a, b, sA, sb, s4, da1, db1, hAix, hBix, rfl, rfl, hgA, hgB, da3, e5, e6, e9, Sub.ext ρ base ?_ ?_⟩
              · rw [f4.2.1, f2.2.1, f8.2.1, f6.2.1]
              · intro f
                by_cases h1 : f = ka
                · rw [h1]; exact e7.symm
                · by_cases h2 : f = kb
                  · rw [h2]; exact e8.symm
                  · rw [f4.2.2 f h2, f2.2.2 f h1, f8.2.2 f h1, f6.2.2 f h2]
            · cases hdia
  refine ⟨F.anc, ?_, F.dst1, ?_, ?_, ?_, ?_, ?_, ?_, ?_, ?_, ?_, ?_⟩
  · intro j hj hc
    have hc : p.cls j = 1 := hc
    unfold Plan.cls at hc
    rw [List.getD_eq_getElem?_getD, List.getElem?_eq_none (Nat.le_trans F.kinds hj)] at hc
    cases hc
  · intro i o ho t ht hlk
    show _ ∨ (_ ∧ E2.rd t (envOf vs e0 (lkI p ops nt i)) = _)
    have hlki : lkI p ops nt i = lkOf p ops nt i o := by unfold lkI; rw [ho]
    have h256 : ∀ q ∈ lkI p ops nt i, q.1 < 256 := fun q hq => by rw [hlki] at hq; exact Nat.lt_of_lt_of_le (lk_mem hq).1 hntle
    have ht256 := Nat.lt_of_lt_of_le ht hntle
    cases hw : writer ops t with
    | some j =>
      obtain ⟨hj, oj, hoj, hd⟩ := writer_spec hw
      by_cases hbj : i ∈ p.B j
      · refine .inr ⟨fun j' oj' hj' hd' => ?_, envOf_none ht256 h256 fun q hq he => ?_⟩
        · rw [F.dst1 j' j oj' oj t hj' hoj hd' hd]; exact hbj
        · rw [hlki] at hq
          obtain ⟨_, _, h3, h4⟩ := lk_mem hq
          rw [he, hw] at h3
          injection h3 with h3
          exact h4 (h3 ▸ hbj)
      · have hm : (t, j) ∈ lkI p ops nt i := by rw [hlki]; exact lk_of hlk ht hw hbj
        refine .inl ⟨j, oj, hoj, hd, F.lk i o ho (t, j) (by rw [← hlki]; exact hm), ?_⟩
        show E2.rd t (envOf vs e0 (lkI p ops nt i)) = E2.rd j vs
        refine envOf_some ht256 h256 (fun q hq he => ?_) hm
        rw [hlki] at hq
        have := (lk_mem hq).2.2.1
        rw [he, hw] at this
        injection this with this
        exact this.symm
    | none =>
      refine .inr ⟨fun j oj hj hd => absurd hd (writer_none hw j oj hj), envOf_none ht256 h256 fun q hq he => ?_⟩
      rw [hlki] at hq
      have := (lk_mem hq).2.2.1
      rw [he, hw] at this
      cases this
  · intro i o ho t ht hlk
    show E2.rd t (envOf vs e0 (lkI p ops nt i)) = _
    have hlki : lkI p ops nt i = lkOf p ops nt i o := by unfold lkI; rw [ho]
    refine envOf_none (Nat.lt_of_lt_of_le ht hntle) (fun q hq => by rw [hlki] at hq; exact Nat.lt_of_lt_of_le (lk_mem hq).1 hntle) fun q hq he => ?_
    rw [hlki] at hq
    exact hlk (he ▸ (lk_mem hq).2.1)
  · intro i j hi hj hci hcj he
    obtain ⟨di, hdi, _, _, _, _, _, _, _, hii, _, _, _, hki, _⟩ := hop i _ (Array.getElem?_eq_getElem hi)
    obtain ⟨dj, hdj, _, _, _, _, _, _, _, hjj, _, _, _, hkj, _⟩ := hop j _ (Array.getElem?_eq_getElem hj)
    obtain ⟨k1, v1, a1, _⟩ := (chkVers_spec hv).1 di hdi (hki.trans hci)
    obtain ⟨k2, v2, a2, _⟩ := (chkVers_spec hv).1 dj hdj (hkj.trans hcj)
    have b1 : (ddOf p ops nt vs e0 ts alt s).key i = k1 := by
      show (match keyOf (E2.rd i vs) with | some (k, _) => k | none => _) = k1
      rw [← hii, a1]
    have b2 : (ddOf p ops nt vs e0 ts alt s).key j = k2 := by
      show (match keyOf (E2.rd j vs) with | some (k, _) => k | none => _) = k2
      rw [← hjj, a2]
    have hkk : k1 = k2 := by rw [← b1, ← b2]; exact he
    subst hkk
    have := (chkVers_spec hv).2 di hdi dj hdj (hki.trans hci) (hkj.trans hcj) k1 v1 v2 a1 a2
    rw [← hii, ← hjj, this]
  · intro i n hi hc hnode
    obtain ⟨di, hdi, _, _, _, _, _, _, _, hii, _, _, _, hki, _⟩ := hop i _ (Array.getElem?_eq_getElem hi)
    obtain ⟨k1, v1, a1, a2, a3, a4, _⟩ := (chkVers_spec hv).1 di hdi (hki.trans hc)
    have b1 : (ddOf p ops nt vs e0 ts alt s).ver i = v1 := by
      show (match keyOf (E2.rd i vs) with | some (_, v) => v | none => _) = v1
      rw [← hii, a1]
    rw [b1]
    have hnN : n < p.N := blt_iff.1 hnode
    rcases hNle hnN with h | ⟨hd, h⟩
    · have hlt : n < ts.length := by rw [hlen]; omega
      have hg : ts[n]? = some ts[n] := List.getElem?_eq_getElem hlt
      rw [hT (hTle hg)]
      exact a3 _ (List.mem_of_getElem? hg)
    · obtain ⟨A, B, a, b, sA, sb, s4, _, _, _, _, _, _, _, _, _, _, _, halt, _⟩ := hdia2 hd
      have : nodeSt ts alt n = some sb := by
        rw [nodeSt_eq]
        rw [List.getElem?_eq_none (by rw [hlen]; omega)]
        exact halt
      rw [hT this]
      exact a4 sb halt
  · intro i hi hc
    obtain ⟨di, hdi, _, _, _, _, _, _, _, hii, _, _, _, hki, _⟩ := hop i _ (Array.getElem?_eq_getElem hi)
    obtain ⟨k1, v1, a1, a2, a3, a4, _⟩ := (chkVers_spec hv).1 di hdi (hki.trans hc)
    have b1 : (ddOf p ops nt vs e0 ts alt s).ver i = v1 := by
      show (match keyOf (E2.rd i vs) with | some (_, v) => v | none => _) = v1
      rw [← hii, a1]
    rw [b1]
    exact a2
  · refine ⟨blt_iff.2 (by have := hNlt; omega), fun j _ => ?_, ?_⟩
    · show p.has 0 j = false
      cases hh : p.has 0 j with
      | false => rfl
      | true => have := (has_le (Nat.zero_le _)).1 hh; simp at this
    · rw [hT (hTle (show ts[0]? = some t0 by rw [hts0]; rfl))]
      exact hsub0
  · intro i o ho
    have hilt : i < ops.size := (Array.getElem?_eq_some_iff.1 ho).1
    obtain ⟨d, hd, iop, dd, gd, e1, e2, e3, e4, hix, hdop, hdgd, hdlk, hdk, hdn⟩ := hop i o ho
    refine ⟨iop, dd, gd, e1, e2, e3, fun n hnode hcompat => ?_⟩
    have hnN : n < p.N := blt_iff.1 hnode
    have henv : (ddOf p ops nt vs e0 ts alt s).env i = envOf vs e0 d.lk := by rw [hdlk]; rfl
    have hval : (ddOf p ops nt vs e0 ts alt s).val i = E2.rd d.ix vs := by rw [hix]; rfl
    rw [henv, hval, ← hdop, ← hdgd]
    have hcompatB : p.compatB i n = true := by
      unfold Plan.compatB
      simp only [Bool.and_eq_true, List.all_eq_true]
      refine ⟨fun j hj => ?_, fun j hj => ?_⟩
      · by_cases hc : p.cls j = 1
        · have := hcompat.1 j hj hc
          have this : p.has n j = true := this
          rw [this, Bool.or_true]
        · cases hb : Nat.beq (p.cls j) 1 with
          | true => exact absurd (beq_iff.1 hb) hc
          | false => rfl
      · have hc : p.cls j = 1 := beq_iff.1 (List.mem_filter.1 hj).2
        by_cases hm : i ∈ p.B j
        · have := hcompat.2.1 j hc hm
          have this : p.has n j = false := this
          rw [this]; simp
        · simp [hm]
    have hin : n ∈ p.nodesOf i := List.mem_filter.2 ⟨List.mem_range.2 hnN, hcompatB⟩
    rcases e4 with ⟨hc, hf⟩ | ⟨hc, hf⟩ | hc
    · rcases hn d hd with ⟨_, hpu⟩ | hn
      · obtain ⟨t1, t2, hef⟩ := ph1_fact ρ base hp (entOrd_of F hl F.permOK) d hd
        rcases hef with ⟨h1, h2, _⟩ | ⟨h1, h2⟩ | ⟨_, f, as, s1, h2, _⟩
        · exact .inl ⟨hc, h1, h2⟩
        · refine .inr (.inl ⟨hc, h1, ?_⟩)
          generalize (ddOf p ops nt vs e0 ts alt s).T n = st
          obtain ⟨s2, h3⟩ : ∃ s2, evOp d.op (envOf vs e0 d.lk) st = .ok (E2.rd d.ix vs) s2 := by
            have := evOp_PU hpu (envOf vs e0 d.lk) t1 st
            rw [h2] at this
            exact this
          have hk := evOp_KP (hdop ▸ hf) (envOf vs e0 d.lk) st
          rw [h3] at hk
          have hk : s2 = st := hk
          rw [h3, hk]
        · have hk := evOp_KP (hdop ▸ hf) (envOf vs e0 d.lk) t1
          rw [h2] at hk
          exact hk.elim
      have hdn := hdn (by rw [hc]; decide)
      obtain ⟨st, hst, hchk⟩ := chkNodes_mem hn (hdn ▸ hin)
      rw [hT hst]
      have hchk : chkFloat vs e0 d st = true := by
        unfold chkNode at hchk
        rw [hdk, hc] at hchk
        exact hchk
      rcases chkFloat_spec (hdop ▸ hf) hchk with ⟨h1, h2⟩ | ⟨h1, h2⟩
      · exact .inl ⟨hc, h1, h2⟩
      · exact .inr (.inl ⟨hc, h1, h2⟩)
    · have hdn := hdn (by rw [hc]; decide)
      have hn : chkNodes vs e0 ts alt d d.nodes = true := by
        rcases hn d hd with ⟨h0, _⟩ | hn
        · rw [hdk, hc] at h0; cases h0
        · exact hn
      obtain ⟨st, hst, hchk⟩ := chkNodes_mem hn (hdn ▸ hin)
      rw [hT hst]
      have hchk : chkAlloc vs e0 d st = true := by
        unfold chkNode at hchk
        rw [hdk, hc] at hchk
        exact hchk
      obtain ⟨k, v, h1, h2, sA', h3, h4⟩ := chkAlloc_spec hchk
      have b1 : (ddOf p ops nt vs e0 ts alt s).key i = k := by
        show (match keyOf (E2.rd i vs) with | some (k, _) => k | none => _) = k
        rw [← hix, h1]
      have b2 : (ddOf p ops nt vs e0 ts alt s).ver i = v := by
        show (match keyOf (E2.rd i vs) with | some (_, v) => v | none => _) = v
        rw [← hix, h1]
      exact .inr (.inr (.inr ⟨hc, h2, by rw [hdop]; exact hf, _, sA', h3, b1.symm, b2.symm, by rw [b1]; exact h4⟩))
    · refine .inr (.inr (.inl ⟨hc, ?_⟩))
      obtain ⟨k, hk⟩ := hmem i hilt hc
      obtain ⟨_, d', t1, t2, hd', hix', ht1, ht2, hfact⟩ := heffs k i hk
      have hdd : d' = d := hdix d' hd' d hd (hix'.trans hix.symm)
      rw [hdd] at hfact
      have hklt : k < p.effs.length := (List.getElem?_eq_some_iff.1 hk).1
      have hno : p.has n i = false := hcompat.2.2 hc
      have hwhat : ∀ {s' : St}, EffFact call e0 d vs t1 s' → (Gd.ok d.gd (envOf vs e0 d.lk) = false ∧ E2.rd d.ix vs = .undef ∧ s' = t1) ∨ (Gd.ok d.gd (envOf vs e0 d.lk) = true ∧ evOp d.op (envOf vs e0 d.lk) t1 = .ok (E2.rd d.ix vs) s') ∨
          (Gd.ok d.gd (envOf vs e0 d.lk) = true ∧ ∃ f as s1, evOp d.op (envOf vs e0 d.lk) t1 = .call f as s1 ∧ call f as s1 = .ok (E2.rd d.ix vs) s') := fun h => h
      rcases hNle hnN with hle | ⟨hd1, hn1⟩
      · have hnk : n ≤ k := by
          rcases Nat.lt_or_ge k n with h | h
          · have := (has_le hle).2 ((mem_take_idx hnd hk).2 h)
            rw [hno] at this; cases this
          · exact h
        rcases Nat.lt_or_ge n k with hlt | hge
        · -- the other way round
          have hnl : n < p.effs.length := by omega
          have hx : p.effs[n]? = some p.effs[n] := List.getElem?_eq_getElem hnl
          generalize p.effs[n] = x at hx
          have hcx := (heffs n x hx).1
          rcases pairsOK_idx F.pairs hx hk hlt with hB | ⟨hdia1, hn2⟩
          · have := hcompat.1 x hB hcx
            have this : p.has n x = true := this
            have := (has_le hle).1 this
            rw [mem_take_idx hnd hx] at this
            exact absurd this (Nat.lt_irrefl _)
          · obtain ⟨A, B, a, b, sA, sb, s4, hA, hB, hAix, hBix, ha', hb', hgA, hgB, hsA, hev1, hev2, halt, hsub⟩ := hdia2 hdia1
            have hkb : k = p.effs.length - 1 := by omega
            have hib : i = b := by rw [hkb, hb'] at hk; injection hk with hk; exact hk.symm
            have hdB : d = B := hdix d hd B hB (by rw [hix, hBix, hib])
            have hnn : n = p.effs.length - 2 := by omega
            have hst : nodeSt ts alt (p.effs.length + 1) = some sb := by
              rw [nodeSt_eq]
              rw [List.getElem?_eq_none (by rw [hlen]; omega)]
              exact halt
            have hTn : (ddOf p ops nt vs e0 ts alt s).T n = sA := hT (hTle (by rw [hnn]; exact hsA))
            rw [hTn, hdB]
            refine ⟨p.effs.length + 1, sb, blt_iff.2 (by unfold Plan.N; rw [hdia1]; exact Nat.lt_succ_self _), fun j => ?_, by rw [hT hst]; exact .refl _ _ _, .inr (.inl ⟨by rw [hgB]; rfl, hev1⟩)⟩
            show p.has (p.effs.length + 1) j = (p.has n j || j == i)
            apply bool_eq_iff
            rw [has_alt, Bool.or_eq_true, has_le hle, hnn, beq_iff_eq]
            have hdrop : p.effs.drop (p.effs.length - 1) = [b] := by
              have h1 : p.effs.length - 1 < p.effs.length := by omega
              rw [List.drop_eq_getElem_cons h1]
              have h2 : p.effs[p.effs.length - 1] = b := by
                rw [List.getElem?_eq_getElem h1] at hb'
                injection hb'
              rw [h2, List.drop_eq_nil_of_le (by omega)]
            rw [hdrop, List.mem_singleton, hib]
        · have hnk' : n = k := by omega
          subst hnk'
          rw [hT (hTle ht1)]
          refine ⟨n + 1, t2, blt_iff.2 (by have := hNlt; omega), fun j => ?_, by rw [hT (hTle ht2)]; exact .refl _ _ _, hwhat hfact⟩
          show p.has (n + 1) j = (p.has n j || j == i)
          apply bool_eq_iff
          rw [has_le (by omega), Bool.or_eq_true, has_le hle, beq_iff_eq, List.take_add_one, hk]
          simp
      · obtain ⟨A, B, a, b, sA, sb, s4, hA, hB, hAix, hBix, ha', hb', hgA, hgB, hsA, hev1, hev2, halt, hsub⟩ := hdia2 hd1
        have h2 := F.two hd1
        subst hn1
        have hka : k = p.effs.length - 2 := by
          rcases Nat.lt_trichotomy k (p.effs.length - 2) with h | h | h
          · have := has_alt.2 (.inl ((mem_take_idx hnd hk).2 h))
            rw [hno] at this; cases this
          · exact h
          · have hkb : k = p.effs.length - 1 := by omega
            have hm : i ∈ p.effs.drop (p.effs.length - 1) := List.mem_of_getElem? (i := 0) (by rw [List.getElem?_drop, Nat.add_zero, ← hkb]; exact hk)
            have := has_alt.2 (.inr hm)
            rw [hno] at this; cases this
        have hia : i = a := by rw [hka, ha'] at hk; injection hk with hk; exact hk.symm
        have hdA : d = A := hdix d hd A hA (by rw [hix, hAix, hia])
        have hst : nodeSt ts alt (p.effs.length + 1) = some sb := by
          rw [nodeSt_eq]
          rw [List.getElem?_eq_none (by rw [hlen]; omega)]
          exact halt
        rw [hT hst, hdA]
        refine ⟨p.effs.length, s4, blt_iff.2 hNlt, fun j => ?_, by rw [hT (hTle hfinm)]; exact hsub, .inr (.inl ⟨by rw [hgA]; rfl, hev2⟩)⟩
        show p.has p.effs.length j = (p.has (p.effs.length + 1) j || j == i)
        apply bool_eq_iff
        rw [has_le (Nat.le_refl _), Bool.or_eq_true, has_alt, beq_iff_eq, List.take_length, hia]
        have hsplit : p.effs = p.effs.take (p.effs.length - 2) ++ a :: p.effs.drop (p.effs.length - 1) := by
          have h1 : p.effs.length - 2 < p.effs.length := by omega
          have h3 : p.effs[p.effs.length - 2] = a := by
            rw [List.getElem?_eq_getElem h1] at ha'
            injection ha'
          have := List.take_append_drop (p.effs.length - 2) p.effs
          rw [List.drop_eq_getElem_cons h1, h3, show p.effs.length - 2 + 1 = p.effs.length - 1 by omega] at this
          exact this.symm
        have hmm : j ∈ p.effs ↔ j ∈ p.effs.take (p.effs.length - 2) ++ a :: p.effs.drop (p.effs.length - 1) := by rw [← hsplit]
        rw [hmm, List.mem_append, List.mem_cons]
        constructor
        · rintro (h | h | h)
          · exact .inl (.inl h)
          · exact .inr h
          · exact .inl (.inr h)
        · rintro ((h | h) | h)
          · exact .inl h
          · exact .inr (.inr h)
          · exact .inr (.inl h)
  · intro n hnode hall
    have hnN : n < p.N := blt_iff.1 hnode
    have hlt_of : ∀ {k x : Nat}, p.effs[k]? = some x → x < ops.size ∧ p.cls x = 1 := by
      intro k x hx
      obtain ⟨hc, d', t1, t2, hd', hix', _⟩ := heffs k x hx
      obtain ⟨i', _, he'⟩ := hent1 d' hd'
      obtain ⟨o', _, _, _, ho', _, _, _, _, f⟩ := ent_spec he'
      have : d'.ix = i' := by rw [f]
      rw [hix'] at this
      subst this
      exact ⟨(Array.getElem?_eq_some_iff.1 ho').1, hc⟩
    rcases hNle hnN with hle | ⟨hd1, hn1⟩
    · have hnm : n = p.effs.length := by
        rcases Nat.lt_or_ge n p.effs.length with h | h
        · have hx : p.effs[n]? = some p.effs[n] := List.getElem?_eq_getElem h
          obtain ⟨h1, h2⟩ := hlt_of hx
          have := hall _ h1 h2
          have := (has_le hle).1 this
          rw [mem_take_idx hnd hx] at this
          exact absurd this (Nat.lt_irrefl _)
        · omega
      subst hnm
      rw [hT (hTle hfinm)]
      exact .refl _ _ _
    · obtain ⟨A, B, a, b, sA, sb, s4, hA, hB, hAix, hBix, ha', hb', hgA, hgB, hsA, hev1, hev2, halt, hsub⟩ := hdia2 hd1
      have h2 := F.two hd1
      obtain ⟨h1, h3⟩ := hlt_of ha'
      have := hall _ h1 h3
      subst hn1
      exfalso
      rcases has_alt.1 this with h | h
      · rw [mem_take_idx hnd ha'] at h
        exact absurd h (Nat.lt_irrefl _)
      · obtain ⟨j, hj⟩ := List.mem_iff_getElem?.1 h
        rw [List.getElem?_drop] at hj
        have := nodup_idx hnd ha' hj
        omega
  · intro t ht i o ho hd
    have ht256 := Nat.lt_of_lt_of_le ht hntle
    refine envOf_some ht256 (fun q hq => Nat.lt_of_lt_of_le (fins_mem hq).1 hntle) (fun q hq he => ?_) (fins_of ho hd ht)
    obtain ⟨_, o', ho', hd'⟩ := fins_mem hq
    rw [he] at hd'
    exact F.dst1 q.2 i o' o t ho' ho hd' hd
  · intro t ht hno
    refine envOf_none (Nat.lt_of_lt_of_le ht hntle) (fun q hq => Nat.lt_of_lt_of_le (fins_mem hq).1 hntle) fun q hq he => ?_
    obtain ⟨_, o', ho', hd'⟩ := fins_mem hq
    exact hno q.2 o' ho' (he ▸ hd')
end
end Go.Ev

namespace Go.Ev
set_option linter.unusedVariables false

/-! ## The fast ones are the plain ones -/
section
variable {α β : Type}
theorem fAll_eq (p : α → Bool) : ∀ l : List α, fAll p l = l.all p
  | [] => rfl
  | h :: t => by
    have e : fAll p (h :: t) = Bool.rec (motive := fun _ => Bool) false (fAll p t) (p h) := rfl
    rw [e, fAll_eq p t, List.all_cons]
    cases p h <;> rfl
theorem fAny_eq (p : α → Bool) : ∀ l : List α, fAny p l = l.any p
  | [] => rfl
  | h :: t => by
    have e : fAny p (h :: t) = Bool.rec (motive := fun _ => Bool) (fAny p t) true (p h) := rfl
    rw [e, fAny_eq p t, List.any_cons]
    cases p h <;> rfl
theorem fMem_eq (a : Nat) : ∀ l : List Nat, fMem a l = l.contains a
  | [] => rfl
  | h :: t => by
    have e : fMem a (h :: t) = Bool.rec (motive := fun _ => Bool) (fMem a t) true (Nat.beq a h) := rfl
    rw [e, fMem_eq a t, List.contains_cons]
    have hb : (a == h) = Nat.beq a h := by
      rw [Bool.eq_iff_iff, beq_iff_eq]
      exact ⟨fun h => by subst h; exact Nat.beq_refl a, Nat.eq_of_beq_eq_true⟩
    rw [hb]
    cases Nat.beq a h <;> rfl
theorem fFilter_eq (p : α → Bool) : ∀ l : List α, fFilter p l = l.filter p
  | [] => rfl
  | h :: t => by
    have e : fFilter p (h :: t) = Bool.rec (motive := fun _ => List α) (fFilter p t) (h :: fFilter p t) (p h) := rfl
    rw [e, fFilter_eq p t, List.filter_cons]
    cases p h <;> rfl
theorem fGet?_eq : ∀ (l : List α) (i : Nat), fGet? l i = l[i]?
  | [], i => by simp only [List.getElem?_nil]; rfl
  | h :: t, 0 => rfl
  | h :: t, i + 1 => by
    rw [List.getElem?_cons_succ]
    exact fGet?_eq t i
theorem fGetD_eq : ∀ (l : List α) (d : α) (i : Nat), fGetD l d i = l.getD i d
  | [], d, i => by simp only [List.getD_nil]; rfl
  | h :: t, d, 0 => rfl
  | h :: t, d, i + 1 => by
    rw [List.getD_cons_succ]
    exact fGetD_eq t d i
theorem band_and (a b : Bool) : band a b = (a && b) := by cases a <;> rfl
theorem bnot_not (a : Bool) : bnot a = !a := by cases a <;> rfl
theorem brec_or (a b : Bool) : (Bool.rec (motive := fun _ => Bool) b true a : Bool) = (a || b) := by cases a <;> rfl
theorem brec_imp (a b : Bool) : (Bool.rec (motive := fun _ => Bool) true b a : Bool) = (!a || b) := by cases a <;> rfl
/-- with places, over an array's list -/
theorem fAllI_eq (p : Nat → α → Bool) : ∀ (l : List α) (k : Nat), fAllI p l k = ((List.range l.length).all fun i => Option.rec (motive := fun _ => Bool) false (fun x => p (k + i) x) l[i]?)
  | [], k => rfl
  | h :: t, k => by
    have e : fAllI p (h :: t) k = Bool.rec (motive := fun _ => Bool) false (fAllI p t (k + 1)) (p k h) := rfl
    rw [e, fAllI_eq p t (k + 1), List.length_cons, List.range_succ_eq_map, List.all_cons, List.all_map]
    have e2 : (fun i => (Option.rec (motive := fun _ => Bool) false (fun x => p (k + 1 + i) x) t[i]? : Bool)) = ((fun i => (Option.rec (motive := fun _ => Bool) false (fun x => p (k + i) x) (h :: t)[i]? : Bool)) ∘ Nat.succ) := by
      funext i
      show _ = (Option.rec (motive := fun _ => Bool) false (fun x => p (k + (i + 1)) x) (h :: t)[i + 1]? : Bool)
      rw [List.getElem?_cons_succ, show k + 1 + i = k + (i + 1) by omega]
    rw [e2]
    show Bool.rec (motive := fun _ => Bool) false _ (p k h) = (p (k + 0) h && _)
    rw [Nat.add_zero]
    cases p k h <;> rfl
end

theorem dstIsF_eq (ops : Array Oper) (t j : Nat) : dstIs ops t j = match ops.toList[j]? with | some o => dstIsF t o | none => false := by
  unfold dstIs
  rw [Array.getElem?_toList]
  cases ops[j]? with
  | none => rfl
  | some o =>
    show (o.dst == some t) = dstIsF t o
    unfold dstIsF
    cases o.dst with
    | none => rfl
    | some u =>
      show (some u == some t) = Nat.beq u t
      rw [Bool.eq_iff_iff, beq_iff_eq]
      exact ⟨fun h => by injection h with h; subst h; exact Nat.beq_refl u, fun h => by rw [Nat.eq_of_beq_eq_true h]⟩

theorem writerF_eq (t : Nat) : ∀ (l : List Oper) (k : Nat), writerF t l k = ((List.range l.length).find? (fun i => match l[i]? with | some o => dstIsF t o | none => false)).map (k + ·)
  | [], k => rfl
  | h :: l, k => by
    have e : writerF t (h :: l) k = Bool.rec (motive := fun _ => Option Nat) (writerF t l (k + 1)) (some k) (dstIsF t h) := rfl
    rw [e, writerF_eq t l (k + 1), List.length_cons, List.range_succ_eq_map, List.find?_cons]
    show _ = Option.map _ (match dstIsF t h with | true => some 0 | false => _)
    cases dstIsF t h with
    | true => rfl
    | false =>
      show Option.map (k + 1 + ·) _ = Option.map (k + ·) _
      rw [List.find?_map, Option.map_map]
      have e2 : (fun i => match l[i]? with | some o => dstIsF t o | none => false) = ((fun i => match (h :: l)[i]? with | some o => dstIsF t o | none => false) ∘ Nat.succ) := by
        funext i
        show _ = (match (h :: l)[i + 1]? with | some o => dstIsF t o | none => false)
        rw [List.getElem?_cons_succ]
      rw [e2]
      congr 1
      funext i
      show k + 1 + i = k + (i + 1)
      omega

theorem writer_eq (ops : Array Oper) (t : Nat) : writerF t ops.toList 0 = writer ops t := by
  rw [writerF_eq]
  unfold writer
  have e : dstIs ops t = fun i => match ops.toList[i]? with | some o => dstIsF t o | none => false := by funext j; exact dstIsF_eq ops t j
  rw [e, Array.length_toList]
  cases List.find? (fun i => match ops.toList[i]? with | some o => dstIsF t o | none => false) (List.range ops.size) with
  | none => rfl
  | some j => simp

theorem lkOfF_eq (p : Plan) (ops : Array Oper) (nt i : Nat) (o : Oper) : lkOfF p ops nt i o = lkOf p ops nt i o := by
  unfold lkOfF lkOf lkOf0
  induction o.looksAt ops with
  | nil => rfl
  | cons t l ih =>
    show Bool.rec (motive := fun _ => List (Nat × Nat)) _ (Option.rec (motive := fun _ => List (Nat × Nat)) _ _ (writerF t ops.toList 0)) (Nat.blt t nt) = _
    rw [List.filterMap_cons, writer_eq]
    cases Nat.blt t nt with
    | false => simpa using ih
    | true =>
      cases hw : writer ops t with
      | none => simpa using ih
      | some j =>
        show Bool.rec (motive := fun _ => List (Nat × Nat)) ((t, j) :: _) _ (fMem i (fGetD p.Bt [] j)) = _
        rw [fMem_eq, fGetD_eq]
        simp only [if_true, Option.map_some, List.filter_cons]
        show _ = if (!(p.Bt.getD j []).contains i) = true then _ else _
        cases (p.Bt.getD j []).contains i with
        | true => simpa using ih
        | false => simp only [Bool.not_false, if_true]; exact congrArg _ ih

theorem clsF_eq (p : Plan) (i : Nat) : clsF p i = p.cls i := fGetD_eq _ _ _
theorem effsF_eq (p : Plan) : effsF p = p.effs := by
  unfold effsF Plan.effs
  rw [fFilter_eq]
  congr 1
  funext i
  rw [clsF_eq]

theorem rankOKF_eq (md : Region.Mode) (size : Nat) (rk : List Nat) (i : Nat) (o : Oper) : rankOKF md size rk i o = rankOK md size rk i o := by
  unfold rankOKF rankOK
  rw [fAll_eq]
  congr 1
  funext e
  rw [brec_imp, band_and, fGetD_eq, fGetD_eq]

theorem dstAloneF_eq (ops : Array Oper) (i : Nat) (d : Option Tmp) : dstAloneF ops i d = dstAlone ops i d := by
  cases d with
  | none => rfl
  | some t =>
    show fAllI (fun j o => Bool.rec (motive := fun _ => Bool) (bnot (dstIsF t o)) true (Nat.beq i j)) ops.toList 0 = ((List.range ops.size).all fun j => Nat.beq i j || !dstIs ops t j)
    rw [fAllI_eq, Array.length_toList, Bool.eq_iff_iff, List.all_eq_true, List.all_eq_true]
    have key : ∀ j, j ∈ List.range ops.size → ((Option.rec (motive := fun _ => Bool) false (fun o => Bool.rec (motive := fun _ => Bool) (bnot (dstIsF t o)) true (Nat.beq i (0 + j))) ops.toList[j]? : Bool) = (Nat.beq i j || !dstIs ops t j)) := by
      intro j hj
      have hlt : j < ops.toList.length := by simpa using hj
      rw [dstIsF_eq, List.getElem?_eq_getElem hlt, Nat.zero_add]
      show Bool.rec (motive := fun _ => Bool) _ true (Nat.beq i j) = _
      rw [brec_or, bnot_not]
    constructor
    · intro h j hj; rw [← key j hj]; exact h j hj
    · intro h j hj; rw [key j hj]; exact h j hj

theorem opPlanOKF_eq {p : Plan} {ops : Array Oper} {nt i : Nat} {o : Oper} (ho : ops[i]? = some o) : opPlanOKF p ops nt i o = opPlanOK p ops nt i := by
  unfold opPlanOKF opPlanOK
  rw [ho]
  simp only [band_and, fAll_eq, fAny_eq, fMem_eq, fGetD_eq, brec_or, lkOfF_eq, dstAloneF_eq, rankOKF_eq]
  rfl

theorem permOKF_eq (p : Plan) (ops : Array Oper) (nt : Nat) : ∀ l, permOKF p ops nt l = permOK p ops nt l
  | [] => rfl
  | i :: l => by
    have e : permOKF p ops nt (i :: l) = band (bnot (fMem i l)) (band (Option.rec (motive := fun _ => Bool) false (fun o => fAll (fun q => band (bnot (fMem q.2 l)) (bnot (Nat.beq q.2 i))) (lkOfF p ops nt i o)) (fGet? ops.toList i))
      (band (Bool.rec (motive := fun _ => Bool) true (fAll (fun j => bnot (Nat.beq (clsF p j) 2)) l) (Nat.beq (clsF p i) 1)) (permOKF p ops nt l))) := rfl
    rw [e, permOKF_eq p ops nt l, fGet?_eq, Array.getElem?_toList]
    simp only [band_and, bnot_not, fMem_eq, brec_imp, fAll_eq, clsF_eq, lkOfF_eq]
    show _ = (!l.contains i && ((match ops[i]? with
      | some o => (lkOf p ops nt i o).all fun q => !l.contains q.2 && !Nat.beq q.2 i
      | none => false) && ((!Nat.beq (p.cls i) 1 || l.all (fun j => !Nat.beq (p.cls j) 2)) && permOK p ops nt l)))
    cases ops[i]? <;> rfl

theorem pairsOKF_eq (p : Plan) : ∀ l, pairsOKF p l = pairsOK p l
  | [] => rfl
  | a :: l => by
    have e : pairsOKF p (a :: l) = band (Bool.rec (motive := fun _ => Bool) (band p.dia (Nat.beq (List.length l) 1)) true (fAll (fun b => fMem a (fGetD p.Bt [] b)) l)) (pairsOKF p l) := rfl
    rw [e, pairsOKF_eq p l]
    simp only [band_and, brec_or, fAll_eq, fMem_eq, fGetD_eq]
    rfl

theorem planOKF_eq (p : Plan) (ops : Array Oper) (nt : Nat) : planOKF p ops nt = planOK p ops nt := by
  unfold planOKF planOK
  simp only [band_and, brec_imp, effsF_eq, permOKF_eq, pairsOKF_eq]
  have e : fAllI (opPlanOKF p ops nt) ops.toList 0 = (List.range ops.size).all (opPlanOK p ops nt) := by
    rw [fAllI_eq, Array.length_toList, Bool.eq_iff_iff, List.all_eq_true, List.all_eq_true]
    have key : ∀ j, j ∈ List.range ops.size → ((Option.rec (motive := fun _ => Bool) false (fun x => opPlanOKF p ops nt (0 + j) x) ops.toList[j]? : Bool) = opPlanOK p ops nt j) := by
      intro j hj
      have hlt : j < ops.size := List.mem_range.1 hj
      rw [Array.getElem?_toList, Array.getElem?_eq_getElem hlt, Nat.zero_add]
      exact opPlanOKF_eq (Array.getElem?_eq_getElem hlt)
    constructor
    · intro h j hj; rw [← key j hj]; exact h j hj
    · intro h j hj; rw [key j hj]; exact h j hj
  rw [e]

theorem nodesF_eq (p : Plan) (i : Nat) : nodesF p p.effs i = p.nodesOf i := by
  unfold nodesF Plan.nodesOf
  rw [fFilter_eq]
  have e1 : (Bool.rec (motive := fun _ => Nat) (Nat.succ (List.length p.effs)) (Nat.add (List.length p.effs) 2) p.dia : Nat) = p.N := by
    unfold Plan.N
    cases p.dia <;> rfl
  rw [e1]
  congr 1
  funext n
  unfold compatF Plan.compatB Plan.has
  have e2 : setOfF p p.effs n = p.setOf n := by
    unfold setOfF Plan.setOf
    cases h : Nat.ble n p.effs.length <;> simp
  simp only [band_and, fAll_eq, fMem_eq, brec_imp, fGetD_eq, clsF_eq, bnot_not, e2]
  rfl

theorem entOfF_eq (P : Program) (gs : Nat → Bool) (ops : Array Oper) (nt : Nat) (p : Plan) (i : Nat) : entOfF P gs ops nt p p.effs i = entOf P gs ops nt p i := by
  unfold entOfF entOf
  rw [fGet?_eq, Array.getElem?_toList]
  cases ops[i]? with
  | none => rfl
  | some o =>
    simp only
    split
    · rename_i iop d gd h1 h2 h3
      simp only [lkOfF_eq, clsF_eq, nodesF_eq, band_and, brec_or]
      rw [show ((Nat.beq (p.cls i) 0 && isFloat iop) || ((Nat.beq (p.cls i) 2 && isFresh iop) || Nat.beq (p.cls i) 1)) = ((Nat.beq (p.cls i) 0 && isFloat iop) || ((Nat.beq (p.cls i) 2 && isFresh iop) || Nat.beq (p.cls i) 1)) from rfl]
      have en : (Bool.rec (motive := fun _ => List Nat) (p.nodesOf i) [] (Nat.beq (p.cls i) 1) : List Nat) = (bif Nat.beq (p.cls i) 1 then [] else p.nodesOf i) := by cases Nat.beq (p.cls i) 1 <;> rfl
      rw [en]
      cases ((Nat.beq (p.cls i) 0 && isFloat iop) || ((Nat.beq (p.cls i) 2 && isFresh iop) || Nat.beq (p.cls i) 1)) <;> rfl
    · rfl

theorem entsOfF_eq (P : Program) (gs : Nat → Bool) (ops : Array Oper) (nt : Nat) (p : Plan) : ∀ l, entsOfF P gs ops nt p p.effs l = entsOf P gs ops nt p l
  | [] => rfl
  | i :: l => by
    have e : entsOfF P gs ops nt p p.effs (i :: l) = match entOfF P gs ops nt p p.effs i, entsOfF P gs ops nt p p.effs l with
      | some d, some l => some (d :: l)
      | _, _ => none := rfl
    rw [e, entsOfF_eq P gs ops nt p l, entOfF_eq]
    rfl

/-- a place that is written, with its writer -/
noncomputable def finOf (nt k i : Nat) (d : Option Tmp) : Option (Nat × Nat) := match d with
  | some t => if Nat.blt t nt then some (t, k + i) else none
  | none => none
theorem finsOfF_go (nt : Nat) : ∀ (l : List Oper) (k : Nat), (List.rec (motive := fun _ => Nat → List (Nat × Nat)) (fun _ => []) (fun o _ ih i => Option.rec (motive := fun _ => List (Nat × Nat)) (ih (Nat.succ i)) (fun t => Bool.rec (motive := fun _ => List (Nat × Nat)) (ih (Nat.succ i)) ((t, i) :: ih (Nat.succ i)) (Nat.blt t nt)) o.dst) l k : List (Nat × Nat)) =
      (List.range l.length).filterMap fun i => finOf nt k i ((l[i]?).bind (·.dst))
  | [], k => rfl
  | o :: l, k => by
    have e2 : (fun i => finOf nt (k + 1) i ((l[i]?).bind (·.dst))) = ((fun i => finOf nt k i (((o :: l)[i]?).bind (·.dst))) ∘ Nat.succ) := by
      funext i
      show _ = finOf nt k (i + 1) (((o :: l)[i + 1]?).bind (·.dst))
      rw [List.getElem?_cons_succ]
      unfold finOf
      rw [show k + 1 + i = k + (i + 1) by omega]
    have ih := finsOfF_go nt l (k + 1)
    rw [e2] at ih
    have e3 : (List.range (o :: l).length).filterMap (fun i => finOf nt k i (((o :: l)[i]?).bind (·.dst))) = match finOf nt k 0 o.dst with
      | none => (List.range l.length).filterMap ((fun i => finOf nt k i (((o :: l)[i]?).bind (·.dst))) ∘ Nat.succ)
      | some b => b :: (List.range l.length).filterMap ((fun i => finOf nt k i (((o :: l)[i]?).bind (·.dst))) ∘ Nat.succ) := by
      rw [List.length_cons, List.range_succ_eq_map, List.filterMap_cons, List.filterMap_map]
      have h0 : ((o :: l)[0]?).bind (·.dst) = o.dst := rfl
      rw [h0]
      cases finOf nt k 0 o.dst <;> rfl
    rw [e3, ← ih]
    cases hd : o.dst with
    | none => simp only [finOf, hd]
    | some t =>
      cases h : Nat.blt t nt with
      | true => simp only [finOf, h, if_true, Nat.add_zero]; show Option.rec (motive := fun _ => List (Nat × Nat)) _ _ o.dst = _; rw [hd]; show Bool.rec (motive := fun _ => List (Nat × Nat)) _ _ (Nat.blt t nt) = _; rw [h]
      | false => simp only [finOf, h, Bool.false_eq_true, if_false]; show Option.rec (motive := fun _ => List (Nat × Nat)) _ _ o.dst = _; rw [hd]; show Bool.rec (motive := fun _ => List (Nat × Nat)) _ _ (Nat.blt t nt) = _; rw [h]
theorem finsOfF_eq (ops : Array Oper) (nt : Nat) : finsOfF ops nt = finsOf ops nt := by
  unfold finsOfF finsOf
  rw [finsOfF_go, Array.length_toList]
  congr 1
  funext i
  rw [Array.getElem?_toList]
  unfold finOf
  cases (ops[i]?).bind (·.dst) with
  | none => rfl
  | some t => simp only [Nat.zero_add]

theorem drawC_eq (P : Program) (gs : Nat → Bool) (ops : Array Oper) (nt : Nat) (p : Plan) : drawC P gs ops nt p =
    bif planOK p ops nt then
      match entsOf P gs ops nt p p.perm, diaOf P gs ops nt p with
      | some l, some dia => .draw (mkFs l) (envF (finsOf ops nt)) dia
      | _, _ => .bad 408
    else .bad 404 := by
  unfold drawC
  rw [planOKF_eq, effsF_eq, entsOfF_eq, finsOfF_eq]
  cases planOK p ops nt with
  | false => rfl
  | true => cases entsOf P gs ops nt p p.perm <;> cases diaOf P gs ops nt p <;> rfl
end Go.Ev

namespace Go.Ev
set_option linter.unusedVariables false

section
variable {P : Program} {gs : Nat → Bool} {ρ : Rho} {base : Nat} {rd : Option Nat} {nd : Nat}
/-- what the evaluation of code says of how it leaves -/
def PostR (g : G) (ρ : Rho) (base nt : Nat) (s : St) (w : World) (dfs : List Deferred) (r : R) : Exit → Act → World → Prop := fun ex a' w' =>
  match r with
  | .norm e' s' => ex = .normal ∧ ∃ g' rs, a'.defers = rs.map mark ++ dfs ∧ MarksOK w w' g' rs ∧ Step g ρ base s w g' s' w' ∧ ER g' ρ nt e' a'
  | .exit id e' s' => ex = .exit id ∧ ∃ g' rs, a'.defers = rs.map mark ++ dfs ∧ MarksOK w w' g' rs ∧ Step g ρ base s w g' s' w' ∧ ER g' ρ nt e' a'
  | .ret e' s' => ex = .ret ∧ ∃ g' rs, a'.defers = rs.map mark ++ dfs ∧ MarksOK w w' g' rs ∧ Step g ρ base s w g' s' w' ∧ ER g' ρ nt e' a'
  | _ => False

def R.good : R → Prop
  | .norm _ _ | .exit _ _ _ | .ret _ _ => True
  | _ => False

theorem exists_least {p : Nat → Prop} : ∀ {n : Nat}, p n → ∃ m, p m ∧ ∀ k, p k → m ≤ k := by
  intro n
  induction n using Nat.strongRecOn with
  | _ n ih =>
    intro h
    by_cases hex : ∃ k, k < n ∧ p k
    · obtain ⟨k, hk, hp⟩ := hex
      exact ih k hk hp
    · exact ⟨n, h, fun k hk => Nat.le_of_not_lt fun hlt => hex ⟨k, hlt, hk⟩⟩

theorem stepR_scope {b : Frame} {a : Act} {k : List Item} {cs : List Frame} {w : World} {c : Code} : step P (lone (b.atR a (.code (.scope c) :: k)) cs w) = .next (lone (b.atR a (.code c :: .inScope c :: k)) cs w) :=
  step_lone_go (by simp [stepG, stepG.exec, Frame.atR])
theorem stepR_inScope {b : Frame} {a : Act} {k : List Item} {cs : List Frame} {w : World} {c : Code} : step P (lone (b.atR a (.inScope c :: k)) cs w) = .next (lone (b.atR a k) cs w) :=
  step_lone_go (by simp [stepG, stepG.exec, Frame.atR])
theorem wpIn_scope_straight {F : Fence} {n : Nat} {c : Code} {Q : Exit → Act → World → Prop} {a : Act} {w : World} (h : c.wpIn F n P (Exit.noGoto Q) a w) : (Code.scope c).wpIn F n P Q a w := by
  intro b k cs hro hb hr
  have h0 : (lone (b.atR a (.code (.scope c) :: k)) cs w).fenced P F := fenced_calm hb hr rfl
  obtain ⟨e, a₁, w₁, hq, harr⟩ := h b (.inScope c :: k) cs hro hb hr
  cases e with
  | normal => exact ⟨.normal, a₁, w₁, hq, .head h0 stepR_scope (StepsIn.trans harr (.one (fenced_calm hb hr rfl) stepR_inScope))⟩
  | exit id =>
    have hx : exitTo id (.inScope c :: k) = exitTo id k := by simp [exitTo]
    exact ⟨.exit id, a₁, w₁, hq, fun k' hk => .head h0 stepR_scope (harr.1 k' (by rw [hx]; exact hk)),
      fun hr' hk => let ⟨k₁, h1, h2⟩ := harr.2 hr' (by rw [hx]; exact hk); ⟨k₁, h1, .head h0 stepR_scope h2⟩⟩
  | goto l => exact hq.elim
  | ret => exact ⟨_, a₁, w₁, hq, .of_steps (.one h0 stepR_scope) harr⟩
  | panic ch => exact ⟨_, a₁, w₁, hq, .of_steps (.one h0 stepR_scope) harr⟩
  | outgrown => exact ⟨_, a₁, w₁, hq, .of_steps (.one h0 stepR_scope) harr⟩

open Classical in
theorem wp_loop_fuel {c : Code} {Q : Exit → Act → World → Prop} (I : Nat → Act → World → Prop) (zero : ∀ a w, ¬ I 0 a w)
    (round : ∀ n a w, I (n + 1) a w → c.wpIn (FR rd) nd P (Exit.then (fun a' w' => I n a' w') Q) a w) {n : Nat} {a : Act} {w : World} (h : I n a w) : (Code.loop c).wpIn (FR rd) nd P Q a w := by
  let μ : Act → World → Nat := fun a w => if h : ∃ n, I n a w then (exists_least (p := fun n => I n a w) h.choose_spec).choose else 0
  have hμ : ∀ a w, (∃ n, I n a w) → I (μ a w) a w ∧ ∀ k, I k a w → μ a w ≤ k := by
    intro a w hx
    have e : μ a w = (exists_least (p := fun n => I n a w) hx.choose_spec).choose := dif_pos hx
    rw [e]
    exact (exists_least (p := fun n => I n a w) hx.choose_spec).choose_spec
  refine wpIn_loop (fun a w => ∃ n, I n a w) μ ⟨n, h⟩ ?_
  intro a w hx
  obtain ⟨h1, h2⟩ := hμ a w hx
  cases hm : μ a w with
  | zero => rw [hm] at h1; exact absurd h1 (zero a w)
  | succ m =>
    rw [hm] at h1
    refine wpIn_mono (round m a w h1) ?_
    intro ex a' w' hq
    cases ex with
    | normal =>
      have hq : I m a' w' := hq
      exact ⟨⟨m, hq⟩, Nat.lt_succ_of_le ((hμ a' w' ⟨m, hq⟩).2 m hq)⟩
    | _ => exact hq

theorem PostR.trans {g g1 : G} {nt : Nat} {w w1 : World} {s s1 : St} {dfs : List Deferred} {r : R} (h : Step g ρ base s w g1 s1 w1) {rs : List Nat} (hm : MarksOK w w1 g1 rs) {ex : Exit} {a' : Act} {w' : World}
    (hp : PostR g1 ρ base nt s1 w1 (rs.map mark ++ dfs) r ex a' w') : PostR g ρ base nt s w dfs r ex a' w' := by
  have hd : ∀ rs' : List Nat, rs'.map mark ++ (rs.map mark ++ dfs) = (rs' ++ rs).map mark ++ dfs := fun rs' => by rw [List.map_append, List.append_assoc]
  cases r with
  | norm e' s' => obtain ⟨h1, g', rs', h2, h3, h4, h5⟩ := hp; exact ⟨h1, g', rs' ++ rs, h2.trans (hd rs'), hm.trans h h4 h3, h.trans h4, h5⟩
  | exit id e' s' => obtain ⟨h1, g', rs', h2, h3, h4, h5⟩ := hp; exact ⟨h1, g', rs' ++ rs, h2.trans (hd rs'), hm.trans h h4 h3, h.trans h4, h5⟩
  | ret e' s' => obtain ⟨h1, g', rs', h2, h3, h4, h5⟩ := hp; exact ⟨h1, g', rs' ++ rs, h2.trans (hd rs'), hm.trans h h4 h3, h.trans h4, h5⟩
  | _ => exact hp
theorem PostR.plain {g g' : G} {nt : Nat} {w w' : World} {s s' : St} {dfs : List Deferred} {a' : Act} (hd : a'.defers = dfs) (hS : Step g ρ base s w g' s' w') (w0 : World) : a'.defers = ([] : List Nat).map mark ++ dfs ∧ MarksOK w0 w' g' [] := ⟨hd, .nil _ _ _⟩

theorem range_ops (ops : Array Oper) : (List.range ops.size).map (fun i => ops[i]?) = ops.toList.map some := by
  apply List.ext_getElem?
  intro k
  simp only [List.getElem?_map]
  by_cases hk : k < ops.size
  · simp [hk]
  · simp [hk]

theorem evDraw_sound (hO : OpSound P gs ρ base) (hF : FreshSound P gs ρ) {call : Nat → V → St → RC} (hC : CallSound P gs ρ base call) {nt id : Nat} {ops : Array Oper} {p : Plan} {e : E2} {s : St} {g : G} {a : Act} {w : World} {r : R}
    (h : evC call (drawC P gs ops nt p) e s = r) (hr : r.good) (hG : GlobR gs g) (hE : ER g ρ nt e a) (hW : WR g ρ base s w) : (Code.region id ops true).wpIn (FR rd) nd P (PostR g ρ base nt s w a.defers r) a w := by
  rw [drawC_eq] at h
  cases hpl : planOK p ops nt with
  | false => rw [hpl] at h; have h : R.bad 404 = r := h; subst h; exact hr.elim
  | true =>
    rw [hpl] at h
    have h : evC call (match entsOf P gs ops nt p p.perm, diaOf P gs ops nt p with
      | some l, some dia => .draw (mkFs l) (envF (finsOf ops nt)) dia
      | _, _ => .bad 408) e s = r := h
    cases hl : entsOf P gs ops nt p p.perm with
    | none => rw [hl] at h; have h : R.bad 408 = r := h; subst h; exact hr.elim
    | some l =>
      cases hd : diaOf P gs ops nt p with
      | none => rw [hl, hd] at h; have h : R.bad 408 = r := h; subst h; exact hr.elim
      | some dia =>
        rw [hl, hd] at h
        have h : evDrawF call (mkFs l) (envF (finsOf ops nt)) dia e s = r := h
        rw [evDrawF_eq] at h
        rcases evDraw_inv h with ⟨x, rfl⟩ | ⟨vs, ts, alt, fin, hp, ha, hfin, hn, hv, rfl⟩
        · exact hr.elim
        · have F := plan_spec hpl
          have hK := draw_ok (ρ := ρ) (base := base) F hl hd hp ha hfin hn hv
          have hany : ∀ md, wpAnyIn (FR rd) nd P md ops (PostR g ρ base nt s w a.defers (.norm (envOf vs e (finsOf ops nt)) fin)) ops.size (Array.replicate ops.size false) a w.drew := by
            intro md
            obtain ⟨rank, hrank⟩ := F.rank md
            have hrep : ∀ i, (Array.replicate ops.size false).getD i false = false := by
              intro i
              rw [Array.getD_eq_getD_getElem?, Array.getElem?_replicate]
              split <;> rfl
            refine draw_any (md := md) (dfs := a.defers) hO hF hC hK hE hG rank hrank (g := g) (n := 0) (fun g' a' w' hS hE' hd' => ⟨rfl, g', [], hd', .nil _ _ _, hS, hE'⟩) ops.size ?_ ?_
            · exact Nat.le_trans List.countP_le_length (by simp)
            · refine ⟨hK.node0.1, by simp, fun i o _ hl => ?_, fun i _ hc => ?_, ?_, rfl, hE.1, fun i o t _ hl => ?_, fun t ht _ => hE.2.2 t ht, fun i hi hc _ => ?_⟩
              · rw [hrep] at hl; cases hl
              · rw [hrep, hK.node0.2.1 i hc]
              · have h0 : Step g ρ base s w g s w.drew := ⟨.refl g w, (Keep.refl g base w).drew, hW.drew, Nat.le_refl _, fun _ _ _ h _ => h⟩
                exact h0.sub hK.node0.2.2
              · rw [hrep] at hl; cases hl
              · exact hW.fresh _ _ (hK.vers0 i hi hc)
          refine wpIn_region_draw fun t => ?_
          unfold Region.schedule
          split
          · exact wpAnyIn_sound ops.size t _ a _ (hany .any)
          · split
            · exact wpAnyIn_sound ops.size (t / 2) _ a _ (hany .text)
            · exact wpAnyIn_sound ops.size (t / 2) _ a _ (hany .gc)

theorem evRange_sound (hO : OpSound P gs ρ base) (hF : FreshSound P gs ρ) {call : Nat → V → St → RC} (hC : CallSound P gs ρ base call) {nt : Nat} {x : Operand} {ps : Array Tmp} {A B : Code} {e : E2} {s : St} {g : G} {a : Act} {w : World} {r : R}
    (h : evC call (compC P gs true nt (.rangeFunc x ps A B)) e s = r) (hr : r.good) (hG : GlobR gs g) (hE : ER g ρ nt e a) (hW : WR g ρ base s w) : (Code.rangeFunc x ps A B).wpIn (FR none) nd P (PostR g ρ base nt s w a.defers r) a w := by
  cases hx : compOpd gs nt x with
  | none =>
    have e1 : compC P gs true nt (.rangeFunc x ps A B) = .bad 400 := by simp only [compC, hx, cond_true]
    rw [e1] at h
    have h : R.bad 400 = r := h
    subst h
    exact hr.elim
  | some p =>
    have e1 : compC P gs true nt (.rangeFunc x ps A B) = .rangeF p ps.toList A B nt := by simp only [compC, hx, cond_true]
    rw [e1] at h
    have h : evRange call (p.val e) ps.toList A B nt e s = r := h
    have hv := opd_VR hG hE hx
    unfold evRange at h
    cases hnx : s.nx with
    | zero =>
      rw [hnx] at h
      have h : R.bad 143 = r := h
      subst h
      exact hr.elim
    | succ m =>
      rw [hnx] at h
      cases hno : Obj.isNone (H4.at s.nk s.h) with
      | false =>
        rw [hno] at h
        have h : R.bad 145 = r := h
        subst h
        exact hr.elim
      | true =>
        rw [hno] at h
        have hnone : s.h.at s.nk = .none := by
          cases hf : H4.at s.nk s.h with
          | none => rfl
          | _ => rw [hf] at hno; cases hno
        generalize hpv : p.val e = pv at h hv
        generalize hax : a.eval x = xv at hv
        replace h : (match (generalizing := false) pv with
          | .fn (.func f) first cap => RC.rec (motive := fun _ => R) (fun _ s2 => rangeEnd s.nk (Nat.succ m) e s2) (fun w => .bad w)
              (call f (V.app first (.cons (yldV s.nk (Nat.succ m)) cap)) ⟨H4.put s.nk (.loop (Nat.succ m) e ps.toList A B nt .ready none) s.h, K.succ s.nk, Nat.succ (Nat.succ m)⟩)
          | _ => .bad 144) = r := h
        split at h
        · rename_i f first cap
          cases hv with | fn hfirst hcap =>
          rename_i xs ys
          cases hcl : call f (V.app first (.cons (yldV s.nk (Nat.succ m)) cap)) ⟨H4.put s.nk (.loop (Nat.succ m) e ps.toList A B nt .ready none) s.h, K.succ s.nk, Nat.succ (Nat.succ m)⟩ with
          | bad q =>
            rw [hcl] at h
            have h : R.bad q = r := h
            subst h
            exact hr.elim
          | ok v s2 =>
          rw [hcl] at h
          have h : rangeEnd s.nk (Nat.succ m) e s2 = r := h
          let w1 : World := w.alloc (.deferred (some []))
          have hS1 : Step g ρ base s w g s w1 := hW.push _
          let rec0 (fn : FuncId) : Go.Loop := { state := .ready, pending := none, fn, tmps := a.tmps, params := ps, assign := A, body := B, defers := w.heap.size }
          let L : Loc := ⟨w1.heap.size, 0, 0⟩
          have hle := G.le_add (L := L) (hS1.wr.fresh s.nk s.nx (Nat.le_refl _))
          refine wpIn_rangeFunc fun fn _ => ?_
          let w2 : World := w1.alloc (.loop (rec0 fn))
          have hst : Step g ρ base s w1 (G.add g s.nk s.nx L) ⟨H4.put s.nk (.loop s.nx e ps.toList A B nt .ready none) s.h, K.succ s.nk, s.nx + 1⟩ w2 := by
            refine hS1.wr.alloc hnone (.loop (rec0 fn)) (.loop s.nx e ps.toList A B nt .ready none) 0 (K.succ s.nk) ⟨rfl, hS1.wr.base, rfl, rec0 fn, ?_, ⟨rfl, rfl, rfl, rfl, rfl⟩, hE.1, hE.2.1, fun t ht => (hE.2.2 t ht).mono hle⟩ (fun he _ => by cases he)
            simp only [World.alloc, Array.getElem?_push_size]
          have hgadd : G.add g s.nk s.nx L s.nk s.nx = some L := G.add_same _ _ _ _
          rw [hnx] at hst hgadd hle
          have hxs : VL (G.add g s.nk (m + 1) L) ρ (V.app first (.cons (yldV s.nk (m + 1)) cap)) (xs ++ (.func (.yield L.blk) #[] #[] :: ys)) :=
            VL.app (hfirst.mono hle) (.cons (.yld hgadd) (hcap.mono hle))
          have hne : ∀ c, V.app first (.cons (yldV s.nk (Nat.succ m)) cap) ≠ .agg c := by
            intro c hc
            have hxs' : VL (G.add g s.nk (m + 1) L) ρ (V.app first (.cons (yldV s.nk (Nat.succ m)) cap)) (xs ++ (.func (.yield L.blk) #[] #[] :: ys)) := hxs
            rw [hc] at hxs'
            cases hxs'
          obtain ⟨hgood, hcalls⟩ := (hC _ _ _ v s2 hcl).1 hne
          obtain ⟨fn', hfn, hbn, hname⟩ := hgood
          refine ⟨w1.heap.size, [mark w.heap.size], w2, { target := .fn (.func f) ys.toArray, args := xs.toArray ++ #[.func (.yield L.blk) #[] #[]] }, w2, f, (xs ++ (.func (.yield L.blk) #[] #[] :: ys)).toArray, w2, rfl, ?_, fun _ _ => trivial, ?_, FR.depth, ?_⟩
          · have hcst : a.eval (.const (.func (.yield w1.heap.size) #[] #[])) = .func (.yield w1.heap.size) #[] #[] := rfl
            simp [resolve, hax, Deferred.ofValue, hcst, L]
          · have hall : (xs ++ (.func (.yield L.blk) #[] #[] :: ys)).toArray = xs.toArray ++ #[Value.func (.yield L.blk) #[] #[]] ++ ys.toArray := by simp
            rw [hall]
            simp [invoke, callFunc, hfn, hname, hbn]
          · refine CallsIn.mono (calls_in (hcalls _ w2 _ (hG.mono hle) hst.wr hxs)) ?_
            rintro en w3 ⟨y, g2, rfl, hstep2, hv2⟩
            have hgl : g2 s.nk (m + 1) = some L := hstep2.ext.le _ _ _ hgadd
            unfold rangeEnd at h
            cases hl : Obj.loop? (Nat.succ m) (H4.at s.nk s2.h) with
            | no =>
              rw [hl] at h
              have h : R.bad 142 = r := h
              subst h
              exact hr.elim
            | yes env ps' A' B' nt' st pend =>
              rw [hl] at h
              have hobj := loop_inv hl
              have h0 := hstep2.wr.obj hgl
              rw [hobj] at h0
              obtain ⟨e1, e2, e3, rr, hheap, ⟨e5, e6, e7, e8, e9⟩, _⟩ := h0
              have hturn := hstep2.wr.setLoop hgl hobj hheap .exhausted pend
              have hrest := hst.trans (hstep2.trans hturn)
              have hall := hS1.trans hrest
              have m0 : MarksOK w w1 g [w.heap.size] := by
                refine ⟨by simp, fun r hr => ?_⟩
                rw [List.mem_singleton] at hr
                subst hr
                refine ⟨Nat.le_refl _, by simp only [w1, World.alloc, Array.getElem?_push_size], fun f v L' hg he => ?_⟩
                have := hW.lt hg
                omega
              have hm := MarksOK.trans hS1 hrest m0 (.nil _ _ _)
              have hE2 : ER g2 ρ nt e { a with defers := [mark w.heap.size] ++ a.defers } := hE.mono hall.ext.le
              have fin : st ≠ .busy → (match (generalizing := false) pend with
                  | none => R.norm e ⟨H4.put s.nk (.loop (Nat.succ m) env ps' A' B' nt' .exhausted none) s2.h, s2.nk, s2.nx⟩
                  | some .ret => .ret e ⟨H4.put s.nk (.loop (Nat.succ m) env ps' A' B' nt' .exhausted (some .ret)) s2.h, s2.nk, s2.nx⟩
                  | some (.exit id) => .exit id e ⟨H4.put s.nk (.loop (Nat.succ m) env ps' A' B' nt' .exhausted (some (.exit id))) s2.h, s2.nk, s2.nx⟩
                  | _ => .bad 141) = r → rangePost (FR none) nd P w1.heap.size (PostR g ρ base nt s w a.defers r) { a with defers := [mark w.heap.size] ++ a.defers } (.returned y) w3 := by
                intro hst' h
                refine ⟨pend, World.put w3 L.blk (.loop { rr with state := .exhausted, pending := pend }), ?_, ?_⟩
                · have := run_endLoop (P := P) hheap (by rw [e8]; exact hst')
                  rw [e9] at this
                  exact this
                · split at h
                  · subst h
                    exact ⟨rfl, g2, [w.heap.size], rfl, hm, hall, hE2⟩
                  · subst h
                    exact wpIn_ret ⟨rfl, g2, [w.heap.size], rfl, hm, hall, hE2⟩
                  · subst h
                    exact wpIn_exit ⟨rfl, g2, [w.heap.size], rfl, hm, hall, hE2⟩
                  · subst h
                    exact hr.elim
              cases st with
              | busy =>
                have h : R.bad 140 = r := h
                subst h
                exact hr.elim
              | ready => exact fin (by simp) h
              | done => exact fin (by simp) h
              | exhausted => exact fin (by simp) h
        · subst h
          exact hr.elim

theorem evC_sound (hO : OpSound P gs ρ base) (hF : FreshSound P gs ρ) {call : Nat → V → St → RC} (hC : CallSound P gs ρ base call) {il : Bool} (hil : il = true → rd = none) {nt : Nat} : ∀ (c : Code) {e : E2} {s : St} {g : G} {a : Act} {w : World} {r : R},
    evC call (compC P gs il nt c) e s = r → r.good → GlobR gs g → ER g ρ nt e a → WR g ρ base s w → c.wpIn (FR rd) nd P (PostR g ρ base nt s w a.defers r) a w
  | .skip, e, s, g, a, w, r, h, hr, hG, hE, hW => by
    have h : R.norm e s = r := h
    subst h
    exact wpIn_skip ⟨rfl, g, [], rfl, .nil _ _ _, .refl hW, hE⟩
  | .label l, e, s, g, a, w, r, h, hr, hG, hE, hW => by
    have h : R.norm e s = r := h
    subst h
    exact wpIn_label ⟨rfl, g, [], rfl, .nil _ _ _, .refl hW, hE⟩
  | .ret, e, s, g, a, w, r, h, hr, hG, hE, hW => by
    have h : R.ret e s = r := h
    subst h
    exact wpIn_ret ⟨rfl, g, [], rfl, .nil _ _ _, .refl hW, hE⟩
  | .exit id, e, s, g, a, w, r, h, hr, hG, hE, hW => by
    have h : R.exit id e s = r := h
    subst h
    exact wpIn_exit ⟨rfl, g, [], rfl, .nil _ _ _, .refl hW, hE⟩
  | .region id ops false, e, s, g, a, w, r, h, hr, hG, hE, hW => by
    have h : evOps call (compOps P gs ops nt ops.toList) e s = r := h
    have hshape : ∀ (l : OpL) (e : E2) (s : St), (∃ e' s', evOps call l e s = .norm e' s') ∨ ∃ x, evOps call l e s = .bad x := by
      intro l
      induction l with
      | nil => intro e s; exact .inl ⟨e, s, rfl⟩
      | mvs f rest ih => intro e s; exact ih (f e) s
      | cons op run d gd rest ih =>
        intro e s
        rw [evOps_cons]
        cases Gd.ok gd e with
        | false => exact ih _ _
        | true =>
          cases run e s with
          | bad x => exact .inr ⟨x, rfl⟩
          | ok v s1 => exact ih _ _
          | call f args s1 =>
            show (∃ e' s', RC.rec (motive := fun _ => R) (fun v s'' => evOps call rest (d.put v e) s'') (fun w => .bad w) (call f args s1) = .norm e' s') ∨ _
            cases hcl : call f args s1 with
            | bad x => exact .inr ⟨x, by show RC.rec (motive := fun _ => R) (fun v s'' => evOps call rest (d.put v e) s'') (fun w => .bad w) (call f args s1) = _; rw [hcl]⟩
            | ok v s2 =>
              have := ih (d.put v e) s2
              rcases this with ⟨e', s', h⟩ | ⟨x, h⟩
              · exact .inl ⟨e', s', h⟩
              · refine .inr ⟨x, ?_⟩
                show RC.rec (motive := fun _ => R) (fun v s'' => evOps call rest (d.put v e) s'') (fun w => .bad w) (call f args s1) = _
                rw [hcl]
                exact h
    rcases hshape (compOps P gs ops nt ops.toList) e s with ⟨e', s', hn⟩ | ⟨x, hn⟩
    · rw [hn] at h
      subst h
      refine wpIn_region (evOps_sound hO hC ops.toList (List.range ops.size) (range_ops ops) hn hG hE hW ?_)
      intro a' w' g' h1 h2 h3
      exact ⟨rfl, g', [], h3, .nil _ _ _, h1, h2⟩
    · rw [hn] at h
      subst h
      exact hr.elim
  | .region id ops true, e, s, g, a, w, r, h, hr, hG, hE, hW => evDraw_sound hO hF hC h hr hG hE hW
  | .seq x y, e, s, g, a, w, r, h, hr, hG, hE, hW => by
    have h : R.rec (motive := fun _ => R) (fun e s => goR (evC call (compC P gs il nt y)) e s) (fun id e s => .exit id e s) (fun l e s => .goto l e s) (fun e s => .ret e s) (fun w => .bad w) (evC call (compC P gs il nt x) e s) = r := h
    cases hx : evC call (compC P gs il nt x) e s with
    | norm e1 s1 =>
      rw [hx] at h
      have h : evC call (compC P gs il nt y) e1 s1 = r := h
      refine wpIn_seq (wpIn_mono (evC_sound hO hF hC hil x hx trivial hG hE hW) ?_)
      rintro ex a1 w1 ⟨rfl, g1, rs1, hd, hm, hstep, hE1⟩
      show y.wpIn (FR rd) nd P _ a1 w1
      refine wpIn_mono (evC_sound hO hF hC hil y h hr (hG.mono hstep.ext.le) hE1 hstep.wr) fun _ _ _ hp => ?_
      rw [hd] at hp
      exact PostR.trans hstep hm hp
    | exit id e1 s1 =>
      rw [hx] at h
      have h : R.exit id e1 s1 = r := h
      subst h
      refine wpIn_seq (wpIn_mono (evC_sound hO hF hC hil x hx trivial hG hE hW) ?_)
      rintro ex a1 w1 ⟨rfl, g1, rs1, hd, hm, hstep, hE1⟩
      exact ⟨rfl, g1, rs1, hd, hm, hstep, hE1⟩
    | ret e1 s1 =>
      rw [hx] at h
      have h : R.ret e1 s1 = r := h
      subst h
      refine wpIn_seq (wpIn_mono (evC_sound hO hF hC hil x hx trivial hG hE hW) ?_)
      rintro ex a1 w1 ⟨rfl, g1, rs1, hd, hm, hstep, hE1⟩
      exact ⟨rfl, g1, rs1, hd, hm, hstep, hE1⟩
    | goto l e1 s1 =>
      rw [hx] at h
      have h : R.goto l e1 s1 = r := h
      subst h
      exact hr.elim
    | bad x =>
      rw [hx] at h
      have h : R.bad x = r := h
      subst h
      exact hr.elim
  | .cond x c1 c2, e, s, g, a, w, r, h, hr, hG, hE, hW => by
    cases hx : compOpd gs nt x with
    | none =>
      have e1 : compC P gs il nt (.cond x c1 c2) = .bad 400 := by simp only [compC, hx]
      rw [e1] at h
      have h : R.bad 400 = r := h
      subst h
      exact hr.elim
    | some p =>
      have e1 : compC P gs il nt (.cond x c1 c2) = .cond p (compC P gs il nt c1) (compC P gs il nt c2) := by simp only [compC, hx]
      rw [e1] at h
      have h : OB.rec (motive := fun _ => R) (.bad 110) (fun b => Bool.rec (motive := fun _ => R) (evC call (compC P gs il nt c2) e s) (evC call (compC P gs il nt c1) e s) b) (V.bool? (p.val e)) = r := h
      have hv := opd_VR hG hE hx
      generalize hax : a.eval x = xv at hv
      generalize p.val e = pv at h hv
      cases hv with
      | bool b =>
        cases b with
        | true => exact wpIn_cond hax (evC_sound hO hF hC hil c1 h hr hG hE hW)
        | false => exact wpIn_cond hax (evC_sound hO hF hC hil c2 h hr hG hE hW)
      | _ =>
        have h : R.bad 110 = r := h
        subst h
        exact hr.elim
  | .block id b, e, s, g, a, w, r, h, hr, hG, hE, hW => by
    have h : R.rec (motive := fun _ => R) (fun e s => .norm e s) (fun id' e s => Bool.rec (motive := fun _ => R) (.exit id' e s) (.norm e s) (Nat.beq id' id)) (fun l e s => .goto l e s) (fun e s => .ret e s) (fun w => .bad w) (evC call (compC P gs il nt b) e s) = r := h
    refine wpIn_block ?_
    cases hx : evC call (compC P gs il nt b) e s with
    | norm e1 s1 =>
      rw [hx] at h
      have h : R.norm e1 s1 = r := h
      subst h
      refine wpIn_mono (evC_sound hO hF hC hil b hx trivial hG hE hW) ?_
      rintro ex a1 w1 ⟨rfl, g1, rs1, hd, hm, hstep, hE1⟩
      exact ⟨rfl, g1, rs1, hd, hm, hstep, hE1⟩
    | exit id' e1 s1 =>
      rw [hx] at h
      have h : Bool.rec (motive := fun _ => R) (.exit id' e1 s1) (.norm e1 s1) (Nat.beq id' id) = r := h
      refine wpIn_mono (evC_sound hO hF hC hil b hx trivial hG hE hW) ?_
      rintro ex a1 w1 ⟨rfl, g1, rs1, hd, hm, hstep, hE1⟩
      show if id' = id then _ else _
      cases hb : Nat.beq id' id with
      | true =>
        rw [hb] at h
        have h : R.norm e1 s1 = r := h
        subst h
        rw [if_pos (beq_iff.1 hb)]
        exact ⟨rfl, g1, rs1, hd, hm, hstep, hE1⟩
      | false =>
        rw [hb] at h
        have h : R.exit id' e1 s1 = r := h
        subst h
        rw [if_neg (fun he => by rw [beq_iff.2 he] at hb; cases hb)]
        exact ⟨rfl, g1, rs1, hd, hm, hstep, hE1⟩
    | ret e1 s1 =>
      rw [hx] at h
      have h : R.ret e1 s1 = r := h
      subst h
      refine wpIn_mono (evC_sound hO hF hC hil b hx trivial hG hE hW) ?_
      rintro ex a1 w1 ⟨rfl, g1, rs1, hd, hm, hstep, hE1⟩
      exact ⟨rfl, g1, rs1, hd, hm, hstep, hE1⟩
    | goto l e1 s1 =>
      rw [hx] at h
      have h : R.goto l e1 s1 = r := h
      subst h
      exact hr.elim
    | bad x =>
      rw [hx] at h
      have h : R.bad x = r := h
      subst h
      exact hr.elim
  | .loop b, e, s, g, a, w, r, h, hr, hG, hE, hW => by
    let rounds := roundsN (evC call (compC P gs il nt b))
    have h : rounds loopFuel e s = r := h
    refine wp_loop_fuel (Q := PostR g ρ base nt s w a.defers r) (fun n a1 w1 => ∃ e1 s1 g1, rounds n e1 s1 = r ∧ Step g ρ base s w g1 s1 w1 ∧ ER g1 ρ nt e1 a1 ∧ ∃ rs1, a1.defers = rs1.map mark ++ a.defers ∧ MarksOK w w1 g1 rs1) ?_ ?_ (n := loopFuel) ⟨e, s, g, h, .refl hW, hE, [], rfl, .nil _ _ _⟩
    · rintro a1 w1 ⟨e1, s1, g1, h1, _⟩
      have h1 : R.bad 111 = r := h1
      subst h1
      exact hr.elim
    · rintro n a1 w1 ⟨e1, s1, g1, h1, hstep, hE1, rs1, hd, hm⟩
      have h1 : R.rec (motive := fun _ => R) (fun e s => goR (rounds n) e s) (fun id e s => .exit id e s) (fun l e s => .goto l e s) (fun e s => .ret e s) (fun w => .bad w) (evC call (compC P gs il nt b) e1 s1) = r := h1
      cases hx : evC call (compC P gs il nt b) e1 s1 with
      | norm e2 s2 =>
        rw [hx] at h1
        have h1 : rounds n e2 s2 = r := h1
        refine wpIn_mono (evC_sound hO hF hC hil b hx trivial (hG.mono hstep.ext.le) hE1 hstep.wr) ?_
        rintro ex a2 w2 ⟨rfl, g2, rs2, hd2, hm2, hstep2, hE2⟩
        exact ⟨e2, s2, g2, h1, hstep.trans hstep2, hE2, rs2 ++ rs1, by rw [hd2, hd, List.map_append, List.append_assoc], hm.trans hstep hstep2 hm2⟩
      | exit id e2 s2 =>
        rw [hx] at h1
        have h1 : R.exit id e2 s2 = r := h1
        subst h1
        refine wpIn_mono (evC_sound hO hF hC hil b hx trivial (hG.mono hstep.ext.le) hE1 hstep.wr) ?_
        rintro ex a2 w2 ⟨rfl, g2, rs2, hd2, hm2, hstep2, hE2⟩
        exact ⟨rfl, g2, rs2 ++ rs1, by rw [hd2, hd, List.map_append, List.append_assoc], hm.trans hstep hstep2 hm2, hstep.trans hstep2, hE2⟩
      | ret e2 s2 =>
        rw [hx] at h1
        have h1 : R.ret e2 s2 = r := h1
        subst h1
        refine wpIn_mono (evC_sound hO hF hC hil b hx trivial (hG.mono hstep.ext.le) hE1 hstep.wr) ?_
        rintro ex a2 w2 ⟨rfl, g2, rs2, hd2, hm2, hstep2, hE2⟩
        exact ⟨rfl, g2, rs2 ++ rs1, by rw [hd2, hd, List.map_append, List.append_assoc], hm.trans hstep hstep2 hm2, hstep.trans hstep2, hE2⟩
      | goto l e2 s2 =>
        rw [hx] at h1
        have h1 : R.goto l e2 s2 = r := h1
        subst h1
        exact hr.elim
      | bad x =>
        rw [hx] at h1
        have h1 : R.bad x = r := h1
        subst h1
        exact hr.elim
  | .scope b, e, s, g, a, w, r, h, hr, hG, hE, hW => by
    refine wpIn_scope_straight (wpIn_mono (evC_sound hO hF hC hil b h hr hG hE hW) ?_)
    intro ex a1 w1 hp
    cases ex with
    | goto l => cases r <;> first | exact hp.elim | (exact absurd hp.1 (by simp))
    | _ => exact hp
  | .goto l, e, s, g, a, w, r, h, hr, hG, hE, hW => by
    have h : R.bad 401 = r := h
    subst h
    exact hr.elim
  | .rangeFunc x ps A B, e, s, g, a, w, r, h, hr, hG, hE, hW => by
    cases hb : il with
    | false =>
      subst hb
      have h : R.bad 402 = r := h
      subst h
      exact hr.elim
    | true =>
      have hrd := hil hb
      subst hb hrd
      exact evRange_sound hO hF hC h hr hG hE hW
  | .refuse _, e, s, g, a, w, r, h, hr, hG, hE, hW => by
    have h : R.bad 403 = r := h
    subst h
    exact hr.elim
end
end Go.Ev

namespace Go.Ev
set_option linter.unusedVariables false

section
variable {P : Program} {gs : Nat → Bool} {g : G} {ρ : Rho} {base nt : Nat}

theorem putAt_sound : ∀ {ps : List Nat} {l : V} {xs : List Value} {e : E2} {tmps : Array Value} {dfs : List Deferred}, VL g ρ l xs → xs.length = ps.length → (∀ t ∈ ps, t < nt) → ER g ρ nt e { tmps, defers := dfs } →
    ER g ρ nt (putAt ps l e) { tmps := (ps.zip xs).foldl (fun tmps (ta : Nat × Value) => tmps.setIfInBounds ta.1 ta.2) tmps, defers := dfs }
  | [], l, xs, e, tmps, dfs, hl, hlen, hps, hE => hE
  | t :: ps, .cons v0 t0, x :: xs, e, tmps, dfs, .cons hx hl, hlen, hps, hE => by
    have ht : t < nt := hps t (List.mem_cons_self ..)
    have h1 : ER g ρ nt (E2.wr t v0 e) { tmps := tmps.setIfInBounds t x, defers := dfs } := by
      have := hE.put (dst := some t) (d := Dst.at (D.dig (t / 16)) (D.dig (t % 16))) hx (by simp [compDst, ht])
      rw [Dst.put_at] at this
      exact this
    have h2 := putAt_sound (ps := ps) (l := t0) (xs := xs) hl (by simpa using hlen) (fun u hu => hps u (List.mem_cons_of_mem _ hu)) h1
    exact h2
  | t :: ps, _, [], e, tmps, dfs, .nil, hlen, hps, hE => by simp at hlen

theorem round_end {n : Nat} {k : K} {i : Nat} {s s' : St} {v : V} {w : World} {L : Loc} {jump : Option Code} (h : roundEnd k i jump s = .ok v s') (hW : WR g ρ base s w) (hg : g k i = some L) :
    ∃ w', (Instr.endRound L.blk jump).run P w = .ok (.bool jump.isNone) w' ∧ Step g ρ base s w g s' w' ∧ v = .bool jump.isNone := by
  unfold roundEnd at h
  cases hl : Obj.loop? i (H4.at k s.h) with
  | no => rw [hl] at h; exact absurd (show RC.bad 146 = .ok v s' from h) (by simp)
  | yes env ps A B nt st pend =>
    rw [hl] at h
    have hobj := loop_inv hl
    have h0 := hW.obj hg
    rw [hobj] at h0
    obtain ⟨e1, e2, e3, rr, hheap, _⟩ := h0
    refine ⟨_, run_endRound hheap jump, ?_⟩
    cases jump with
    | none =>
      have h : RC.ok (.bool true) ⟨H4.put k (.loop i env ps A B nt .ready none) s.h, s.nk, s.nx⟩ = .ok v s' := h
      injection h with h1 h2
      subst h1 h2
      exact ⟨hW.setLoop hg hobj hheap .ready none, rfl⟩
    | some c =>
      have h : RC.ok (.bool false) ⟨H4.put k (.loop i env ps A B nt .done (some c)) s.h, s.nk, s.nx⟩ = .ok v s' := h
      injection h with h1 h2
      subst h1 h2
      exact ⟨hW.setLoop hg hobj hheap .done (some c), rfl⟩

theorem round_sound (hO : OpSound P gs ρ base) (hF : FreshSound P gs ρ) {call : Nat → V → St → RC} (hC : CallSound P gs ρ base call) {k : K} {i : Nat} {rest v : V} {s s' : St}
    (h : roundRun call (fun nt c => compC P gs false nt c) (.agg (.cons (yldV k i) rest)) s = .ok v s') {w : World} {L : Loc} {xs : List Value} (hG : GlobR gs g) (hW : WR g ρ base s w) (hg : g k i = some L) (hxs : VL g ρ rest xs) :
    ∃ fn tmps A B, (Instr.yield L.blk xs.toArray).run P w = .ok (.round L.blk fn tmps A B) w ∧ ∀ n, RoundIn Fence.wide n P L.blk fn tmps A B w fun en w' => ∃ x g', en = .returned x ∧ Step g ρ base s w g' s' w' ∧ VR g' ρ v x := by
  have h : (match (generalizing := false) Obj.loop? i (H4.at k s.h) with
    | .no => RC.bad 150
    | .yes env ps a b nt _ _ => bif band (V.lenIs (List.length ps) rest) (ps.all fun t => Nat.blt t nt) then
        R.rec (motive := fun _ => RC) (fun e1 s1 => roundBody call k i (compC P gs false nt b) e1 s1) (fun _ _ _ => .bad 151) (fun _ _ _ => .bad 151) (fun _ _ => .bad 151) (fun w => .bad w) (evC call (compC P gs false nt a) (putAt ps rest env) s)
      else .bad 152) = .ok v s' := h
  cases hl : Obj.loop? i (H4.at k s.h) with
  | no => rw [hl] at h; exact absurd (show RC.bad 150 = .ok v s' from h) (by simp)
  | yes env ps A B nt st pend =>
    rw [hl] at h
    dsimp only at h
    have hobj := loop_inv hl
    have h0 := hW.obj hg
    rw [hobj] at h0
    obtain ⟨e1, e2, e3, rr, hheap, ⟨e5, e6, e7, e8, e9⟩, e10, e11, e12⟩ := h0
    cases hb : band (V.lenIs (List.length ps) rest) (ps.all fun t => Nat.blt t nt) with
    | false => rw [hb] at h; exact absurd (show RC.bad 152 = .ok v s' from h) (by simp)
    | true =>
      rw [hb] at h
      obtain ⟨hb1, hb2⟩ := band_iff.1 hb
      have hlen := hxs.lenIs hb1
      have hps : ∀ t ∈ ps, t < nt := fun t ht => by
        have := List.all_eq_true.1 hb2 t ht
        exact Nat.le_of_ble_eq_true this
      let tmps : Array Value := (ps.zip xs).foldl (fun tmps (ta : Nat × Value) => tmps.setIfInBounds ta.1 ta.2) rr.tmps
      have hE : ER g ρ nt (putAt ps rest env) { tmps := tmps, defers := [] } := putAt_sound hxs hlen hps ⟨e10, e11, e12⟩
      refine ⟨rr.fn, tmps, A, B, ?_, fun n => ?_⟩
      · unfold Instr.yield
        rw [Sem.run_bind, run_getLoop hheap]
        simp only [Result.andThen_ok]
        have hsz : xs.toArray.size = rr.params.size := by
          rw [← Array.length_toList (xs := rr.params), e5, ← hlen]
          rfl
        have hfold : (rr.params.zip xs.toArray).foldl (fun tmps (ta : Nat × Value) => tmps.setIfInBounds ta.1 ta.2) rr.tmps = tmps := by
          rw [← Array.foldl_toList, Array.toList_zip, e5]
        simp only [hsz, ne_eq, not_true_eq_false, if_false]
        rw [← hfold, ← e6, ← e7]
        rfl
      · have h : R.rec (motive := fun _ => RC) (fun e1 s1 => roundBody call k i (compC P gs false nt B) e1 s1) (fun _ _ _ => .bad 151) (fun _ _ _ => .bad 151) (fun _ _ => .bad 151) (fun w => .bad w) (evC call (compC P gs false nt A) (putAt ps rest env) s) = .ok v s' := h
        refine roundIn_of_wpIn (F := Fence.wide) trivial ?_
        cases hA : evC call (compC P gs false nt A) (putAt ps rest env) s with
        | norm e1 s1 =>
          rw [hA] at h
          have h : roundBody call k i (compC P gs false nt B) e1 s1 = .ok v s' := h
          refine wpIn_mono (evC_sound (rd := some L.blk) (nd := n) hO hF hC (il := false) (by simp) A hA trivial hG hE hW) ?_
          rintro ex a1 w1 ⟨rfl, g1, rs1, _, _, hstep1, hE1⟩
          have hgl : g1 k i = some L := hstep1.ext.le _ _ _ hg
          unfold roundBody at h
          cases hl1 : Obj.loop? i (H4.at k s1.h) with
          | no => rw [hl1] at h; exact absurd (show RC.bad 147 = .ok v s' from h) (by simp)
          | yes env' ps' A' B' nt' st' pend' =>
            rw [hl1] at h
            have hobj1 := loop_inv hl1
            have h1 := hstep1.wr.obj hgl
            rw [hobj1] at h1
            obtain ⟨_, _, _, r1, hheap1, ⟨_, _, _, d8, d9⟩, _⟩ := h1
            cases st' with
            | ready =>
              have hset := hstep1.wr.setLoop hgl hobj1 hheap1 .busy r1.pending
              have hbeg := run_beginRound (P := P) hheap1 d8
              refine ⟨_, hbeg, ?_⟩
              have h : R.rec (motive := fun _ => RC) (fun _ s3 => roundEnd k i none s3) (fun id _ s3 => roundEnd k i (some (.exit id)) s3) (fun _ _ _ => .bad 148) (fun _ s3 => roundEnd k i (some .ret) s3) (fun w => .bad w)
                (evC call (compC P gs false nt B) e1 ⟨H4.put k (.loop i env' ps' A' B' nt' .busy pend') s1.h, s1.nk, s1.nx⟩) = .ok v s' := h
              rw [← d9] at h
              have hS2 := hstep1.trans hset
              have fin : ∀ {jump : Option Code} {s3 : St} {g3 : G} {w3 : World}, roundEnd k i jump s3 = .ok v s' → Step g1 ρ base ⟨H4.put k (.loop i env' ps' A' B' nt' .busy r1.pending) s1.h, s1.nk, s1.nx⟩ (World.put w1 L.blk (.loop { r1 with state := .busy, pending := r1.pending })) g3 s3 w3 →
                  ∃ y w4, (Instr.endRound L.blk jump).run P w3 = .ok y w4 ∧ ∃ x g', Ending.returned y = .returned x ∧ Step g ρ base s w g' s' w4 ∧ VR g' ρ v x := by
                intro jump s3 g3 w3 he hS3
                obtain ⟨w4, hrun, hS4, hv⟩ := round_end (P := P) (n := n) he hS3.wr (hS3.ext.le _ _ _ hgl)
                exact ⟨_, w4, hrun, _, g3, rfl, hS2.trans (hS3.trans hS4), hv ▸ .bool _⟩
              cases hB : evC call (compC P gs false nt B) e1 ⟨H4.put k (.loop i env' ps' A' B' nt' .busy r1.pending) s1.h, s1.nk, s1.nx⟩ with
              | norm e3 s3 =>
                rw [hB] at h
                refine wpIn_mono (evC_sound (rd := some L.blk) (nd := n) hO hF hC (il := false) (by simp) B hB trivial (hG.mono hstep1.ext.le) hE1 hset.wr) ?_
                rintro ex a3 w3 ⟨rfl, g3, rs3, _, _, hstep3, _⟩
                exact fin h hstep3
              | ret e3 s3 =>
                rw [hB] at h
                refine wpIn_mono (evC_sound (rd := some L.blk) (nd := n) hO hF hC (il := false) (by simp) B hB trivial (hG.mono hstep1.ext.le) hE1 hset.wr) ?_
                rintro ex a3 w3 ⟨rfl, g3, rs3, _, _, hstep3, _⟩
                exact fin h hstep3
              | exit id e3 s3 =>
                rw [hB] at h
                refine wpIn_mono (evC_sound (rd := some L.blk) (nd := n) hO hF hC (il := false) (by simp) B hB trivial (hG.mono hstep1.ext.le) hE1 hset.wr) ?_
                rintro ex a3 w3 ⟨rfl, g3, rs3, _, _, hstep3, _⟩
                exact fin h hstep3
              | goto l e3 s3 => rw [hB] at h; exact absurd (show RC.bad 148 = .ok v s' from h) (by simp)
              | bad q => rw [hB] at h; exact absurd (show RC.bad q = .ok v s' from h) (by simp)
            | busy => exact absurd (show RC.bad 149 = .ok v s' from h) (by simp)
            | done => exact absurd (show RC.bad 149 = .ok v s' from h) (by simp)
            | exhausted => exact absurd (show RC.bad 149 = .ok v s' from h) (by simp)
        | exit id e1 s1 => rw [hA] at h; exact absurd (show RC.bad 151 = .ok v s' from h) (by simp)
        | goto l e1 s1 => rw [hA] at h; exact absurd (show RC.bad 151 = .ok v s' from h) (by simp)
        | ret e1 s1 => rw [hA] at h; exact absurd (show RC.bad 151 = .ok v s' from h) (by simp)
        | bad q => rw [hA] at h; exact absurd (show RC.bad q = .ok v s' from h) (by simp)
end
end Go.Ev

namespace Go.Ev
set_option linter.unusedVariables false

def NC : RO → Prop
  | .call _ _ _ => False
  | _ => True

theorem KP.nc {s : St} {r : RO} (h : KP s r) : NC r := by cases r <;> first | trivial | exact h
theorem FP.nc {k : K} {s : St} {r : RO} (h : FP k s r) : NC r := by cases r <;> first | trivial | exact h
theorem NC.bool {b : Bool} {x y : RO} (hx : NC x) (hy : NC y) : NC (Bool.rec (motive := fun _ => RO) x y b) := by cases b <;> assumption
theorem NC.alloc {elem sz n : Nat} {ch : V} {s : St} {k : K → Nat → St → RO} (h : ∀ a b c, NC (k a b c)) : NC (alloc elem sz n ch s k) := by
  unfold Ev.alloc
  cases s.nx with
  | zero => trivial
  | succ m => exact NC.bool trivial (h _ _ _)
theorem NC.row {f : K} {v : Nat} {s : St} {c : Nat → Nat → V → RO} (h : ∀ a b d, NC (c a b d)) : NC (row f v s c) := by
  unfold Ev.row
  cases Obj.cells? (H4.at f s.h) with
  | no => trivial
  | yes e sz ro a b vs =>
    show NC (OW.rec (motive := fun _ => RO) (.bad 23) (fun n ch => c sz n ch) (Ver.find v vs))
    cases Ver.find v vs; trivial; exact h _ _ _
theorem NC.getElems {es n : Nat} {f : K} {v o : Nat} {s : St} {k : V → RO} (h : ∀ l, NC (k l)) : NC (getElems es n f v o s k) := by
  unfold Ev.getElems
  cases n with
  | zero => exact h _
  | succ n => exact NC.row fun _ _ _ => NC.bool trivial (NC.bool trivial (h _))
theorem NC.write {f : K} {v o size : Nat} {s : St} {upd : Nat → V → V} {k : St → RO} (h : ∀ s', NC (k s')) : NC (write f v o size s upd k) := by
  unfold Ev.write
  cases Obj.cells? (H4.at f s.h) with
  | no => trivial
  | yes elem sz ro a b vs =>
    refine NC.bool (NC.bool trivial ?_) trivial
    cases Ver.from v vs with
    | none => trivial
    | more id n ch rest => exact NC.bool trivial (h _)
theorem NC.str {k : Nat → Nat → RO} {v : V} (h : ∀ a b, NC (k a b)) : NC (withStr v k) := by unfold withStr; cases V.str? v; trivial; exact h _ _

theorem NC.nat {k : Nat → RO} {v : V} (h : ∀ a, NC (k a)) : NC (withNat v k) := by
  unfold withNat
  cases V.int? v with
  | no => trivial
  | yes kd a => cases a with
    | ofNat m => exact h _
    | negSucc m => trivial
theorem NC.i64 {k : Nat → RO} {v : V} (h : ∀ a, NC (k a)) : NC (withI64 v k) := by
  unfold withI64 withInt
  cases V.int? v with
  | no => trivial
  | yes kd a =>
    refine NC.bool trivial ?_
    cases a with
    | ofNat m => exact h _
    | negSucc m => trivial

theorem NC.source {es : Nat} {x : V} {s : St} {k : Nat → (Nat → (V → RO) → RO) → RO} (h : ∀ n more, (∀ m kk, (∀ l, NC (kk l)) → NC (more m kk)) → NC (k n more)) : NC (source es x s k) := by
  unfold Ev.source
  cases V.sl? x with
  | no => exact NC.str fun _ _ => NC.bool trivial (h _ _ fun m kk hk => hk _)
  | nils => exact h _ _ fun m kk hk => hk _
  | yes f v o len cap ex es' => exact NC.bool trivial (h _ _ fun m kk hk => NC.getElems hk)

theorem NC.app {elem es : Nat} {x y : V} {s : St} : NC (evApp elem es x y s) := by
  unfold evApp
  refine NC.source fun n more hm => ?_
  have hnew : ∀ n l, NC (appNew elem es n l s) := fun n l => NC.alloc fun _ _ _ => trivial
  cases V.sl? x with
  | no => trivial
  | nils => exact NC.bool (NC.bool trivial (hm _ _ fun l => hnew _ _)) trivial
  | yes f v o len cap ex es' =>
    refine NC.bool trivial (NC.bool ?_ ?_)
    all_goals first
      | exact NC.bool (NC.bool trivial (hm _ _ fun l => NC.bool (by
          unfold appOpen
          cases Obj.cells? (H4.at f s.h) with
          | no => trivial
          | yes elem' sz ro a b vs =>
            show NC (Ver.rec (motive := fun _ => RO) _ _ (Ver.from v vs))
            cases Ver.from v vs with
            | none => trivial
            | more id nv ch rest =>
              refine NC.bool trivial ?_
              cases s.nx <;> trivial) (NC.getElems fun old => hnew _ _))) (NC.bool (hm _ _ fun l => NC.bool trivial (NC.write fun s' => trivial)) trivial)
      | exact NC.bool (hm _ _ fun l => NC.bool trivial (NC.write fun s' => trivial)) trivial
      | exact NC.bool trivial (hm _ _ fun l => NC.bool (by
          unfold appOpen
          cases Obj.cells? (H4.at f s.h) with
          | no => trivial
          | yes elem' sz ro a b vs =>
            show NC (Ver.rec (motive := fun _ => RO) _ _ (Ver.from v vs))
            cases Ver.from v vs with
            | none => trivial
            | more id nv ch rest =>
              refine NC.bool trivial ?_
              cases s.nx <;> trivial) (NC.getElems fun old => hnew _ _))

theorem NC.fillElems {es len : Nat} {e : E2} {k : V → RO} (h : ∀ c, NC (k c)) : ∀ {ps : PartL} {z : V}, NC (fillElems ps es len e z k) := by
  intro ps
  induction ps with
  | nil => intro z; exact h _
  | cons off size x rest ih =>
    intro z
    refine NC.bool ?_ (NC.bool trivial ih)
    cases V.agg? (x.val e) with
    | no => trivial
    | yes cs => exact NC.bool trivial ih

section
variable {P : Program} {gs : Nat → Bool} {g : G} {ρ : Rho} {base nt : Nat} {e : E2} {s : St} {a : Act} {w : World} {o : Oper} {iop : IOp}

def Ans (P : Program) (g : G) (ρ : Rho) (base : Nat) (s : St) (w : World) (a : Act) (o : Oper) (iop : IOp) (e : E2) : Prop :=
  (∀ v s', evOp iop e s = .ok v s' → OpOK P g ρ base s w a o v s') ∧
    (∀ f args s', evOp iop e s = .call f args s' → s' = s ∧ CallTo P g ρ w f args ((execOp a.eval o).run P w))

theorem Ans.of (hn : NC (evOp iop e s)) (h : ∀ v s', evOp iop e s = .ok v s' → OpOK P g ρ base s w a o v s') : Ans P g ρ base s w a o iop e :=
  ⟨h, fun f args s' hc => by rw [hc] at hn; exact hn.elim⟩
theorem Ans.float (hf : isFloat iop = true) (h : ∀ v s', evOp iop e s = .ok v s' → OpOK P g ρ base s w a o v s') : Ans P g ρ base s w a o iop e := Ans.of (evOp_KP hf e s).nc h

theorem zeroCells_spec {t : TypeId} {z : V} (h : zeroCellsT P t = some z) : ∃ zv, (P.info? t).bind (·.zero) = some zv ∧ ofCells zv.cells.toList = some z := by
  unfold zeroCellsT at h
  cases hz : (P.info? t).bind (·.zero) with
  | none => rw [hz] at h; cases h
  | some zv => rw [hz] at h; exact ⟨zv, rfl, h⟩

theorem size_pos {t : TypeId} (h : (sizeT P t).any (0 < ·) = true) : ∃ n, sizeT P t = some (n + 1) := by
  cases hs : sizeT P t with
  | none => rw [hs] at h; cases h
  | some m =>
    cases m with
    | zero => rw [hs] at h; cases h
    | succ n => exact ⟨n, rfl⟩

variable (hG : GlobR gs g) (hE : ER g ρ nt e a) (hW : WR g ρ base s w)
include hG hE hW

theorem snd_alloc {t : TypeId} (ho : o.op = .alloc t) (h : compOp0 P gs nt (.alloc t) = some iop) : Ans P g ρ base s w a o iop e := by
  simp only [compOp0] at h
  split at h
  · rename_i n z hn hz
    split at h
    · rename_i hl
      injection h with h
      subst h
      obtain ⟨zv, h1, h2⟩ := zeroCells_spec hz
      exact Ans.of (NC.alloc (k := fun f v s' => .ok (.ptr f v 0) s') fun _ _ _ => trivial) fun v s' => op_new hG hE hW ho hn h1 h2 hl
    · cases h
  · cases h

theorem snd_box {t : TypeId} {x : Operand} (ho : o.op = .box t x) (h : compOp0 P gs nt (.box t x) = some iop) : Ans P g ρ base s w a o iop e := by
  simp only [compOp0] at h
  split at h
  · rename_i n p h1 h2 h3
    injection h with h
    subst h
    refine Ans.of ?_ fun v s' => op_boxN hG hE hW ho h3
    show NC (OV.rec (motive := fun _ => RO) _ _ (V.agg? (p.val e)))
    cases V.agg? (p.val e) with
    | no => trivial
    | yes cs => exact NC.bool trivial (NC.alloc fun _ _ _ => trivial)
  · rename_i p h1 h2 h3
    injection h with h
    subst h
    exact Ans.of (NC.bool trivial (NC.alloc fun _ _ _ => trivial)) fun v s' => op_box1 hG hE hW ho h3
  · cases h

theorem snd_build {t : TypeId} {ps : Array (Nat × Operand)} (ho : o.op = .build t ps) (h : compOp0 P gs nt (.build t ps) = some iop) : Ans P g ρ base s w a o iop e := by
  simp only [compOp0] at h
  split at h
  · rename_i fs z ht hz
    split at h
    · rename_i hall
      cases hps : compParts P gs nt (placeS P fs) ps.toList with
      | none => rw [hps] at h; cases h
      | some l =>
        rw [hps] at h
        injection h with h
        subst h
        obtain ⟨zv, h1, h2⟩ := zeroCells_spec hz
        refine Ans.float rfl fun v s' => op_buildS hG hE hW ho ht h1 h2 (fun f hf => ?_) hps
        have := List.all_eq_true.1 hall f hf
        exact Option.isSome_iff_exists.1 this
    · cases h
  · rename_i m el z ht hz
    split at h
    · rename_i n hn
      cases hps : compParts P gs nt (fun i => some (i * n, n)) ps.toList with
      | none => rw [hps] at h; cases h
      | some l =>
        rw [hps] at h
        injection h with h
        subst h
        obtain ⟨zv, h1, h2⟩ := zeroCells_spec hz
        exact Ans.float rfl fun v s' => op_buildA hG hE hW ho ht hn h1 h2 hps
    · cases h
  · cases h

theorem snd_buildSlice {t : TypeId} {len : Nat} {ps : Array (Nat × Operand)} (ho : o.op = .buildSlice t len ps) (h : compOp0 P gs nt (.buildSlice t len ps) = some iop) : Ans P g ρ base s w a o iop e := by
  simp only [compOp0] at h
  split at h
  · rename_i el ht
    split at h
    · rename_i n z hn hz
      split at h
      · cases h
      · rename_i hc
        simp only [Bool.or_eq_true, decide_eq_true_eq, Bool.not_eq_true', not_or, Bool.not_eq_false] at hc
        cases hps : compParts P gs nt (fun i => some (i, n + 1)) ps.toList with
        | none => rw [hps] at h; cases h
        | some l =>
          rw [hps] at h
          injection h with h
          subst h
          obtain ⟨zv, h1, h2⟩ := zeroCells_spec hz
          exact Ans.of (NC.fillElems fun _ => NC.alloc (k := fun f v s' => .ok (.sl f v 0 len len true (n + 1)) s') fun _ _ _ => trivial) fun v s' => op_mkSl hG hE hW ho ht hn h1 h2 hc.2 hc.1 hps
    · cases h
  · cases h

theorem snd_load {t : TypeId} {x : Operand} (ho : o.op = .load t x) (h : compOp0 P gs nt (.load t x) = some iop) : Ans P g ρ base s w a o iop e := by
  simp only [compOp0] at h
  split at h
  · rename_i n p h1 h2 h3
    injection h with h
    subst h
    exact Ans.float rfl fun v s' => op_ldN hG hE hW ho h1 h2 h3
  · rename_i n p h1 h2 h3
    injection h with h
    subst h
    exact Ans.float rfl fun v s' => op_ld1 hG hE hW ho h1 h3
  · cases h

theorem snd_store {t : TypeId} {x y : Operand} (ho : o.op = .store t x y) (h : compOp0 P gs nt (.store t x y) = some iop) : Ans P g ρ base s w a o iop e := by
  simp only [compOp0] at h
  split at h
  · rename_i n p q h1 h2 h3 h4
    injection h with h
    subst h
    refine Ans.of ?_ fun v s' => op_stN hG hE hW ho h2 h3 h4
    cases hh : evOp (.stN (n + 1) p q) e s with
    | call f as s1 => exact store_noCall rfl hh
    | _ => trivial
  · rename_i p q h1 h2 h3 h4
    injection h with h
    subst h
    refine Ans.of ?_ fun v s' => op_st1 hG hE hW ho h2 h3 h4
    cases hh : evOp (.st1 p q) e s with
    | call f as s1 => exact store_noCall rfl hh
    | _ => trivial
  · cases h

theorem snd_bin {op : BinOp} {t u : TypeId} {x y : Operand} (ho : o.op = .binOp op t x y u) (h : compBin P gs nt op t x y = some iop) (hpr : proved iop = true) : Ans P g ρ base s w a o iop e := by
  unfold compBin at h
  cases hx : compOpd gs nt x with
  | none => rw [hx] at h; cases h
  | some p =>
    cases hy : compOpd gs nt y with
    | none => rw [hx, hy] at h; cases h
    | some q =>
      rw [hx, hy] at h
      have bin : some (IOp.bin op p q) = some iop → Ans P g ρ base s w a o iop e := by
        intro h
        injection h with h
        subst h
        exact Ans.float rfl fun v s' => op_bin hG hE hW ho hx hy
      have eqs : (op = .eql ∨ op = .neq) → (match nilKind x, nilKind y with
          | _, some k => if typeKind P t == some k then some (IOp.eqNil (negOf op) k p) else none
          | some k, none => if typeKind P t == some k then some (.eqNil (negOf op) k q) else none
          | none, none => match P.underlying t with
          | some (.int _) | some .string => some (.bin op p q)
          | some .bool => some (.eqB (negOf op) p q)
          | some (.pointer e) => if (sizeT P e).any (0 < ·) then some (.eq (negOf op) p q) else none
          | some (.interface _) => some (.eqI (negOf op) (ifaceTab P (List.range P.types.size)) p q)
          | some (.struct _) => (flatT P t).map fun n => .eqFlat (negOf op) n p q
          | _ => none) = some iop → Ans P g ρ base s w a o iop e := by
        intro hop h
        split at h
        · rename_i k hk
          split at h
          · rename_i hk2
            injection h with h
            subst h
            exact Ans.float rfl fun v s' => op_eqNil hG hE hW hop (by simpa using hk2) (.inl ⟨ho, hk⟩) hx
          · cases h
        · rename_i k hk _
          split at h
          · rename_i hk2
            injection h with h
            subst h
            exact Ans.float rfl fun v s' => op_eqNil hG hE hW hop (by simpa using hk2) (.inr ⟨ho, hk⟩) hy
          · cases h
        · split at h
          · exact bin h
          · exact bin h
          · rename_i ht
            injection h with h
            subst h
            exact Ans.float rfl fun v s' => op_eqB hG hE hW hop ht ho hx hy
          · rename_i el ht
            split at h
            · rename_i hpos
              injection h with h
              subst h
              obtain ⟨n, hn⟩ := size_pos hpos
              exact Ans.float rfl fun v s' => op_eqPtr hG hE hW hop ht hn ho hx hy
            · cases h
          · rename_i ht
            injection h with h
            subst h
            exact Ans.float rfl fun v s' => op_eqI hG hE hW hop ht ho hx hy
          · cases hf : flatT P t with
            | none => rw [hf] at h; cases h
            | some n =>
              rw [hf] at h
              injection h with h
              subst h
              exact Ans.float rfl fun v s' => op_eqFlat hG hE hW hop hf ho hx hy
          · cases h
      have other : (match P.underlying t with
          | some (.int _) | some .string => some (IOp.bin op p q)
          | _ => none) = some iop → Ans P g ρ base s w a o iop e := by
        intro h
        split at h
        · exact bin h
        · exact bin h
        · cases h
      cases op <;> first
        | exact other h
        | exact eqs (.inl rfl) h
        | exact eqs (.inr rfl) h
        | (dsimp only at h
           split at h
           · injection h with h
             subst h
             first
               | exact Ans.float rfl fun v s' => op_shift (left := true) hG hE hW rfl ho hx hy
               | exact Ans.float rfl fun v s' => op_shift (left := false) hG hE hW rfl ho hx hy
           · cases h)

theorem snd_slice {t : TypeId} {x : Operand} {lo hi mx : Option Operand} (ho : o.op = .slice t x lo hi mx) (h : compOp0 P gs nt (.slice t x lo hi mx) = some iop) (hpr : proved iop = true) : Ans P g ρ base s w a o iop e := by
  simp only [compOp0] at h
  split at h
  · rename_i p pl ph ht hp hl hh hm
    injection h with h
    subst h
    cases mx with
    | none => exact Ans.float rfl fun v s' => op_cut hG hE hW ho ht hp hl hh
    | some y =>
      simp only [compOpt] at hm
      cases hy : compOpd gs nt y with
      | none => rw [hy] at hm; cases hm
      | some q => rw [hy] at hm; cases hm
  · rename_i el p pl ph pm ht hp hl hh hm
    cases hc : mx.isSome && hi.isNone with
    | true => rw [hc] at h; cases h
    | false =>
      rw [hc] at h
      have h : (sizeT P el).map (fun es => IOp.slice es p pl ph pm) = some iop := h
      cases hn : sizeT P el with
      | none => rw [hn] at h; cases h
      | some es =>
        rw [hn] at h
        injection h with h
        subst h
        refine Ans.float rfl fun v s' => op_slice hG hE hW ho ht hn (fun hmx => ?_) hp hl hh hm
        rw [hmx, Bool.true_and] at hc
        cases hi with
        | none => cases hc
        | some _ => rfl
  · rename_i n el p pl ph pm ht hp hl hh hm
    cases hn : sizeT P el with
    | none => rw [hn] at h; cases h
    | some es =>
      rw [hn] at h
      injection h with h
      subst h
      exact absurd hpr (by simp [proved])
  · cases h

theorem snd_fieldAddr {t : TypeId} {x : Operand} {i : Nat} (ho : o.op = .fieldAddr t x i) (h : compOp0 P gs nt (.fieldAddr t x i) = some iop) : Ans P g ρ base s w a o iop e := by
  simp only [compOp0] at h
  split at h
  · rename_i fs p ht hp
    split at h
    · rename_i fd hf
      split at h
      · rename_i hn
        injection h with h
        subst h
        cases hs : sizeT P fd.type with
        | none => rw [hs] at hn; cases hn
        | some n =>
          rw [hs] at hn
          exact Ans.float rfl fun v s' => op_fld hG hE hW ho ht hf hs (by simpa using hn) hp
      · cases h
    · cases h
  · cases h

theorem snd_field {t : TypeId} {x : Operand} {i : Nat} (ho : o.op = .field t x i) (h : compOp0 P gs nt (.field t x i) = some iop) : Ans P g ρ base s w a o iop e := by
  simp only [compOp0] at h
  split at h
  · rename_i fs p ht hp
    split at h
    · rename_i fd hf
      split at h
      · rename_i n h1 h2
        injection h with h
        subst h
        exact Ans.float rfl fun v s' => op_partN hG hE hW ho ht hf h1 h2 hp
      · rename_i n h1 h2
        injection h with h
        subst h
        exact Ans.float rfl fun v s' => op_part1 hG hE hW ho ht hf h1 hp
      · cases h
    · cases h
  · cases h

theorem snd_indexAddr {t : TypeId} {x y : Operand} (ho : o.op = .indexAddr t x y) (h : compOp0 P gs nt (.indexAddr t x y) = some iop) : Ans P g ρ base s w a o iop e := by
  simp only [compOp0] at h
  split at h
  · rename_i el p q ht hp hq
    cases hn : sizeT P el with
    | none => rw [hn] at h; cases h
    | some es =>
      rw [hn] at h
      injection h with h
      subst h
      exact Ans.float rfl fun v s' => op_ixA hG hE hW ho ht hn hp hq
  · rename_i n el p q ht hp hq
    cases hn : sizeT P el with
    | none => rw [hn] at h; cases h
    | some es =>
      rw [hn] at h
      injection h with h
      subst h
      exact Ans.float rfl fun v s' => op_ixArr hG hE hW ho ht hn hp hq
  · cases h

theorem snd_index {t : TypeId} {x y : Operand} (ho : o.op = .index t x y) (h : compOp0 P gs nt (.index t x y) = some iop) : Ans P g ρ base s w a o iop e := by
  simp only [compOp0] at h
  split at h
  · rename_i p q ht hp hq
    injection h with h
    subst h
    exact Ans.float rfl fun v s' => op_ixS hG hE hW ho ht hp hq
  · rename_i n el p q ht hp hq
    split at h
    · rename_i es h1 h2
      injection h with h
      subst h
      exact Ans.float rfl fun v s' => op_ixVN hG hE hW ho ht h1 h2 hp hq
    · rename_i h1 h2
      injection h with h
      subst h
      exact Ans.float rfl fun v s' => op_ixV1 hG hE hW ho ht h1 h2 hp hq
    · cases h
  · cases h

theorem snd_convert {t u : TypeId} {x : Operand} (ho : o.op = .convert t u x) (h : compConvert P gs nt t u x = some iop) (hpr : proved iop = true) : Ans P g ρ base s w a o iop e := by
  unfold compConvert at h
  split at h
  · rename_i k' k p hs hd hp
    injection h with h
    subst h
    exact Ans.float rfl fun v s' => op_cvI hG hE hW ho hs hd hp
  · rename_i p hs hd hp
    injection h with h
    subst h
    exact Ans.float rfl fun v s' => op_cvSame hG hE hW ho hs hd hp
  · injection h with h
    subst h
    exact absurd hpr (by simp [proved])
  · rename_i t' p hs hd hp
    split at h
    · rename_i hpos
      injection h with h
      subst h
      obtain ⟨n, hn⟩ := size_pos hpos
      exact Ans.float rfl fun v s' => op_toUns hG hE hW ho hs hd hn (Nat.succ_pos n) hp
    · cases h
  · rename_i t' p hs hd hp
    split at h
    · rename_i es hn
      injection h with h
      subst h
      exact Ans.float rfl fun v s' => op_fromUns hG hE hW ho hs hd hn hp
    · cases h
  · rename_i el p hs hd hp
    split at h
    · rename_i hel
      injection h with h
      subst h
      refine Ans.of ?_ fun v s' => op_s2b hG hE hW ho hs hd hel hp
      exact NC.str fun _ _ => NC.bool trivial (NC.alloc fun _ _ _ => trivial)
    · cases h
  · rename_i el p hs hd hp
    split at h
    · rename_i hel
      injection h with h
      subst h
      refine Ans.of ?_ fun v s' => op_b2s hG hE hW ho hs hd hel hp
      show NC (evB2S (p.val e) s)
      unfold evB2S
      cases V.sl? (p.val e) with
      | no => trivial
      | nils => trivial
      | yes f v o len cap ex es => exact NC.bool trivial (NC.getElems fun _ => NC.bool trivial (KP.okStr (s := s) _ _).nc)
    · cases h
  · cases h

theorem snd_makeInterface {t : TypeId} {x : Operand} (ho : o.op = .makeInterface t x) (h : compOp0 P gs nt (.makeInterface t x) = some iop) : Ans P g ρ base s w a o iop e := by
  simp only [compOp0] at h
  split at h
  · cases h
  · rename_i d p hd ht hp
    injection h with h
    subst h
    exact Ans.float rfl fun v s' => op_mkIf hG hE hW ho ht (fun ms hh => hd ms hh) hp
  · cases h

omit hG hE hW in
theorem opds_one {xs : List Operand} {as : OpdL} {p : Opd} (h : compOpds gs nt xs = some as) (he : opdList as = [p]) : ∃ x, xs = [x] ∧ compOpd gs nt x = some p := by
  cases xs with
  | nil => simp [compOpds] at h; subst h; simp [opdList] at he
  | cons x xs =>
    simp only [compOpds] at h
    cases hx : compOpd gs nt x with
    | none => simp [hx] at h
    | some q =>
      cases hl : compOpds gs nt xs with
      | none => simp [hx, hl] at h
      | some l =>
        simp only [hx, hl, Option.some.injEq] at h
        subst h
        simp only [opdList, List.cons.injEq] at he
        obtain ⟨rfl, he⟩ := he
        cases xs with
        | nil => exact ⟨x, rfl, hx⟩
        | cons y ys =>
          simp only [compOpds] at hl
          cases hy : compOpd gs nt y with
          | none => simp [hy] at hl
          | some r =>
            cases hm : compOpds gs nt ys with
            | none => simp [hy, hm] at hl
            | some m => simp only [hy, hm, Option.some.injEq] at hl; subst hl; simp [opdList] at he

omit hG hE hW in
theorem opds_two {xs : List Operand} {as : OpdL} {p q : Opd} (h : compOpds gs nt xs = some as) (he : opdList as = [p, q]) : ∃ x y, xs = [x, y] ∧ compOpd gs nt x = some p ∧ compOpd gs nt y = some q := by
  cases xs with
  | nil => simp [compOpds] at h; subst h; simp [opdList] at he
  | cons x xs =>
    simp only [compOpds] at h
    cases hx : compOpd gs nt x with
    | none => simp [hx] at h
    | some r =>
      cases hl : compOpds gs nt xs with
      | none => simp [hx, hl] at h
      | some l =>
        simp only [hx, hl, Option.some.injEq] at h
        subst h
        simp only [opdList, List.cons.injEq] at he
        obtain ⟨rfl, he⟩ := he
        obtain ⟨y, hy1, hy2⟩ := opds_one hl he
        subst hy1
        exact ⟨x, y, rfl, hx, hy2⟩

omit hG hE hW in
theorem opds_three {xs : List Operand} {as : OpdL} {p q r : Opd} (h : compOpds gs nt xs = some as) (he : opdList as = [p, q, r]) : ∃ x y z, xs = [x, y, z] ∧ compOpd gs nt x = some p ∧ compOpd gs nt y = some q ∧ compOpd gs nt z = some r := by
  cases xs with
  | nil => simp [compOpds] at h; subst h; simp [opdList] at he
  | cons x xs =>
    simp only [compOpds] at h
    cases hx : compOpd gs nt x with
    | none => simp [hx] at h
    | some r =>
      cases hl : compOpds gs nt xs with
      | none => simp [hx, hl] at h
      | some l =>
        simp only [hx, hl, Option.some.injEq] at h
        subst h
        simp only [opdList, List.cons.injEq] at he
        obtain ⟨rfl, he⟩ := he
        obtain ⟨y, z, hy1, hy2, hy3⟩ := opds_two hl he
        subst hy1
        exact ⟨x, y, z, rfl, hx, hy2, hy3⟩

omit hG hE hW in
theorem methodTab_find {name : String} {t f : Nat} {k : Nat → RO} {as : V} {s' : St} : ∀ {l : List Nat}, MTab.find t (methodTab P name l) k = .call f as s' →
    ∃ f' b i m u, P.info? t = some i ∧ i.methods.find? (·.name == name) = some m ∧ m.path.toList = [] ∧ m.func = some (f', b) ∧ P.underlying t = some u ∧
      (b = true → ∃ e, u = .pointer e) ∧ (b = false → ∀ e, u ≠ .pointer e) ∧ k f' = .call f as s' := by
  intro l
  induction l with
  | nil => intro h; cases h
  | cons t' l ih =>
    intro h
    unfold methodTab at h
    split at h
    · rename_i i hi
      split at h
      · rename_i m hm
        split at h
        · rename_i hp hf hu
          have h2 : Bool.rec (motive := fun _ => RO) (MTab.find t (methodTab P name l) k) (k _) (Nat.beq t t') = .call f as s' := h
          cases hb : Nat.beq t t' with
          | false => rw [hb] at h2; exact ih h2
          | true =>
            rw [hb] at h2
            have ht := Nat.eq_of_beq_eq_true hb
            subst ht
            exact ⟨_, _, i, m, _, hi, hm, hp, hf, hu, fun _ => ⟨_, rfl⟩, fun hh => (Bool.noConfusion hh), h2⟩
        · exact ih h
        · rename_i hno hp hf hu
          have h2 : Bool.rec (motive := fun _ => RO) (MTab.find t (methodTab P name l) k) (k _) (Nat.beq t t') = .call f as s' := h
          cases hb : Nat.beq t t' with
          | false => rw [hb] at h2; exact ih h2
          | true =>
            rw [hb] at h2
            have ht := Nat.eq_of_beq_eq_true hb
            subst ht
            exact ⟨_, _, i, m, _, hi, hm, hp, hf, hu, fun hh => (Bool.noConfusion hh), fun _ e he => by subst he; exact hno _ rfl, h2⟩
        · exact ih h
      · exact ih h
    · exact ih h

omit hG hE hW in
theorem mtab_nok {t : Nat} {k : Nat → RO} {v : V} {s' : St} (hk : ∀ n, k n ≠ .ok v s') : ∀ m : MTab, MTab.find t m k ≠ .ok v s' := by
  intro m
  induction m with
  | nil => exact fun h => by cases h
  | cons t' f rest ih =>
    show Bool.rec (motive := fun _ => RO) (MTab.find t rest k) (k f) (Nat.beq t t') ≠ _
    cases Nat.beq t t' with
    | false => exact ih
    | true => exact hk f

omit hG hE hW in
theorem run_method {name : String} {t : TypeId} {f : FuncId} {b : Bool} {i : TypeInfo} {m : Method} {u : TypeDesc} {v : Value} (hi : P.info? t = some i) (hm : i.methods.find? (·.name == name) = some m)
    (hp : m.path.toList = []) (hf : m.func = some (f, b)) (hu : P.underlying t = some u) (h1 : b = true → ∃ e, u = .pointer e) (h2 : b = false → ∀ e, u ≠ .pointer e) (n : Nat) :
    (method (n + 1) t v name).run P w = .ok (f, v) w := by
  unfold method
  simp only [Sem.run_bind, run_typeInfo hi, Result.andThen_ok, hm, hp, follow, Sem.run_pure, hf]
  unfold receiverAt
  cases b with
  | true =>
    obtain ⟨e, rfl⟩ := h1 rfl
    simp [run_und hu, Place.get]
  | false =>
    have h2 := h2 rfl
    simp only [Sem.run_bind, run_und hu, Result.andThen_ok]
    cases u <;> first
      | exact absurd rfl (h2 _)
      | simp [Place.get]

omit hG hE hW in
theorem keyCls_spec {t : TypeId} {cls : Nat} (h : keyCls P t = some cls) : ∃ d, P.underlying t = some d ∧ KeyD cls d ∧ KeyChk P cls t := by
  unfold keyCls at h
  split at h
  · rename_i k hu; injection h with h; subst h; exact ⟨_, hu, .inl ⟨rfl, k, rfl⟩, fun _ _ _ _ _ _ _ _ => run_checkKey (n := 9999) ⟨by omega, .inl ⟨rfl, k, rfl⟩⟩ hu⟩
  · rename_i hu; injection h with h; subst h; exact ⟨_, hu, .inr (.inl ⟨rfl, rfl⟩), fun _ _ _ _ _ _ _ _ => run_checkKey (n := 9999) ⟨by omega, .inr (.inl ⟨rfl, rfl⟩)⟩ hu⟩
  · rename_i hu; injection h with h; subst h; exact ⟨_, hu, .inr (.inr (.inl ⟨rfl, rfl⟩)), fun _ _ _ _ _ _ _ _ => run_checkKey (n := 9999) ⟨by omega, .inr (.inr (.inl ⟨rfl, rfl⟩))⟩ hu⟩
  · rename_i fs hu
    split at h
    · rename_i n hsz
      cases hfl : flatKey P 20 t n with
      | false => rw [hfl] at h; cases h
      | true =>
        rw [hfl] at h
        have h : some (3 + n) = some cls := h
        injection h with h
        subst h
        refine ⟨_, hu, .inr (.inr (.inr ⟨n, rfl⟩)), fun g ρ k kv w b hk hko => ?_⟩
        unfold keyOK at hko
        have h2 : Nat.ble (3 + n) 2 = false := by
          cases hb : Nat.ble (3 + n) 2 with
          | false => rfl
          | true => have := ble_iff.1 hb; omega
        rw [h2] at hko
        have hko : OV.rec (motive := fun _ => Bool) false (fun cs => V.lenIs (Nat.sub (3 + n) 3) cs) (V.agg? k) = true := hko
        cases hk with
        | agg hvl hc =>
          have hko : V.lenIs (Nat.sub (3 + n) 3) _ = true := hko
          have hl := hvl.lenIs hko
          have hn : Nat.sub (3 + n) 3 = n := by show 3 + n - 3 = n; omega
          rw [hn] at hl
          exact checkKey_flat hfl (by omega) b (by simpa using hl)
        | _ => exact absurd (show false = true from hko) (by decide)
    · cases h
  · cases h

theorem snd_call {c : Call} (ho : o.op = .call c) (h : compCall P gs nt c = some iop) (hpr : proved iop = true) : Ans P g ρ base s w a o iop e := by
  unfold compCall at h
  split at h
  · rename_i f as hc has
    split at h
    · rename_i fn hfn
      split at h
      · rename_i hb
        split at h
        · cases h
        · rename_i hname
          injection h with h
          subst h
          refine ⟨fun v s' hh => ?_, fun f' args s' hh => ?_⟩
          · exact absurd (show RO.call f (as.vals e) s = .ok v s' from hh) (by simp)
          · have hh : RO.call f (as.vals e) s = .call f' args s' := hh
            injection hh with h1 h2 h3
            subst h1 h2 h3
            refine ⟨rfl, .inl ⟨c.args.toList.map a.eval, opds_VL hG hE has, fun _ => ?_⟩⟩
            have hne : fn.name ≠ "runtime.NumGoroutine" := by simpa using hname
            have hbn : fn.body ≠ none := fun hh => by rw [hh] at hb; cases hb
            have harr : (c.args.toList.map a.eval).toArray = c.args.map a.eval := by rw [← Array.toList_map]
            rw [harr]
            simp [execOp, ho, resolve, hc, Act.eval, Deferred.ofValue, invoke, callFunc, hfn, hne, hbn]
      · rename_i hb
        have hb : fn.body.isSome = false := by simpa using hb
        unfold externOp at h
        split at h
        · rename_i hor
          have hor : fn.origin = "" := by simpa using hor
          split at h
          · rename_i x hn hl
            obtain ⟨y, hy1, hy2⟩ := opds_one has hl
            have hargs : c.args = #[y] := by rw [← hy1]
            split at h
            · rename_i t ht
              split at h
              · rename_i el hu
                split at h
                · rename_i hel
                  injection h with h; subst h
                  refine Ans.of ?_ fun v s' => op_xNoZero hG hE hW ho hc hfn hb hn hor hargs hy2 ht hu (by simpa using hel)
                  exact NC.i64 fun n => NC.bool trivial (NC.alloc fun _ _ _ => trivial)
                · cases h
              · cases h
            · cases h
          · rename_i x y hn hl
            obtain ⟨x', y', hxy, hx, hy⟩ := opds_two has hl
            have hargs : c.args = #[x', y'] := by rw [← hxy]
            split at h
            · rename_i gi hgi
              split at h
              · rename_i hgs
                injection h with h; subst h
                refine Ans.of ?_ fun v s' => op_xIndex hG hE hW ho hc hfn hb hn hor hargs hx hy hgi hgs
                exact (KP.str (s := s) fun _ _ => KP.str fun _ _ => KP.load1 fun _ => KP.i64 fun _ => KP.ite (KP.okInt _ _) (KP.bad _)).nc
              · cases h
            · cases h
          · rename_i x y hn hl
            obtain ⟨x', y', hxy, hx, hy⟩ := opds_two has hl
            have hargs : c.args = #[x', y'] := by rw [← hxy]
            injection h with h; subst h
            exact Ans.float rfl fun v s' => op_xCount hG hE hW ho hc hfn hb hn hor hargs hx hy
          · rename_i x y hn hl
            obtain ⟨x', y', hxy, hx, hy⟩ := opds_two has hl
            have hargs : c.args = #[x', y'] := by rw [← hxy]
            injection h with h; subst h
            exact Ans.float rfl fun v s' => op_xIndexByte hG hE hW ho hc hfn hb hn hor hargs hx hy
          · rename_i x hn hl
            obtain ⟨y, hy1, hy2⟩ := opds_one has hl
            have hargs : c.args = #[y] := by rw [← hy1]
            injection h with h; subst h
            exact Ans.float rfl fun v s' => op_same hG hE hW ho hc hfn hb hn hor hargs hy2
          · cases h
        · cases h
    · cases h
  · rename_i x as _ hc has
    cases hx : compOpd gs nt x with
    | none => rw [hx] at h; cases h
    | some p =>
      rw [hx] at h; injection h with h; subst h
      have hv := opd_VR hG hE hx
      refine ⟨fun v s' hh => ?_, fun f args s' hh => ?_⟩
      · exfalso
        have hh : evCallV (p.val e) as e s = .ok v s' := hh
        unfold evCallV at hh
        split at hh <;> cases hh
      · have hh : evCallV (p.val e) as e s = .call f args s' := hh
        generalize hpv : p.val e = pv at hh hv
        generalize hax : a.eval x = xv at hv
        unfold evCallV at hh
        split at hh
        · rename_i f' first cap
          injection hh with h1 h2 h3
          subst h1 h2 h3
          cases hv with | fn hfirst hcap =>
          rename_i xs ys
          refine ⟨rfl, .inl ⟨xs ++ (c.args.toList.map a.eval ++ ys), VL.app hfirst (opds_VLOn hG hE has hcap), fun hgood => ?_⟩⟩
          obtain ⟨fn, hfn, hbn, hne⟩ := hgood
          have harr : (c.args.toList.map a.eval).toArray = c.args.map a.eval := by rw [← Array.toList_map]
          have hall : (xs ++ (c.args.toList.map a.eval ++ ys)).toArray = xs.toArray ++ c.args.map a.eval ++ ys.toArray := by rw [← harr]; simp
          rw [hall]
          simp [execOp, ho, resolve, hc, hax, Deferred.ofValue, invoke, callFunc, hfn, hne, hbn]
        · rename_i y k i off cap
          injection hh with h1 h2 h3
          subst h1 h2 h3
          cases hv with
          | fn hfirst hcap => cases hfirst
          | yld hg =>
            rename_i L
            refine ⟨rfl, .inr ⟨rfl, k, i, as.vals e, L, c.args.toList.map a.eval, rfl, hg, opds_VL hG hE has, ?_⟩⟩
            have harr : (c.args.toList.map a.eval).toArray = c.args.map a.eval := by rw [← Array.toList_map]
            rw [harr]
            simp [execOp, ho, resolve, hc, hax, Deferred.ofValue, invoke]
        · cases hh
  · rename_i x name as hc has
    cases hx : compOpd gs nt x with
    | none => rw [hx] at h; cases h
    | some p =>
      rw [hx] at h; injection h with h; subst h
      have hv := opd_VR hG hE hx
      refine ⟨fun v s' hh => ?_, fun f args s' hh => ?_⟩
      · exfalso
        have hh : evCallI (methodTab P name (List.range P.types.size)) (p.val e) as e s = .ok v s' := hh
        unfold evCallI at hh
        split at hh
        · exact mtab_nok (fun n => by simp) _ hh
        · cases hh
      · have hh : evCallI (methodTab P name (List.range P.types.size)) (p.val e) as e s = .call f args s' := hh
        generalize hpv : p.val e = pv at hh hv
        generalize hax : a.eval x = xv at hv
        unfold evCallI at hh
        split at hh
        · rename_i t y
          obtain ⟨f', b, i, m, u, hi, hm, hp, hf, hu, h1, h2, h3⟩ := methodTab_find hh
          injection h3 with h4 h5 h6
          subst h4 h5 h6
          cases hv with | iface hy =>
          rename_i yv
          refine ⟨rfl, .inl ⟨yv :: c.args.toList.map a.eval, .cons hy (opds_VL hG hE has), fun hgood => ?_⟩⟩
          obtain ⟨fn, hfn, hbn, hne⟩ := hgood
          have harr : (c.args.toList.map a.eval).toArray = c.args.map a.eval := by rw [← Array.toList_map]
          have hall : (yv :: c.args.toList.map a.eval).toArray = #[yv] ++ c.args.map a.eval := by rw [← harr]; simp
          have hmeth : (method (P.types.size + Made.depth) t yv name).run P w = .ok (f', yv) w := run_method hi hm hp hf hu h1 h2 (P.types.size + 99)
          rw [hall]
          have hex : (Array.map a.eval c.args).extract 0 c.args.size = Array.map a.eval c.args := by
            apply Array.ext'; simp [List.take_of_length_le]
          have h0 : (#[Value.iface t yv] ++ Array.map a.eval c.args)[0]? = some (.iface t yv) := by simp [Array.getElem?_append]
          simp [execOp, ho, resolve, hc, hax, invoke, callMethod, h0, hex, hmeth, callFunc, hfn, hne, hbn]
        · cases hh
  · rename_i b as hc has
    split at h
    · rename_i p t hl ht
      obtain ⟨x, hx1, hx2⟩ := opds_one has hl
      have hargs : c.args = #[x] := by rw [← hx1]
      have htys : c.argTypes = #[t] := by rw [← ht]
      split at h
      · rename_i hu
        injection h with h; subst h
        exact Ans.float rfl fun v s' => op_lenS hG hE hW ho hc hargs htys hu hx2
      · rename_i el hu
        injection h with h; subst h
        exact Ans.float rfl fun v s' => op_lenL hG hE hW ho hc hargs htys hu hx2
      · rename_i kt el hu
        injection h with h; subst h
        exact Ans.float rfl fun v s' => op_lenM hG hE hW ho hc hargs htys hu hx2
      · cases h
    · rename_i p q t u hl ht
      obtain ⟨x, y, hxy, hx, hy⟩ := opds_two has hl
      have hargs : c.args = #[x, y] := by rw [← hxy]
      have htys : c.argTypes = #[t, u] := by rw [← ht]
      split at h
      · rename_i kt el hu
        obtain ⟨cls, hk, h⟩ := Option.map_eq_some_iff.1 h
        subst h
        obtain ⟨d, hkt, hd, hchk⟩ := keyCls_spec hk
        refine Ans.of ?_ fun v s' => op_delM hG hE hW ho hc hargs htys hu hkt hd hchk hx hy
        show NC (RO.ite (keyOK cls (q.val e)) (evDel cls (p.val e) (q.val e) s) (.bad 155))
        refine NC.bool trivial ?_
        unfold evDel
        split
        · trivial
        · split
          · refine NC.bool trivial ?_
            have key : ∀ (es : V) (yes : V → RO) (no : RO), (∀ y, NC (yes y)) → NC no → NC (mapFind cls (q.val e) es yes no) := by
              intro es yes no h1 h2
              induction es with
              | cons h t _ ih => exact NC.bool (NC.bool trivial ih) (h1 _)
              | nil => exact h2
              | _ => trivial
            exact key _ _ _ (fun _ => trivial) trivial
          · trivial
        · trivial
      · cases h
    · rename_i p t hl ht
      obtain ⟨x, hx1, hx2⟩ := opds_one has hl
      have hargs : c.args = #[x] := by rw [← hx1]
      have htys : c.argTypes = #[t] := by rw [← ht]
      split at h
      · rename_i el hu
        injection h with h; subst h
        refine Ans.of ?_ fun v s' => op_capL hG hE hW ho hc hargs htys hu hx2
        show NC (OL.rec (motive := fun _ => RO) _ _ _ (V.sl? (Opd.val p e)))
        cases V.sl? (Opd.val p e) with
        | no => trivial
        | nils => exact (KP.okNat (s := s) _ _).nc
        | yes f v o len cap ex es' => exact NC.bool trivial (KP.okNat (s := s) _ _).nc
      · cases h
    · rename_i p q hl
      obtain ⟨x, y, hxy, hx, hy⟩ := opds_two has hl
      have hargs : c.args = #[x, y] := by rw [← hxy]
      injection h with h; subst h
      exact Ans.float rfl fun v s' => op_minmax (max := false) (ps := as) hG hE hW ho hc hargs hx hy
    · rename_i p q hl
      obtain ⟨x, y, hxy, hx, hy⟩ := opds_two has hl
      have hargs : c.args = #[x, y] := by rw [← hxy]
      injection h with h; subst h
      exact Ans.float rfl fun v s' => op_minmax (max := true) (ps := as) hG hE hW ho hc hargs hx hy
    · rename_i p q r hl
      obtain ⟨x, y, z, hxy, hx, hy, hz⟩ := opds_three has hl
      have hargs : c.args = #[x, y, z] := by rw [← hxy]
      injection h with h; subst h
      refine Ans.of ?_ fun v s' => op_minmax3 (max := false) hG hE hW ho hc hargs hx hy hz
      exact (KP.int (s := s) fun _ _ => KP.int fun _ _ => KP.int fun _ _ => KP.ok _).nc
    · rename_i p q r hl
      obtain ⟨x, y, z, hxy, hx, hy, hz⟩ := opds_three has hl
      have hargs : c.args = #[x, y, z] := by rw [← hxy]
      injection h with h; subst h
      refine Ans.of ?_ fun v s' => op_minmax3 (max := true) hG hE hW ho hc hargs hx hy hz
      exact (KP.int (s := s) fun _ _ => KP.int fun _ _ => KP.int fun _ _ => KP.ok _).nc
    · rename_i p q t u hl ht
      obtain ⟨x, y, hxy, hx, hy⟩ := opds_two has hl
      have hargs : c.args = #[x, y] := by rw [← hxy]
      have htys : c.argTypes = #[t, u] := by rw [← ht]
      split at h
      · rename_i el hu
        split at h
        · rename_i es z hn hz
          split at h
          · rename_i hcond
            injection h with h; subst h
            simp only [Bool.and_eq_true] at hcond
            obtain ⟨⟨c1, c2⟩, c3⟩ := hcond
            obtain ⟨i, hi, hsz⟩ := info_of_size hn
            obtain ⟨zv, hz1, hz2⟩ := zeroCells_spec hz
            rw [hi, Option.bind_some] at hz1
            rw [hi] at c2
            obtain ⟨hv, _⟩ := ofCells_VL (g := g) (ρ := ρ) hz2
            have hl' := hv.lenIs c1
            refine Ans.of NC.app fun v s' => op_app hG hE hW (AppT.mk hu ?_ hi hsz hz1 (by simpa using hl') (by simpa using c2) (Nat.succ_pos es)) ho hc hargs htys hx hy
            unfold isSrcT at c3
            split at c3
            · rename_i e' he'; exact .inr ⟨e', he'⟩
            · rename_i he'; exact .inl he'
            · cases c3
          · cases h
        · cases h
      · cases h
    · rename_i p q t u hl ht
      obtain ⟨x, y, hxy, hx, hy⟩ := opds_two has hl
      have hargs : c.args = #[x, y] := by rw [← hxy]
      have htys : c.argTypes = #[t, u] := by rw [← ht]
      split at h
      · rename_i el hu
        split at h
        · rename_i es hn
          injection h with h; subst h
          refine Ans.of ?_ fun v s' => op_copy hG hE hW ho hc hargs htys hu hn hx hy
          show NC (evCopy (es + 1) (p.val e) (q.val e) s)
          unfold evCopy
          refine NC.source fun n more hm => ?_
          cases V.sl? (p.val e) with
          | no => trivial
          | nils => exact (KP.okNat (s := s) _ _).nc
          | yes f v o len cap ex es' =>
            exact NC.bool (hm _ _ fun l => NC.bool trivial (NC.write fun s' => (KP.okNat (s := s') _ _).nc)) (KP.okNat (s := s) _ _).nc
        · cases h
      · cases h
    · rename_i p hl
      obtain ⟨x, hx1, hx2⟩ := opds_one has hl
      have hargs : c.args = #[x] := by rw [← hx1]
      injection h with h; subst h
      exact Ans.float rfl fun v s' => op_sdata hG hE hW ho hc hargs hx2
    · rename_i p q pt it hl ht
      obtain ⟨x, y, hxy, hx, hy⟩ := opds_two has hl
      have hargs : c.args = #[x, y] := by rw [← hxy]
      have htys : c.argTypes = #[pt, it] := by rw [← ht]
      split at h
      · rename_i el hpt
        split at h
        · rename_i hel
          injection h with h; subst h
          refine Ans.of ?_ fun v s' => op_ustr hG hE hW ho hc hargs htys hpt (by simpa using hel) hx hy
          show NC (withNat (q.val e) fun n => evUStr el (p.val e) n s)
          unfold withNat
          cases V.int? (q.val e) with
          | no => trivial
          | yes kd n =>
            cases n with
            | negSucc m => trivial
            | ofNat n =>
              show NC (evUStr el (p.val e) n s)
              unfold evUStr
              split
              · exact NC.bool trivial trivial
              · cases n with
                | zero => trivial
                | succ m =>
                  refine NC.bool trivial ?_
                  unfold evUStrP
                  refine NC.getElems fun l => NC.bool trivial ?_
                  rename_i f v o _
                  cases Obj.cells? (H4.at f s.h) with
                  | no => trivial
                  | yes elem sz ro a b vs => exact NC.bool trivial (KP.okStr _ _).nc
              · trivial
        · cases h
      · cases h
    · cases h
  · cases h

theorem snd_lookup {t : TypeId} {x y : Operand} {ok : Bool} (ho : o.op = .lookup t x y ok) (h : compOp0 P gs nt (.lookup t x y ok) = some iop) : Ans P g ρ base s w a o iop e := by
  simp only [compOp0] at h
  split at h
  · rename_i kt el ht
    split at h
    · rename_i cls z p q hk hz hp hq
      injection h with h; subst h
      obtain ⟨d, hu, hd, hchk⟩ := keyCls_spec hk
      unfold zeroT at hz
      obtain ⟨zz, hz1, hz2⟩ := Option.bind_eq_some_iff.1 hz
      exact Ans.float rfl fun v s' => op_lookM hG hE hW ho ht hu hd hchk hz1 hz2 hp hq
    · cases h
  · cases h

theorem snd_mapUpdate {t : TypeId} {x y z : Operand} (ho : o.op = .mapUpdate t x y z) (h : compOp0 P gs nt (.mapUpdate t x y z) = some iop) : Ans P g ρ base s w a o iop e := by
  simp only [compOp0] at h
  split at h
  · rename_i kt el ht
    split at h
    · rename_i cls p q r hk hp hq hr
      injection h with h; subst h
      obtain ⟨d, hu, hd, hchk⟩ := keyCls_spec hk
      refine Ans.of ?_ fun v s' => op_updM hG hE hW (.inl ho) ht hu hd hchk hp hq hr
      show NC (RO.ite (keyOK cls (q.val e)) (evUpd cls (p.val e) (q.val e) (r.val e) s) (.bad 155))
      refine NC.bool trivial ?_
      unfold evUpd
      split
      · rename_i f i _
        cases H4.at f s.h with
        | map v' es clock =>
          refine NC.bool trivial ?_
          have key : ∀ (es : V) (yes : V → RO) (no : RO), (∀ y, NC (yes y)) → NC no → NC (mapFind cls (q.val e) es yes no) := by
            intro es yes no h1 h2
            induction es with
            | cons h t _ ih => exact NC.bool (NC.bool trivial ih) (h1 _)
            | nil => exact h2
            | _ => trivial
          exact key es _ _ (fun _ => trivial) trivial
        | _ => trivial
      · trivial
    · cases h
  · cases h

theorem snd_insert {t : TypeId} {x y z : Operand} (ho : o.op = .insert t x y z) (h : compOp0 P gs nt (.insert t x y z) = some iop) : Ans P g ρ base s w a o iop e := by
  simp only [compOp0] at h
  split at h
  · rename_i kt el ht
    split at h
    · rename_i cls p q r hk hp hq hr
      injection h with h; subst h
      obtain ⟨d, hu, hd, hchk⟩ := keyCls_spec hk
      refine Ans.of ?_ fun v s' => op_updM hG hE hW (.inr ho) ht hu hd hchk hp hq hr
      show NC (RO.ite (keyOK cls (q.val e)) (evUpd cls (p.val e) (q.val e) (r.val e) s) (.bad 155))
      refine NC.bool trivial ?_
      unfold evUpd
      split
      · rename_i f i _
        cases H4.at f s.h with
        | map v' es clock =>
          refine NC.bool trivial ?_
          have key : ∀ (es : V) (yes : V → RO) (no : RO), (∀ y, NC (yes y)) → NC no → NC (mapFind cls (q.val e) es yes no) := by
            intro es yes no h1 h2
            induction es with
            | cons h t _ ih => exact NC.bool (NC.bool trivial ih) (h1 _)
            | nil => exact h2
            | _ => trivial
          exact key es _ _ (fun _ => trivial) trivial
        | _ => trivial
      · trivial
    · cases h
  · cases h

theorem snd_all (h : compOp P gs nt o.op = some iop) : Ans P g ρ base s w a o iop e := by
  unfold compOp at h
  cases h0 : compOp0 P gs nt o.op with
  | none => rw [h0] at h; cases h
  | some i0 =>
    rw [h0] at h
    have h : (bif proved i0 then some i0 else none) = some iop := h
    cases hpr : proved i0 with
    | false => rw [hpr] at h; cases h
    | true =>
      rw [hpr] at h
      have h : some i0 = some iop := h
      injection h with h
      subst h
      cases hop : o.op <;> rw [hop] at h0
      case move x =>
        simp only [compOp0] at h0
        cases hx : compOpd gs nt x with
        | none => rw [hx] at h0; cases h0
        | some p => rw [hx] at h0; injection h0 with h0; subst h0; exact Ans.float rfl fun v s' => op_mv hG hE hW (.inl hop) hx
      case assign x =>
        simp only [compOp0] at h0
        cases hx : compOpd gs nt x with
        | none => rw [hx] at h0; cases h0
        | some p => rw [hx] at h0; injection h0 with h0; subst h0; exact Ans.float rfl fun v s' => op_mv hG hE hW (.inr hop) hx
      case pick c x y =>
        simp only [compOp0] at h0
        split at h0
        · rename_i pc px py h1 h2 h3
          injection h0 with h0; subst h0
          exact Ans.float rfl fun v s' => op_pick hG hE hW hop h1 h2 h3
        · cases h0
      case alloc t => exact snd_alloc hG hE hW hop h0
      case box t x => exact snd_box hG hE hW hop h0
      case build t ps => exact snd_build hG hE hW hop h0
      case buildSlice t len ps => exact snd_buildSlice hG hE hW hop h0
      case load t x => exact snd_load hG hE hW hop h0
      case store t x y => exact snd_store hG hE hW hop h0
      case nilCheck x =>
        simp only [compOp0] at h0
        cases hx : compOpd gs nt x with
        | none => rw [hx] at h0; cases h0
        | some p => rw [hx] at h0; injection h0 with h0; subst h0; exact Ans.float rfl fun v s' => op_chk hG hE hW hop hx
      case binOp op t x y u => exact snd_bin hG hE hW hop h0 hpr
      case unOp op t x =>
        simp only [compOp0] at h0
        split at h0
        · rename_i p hx; injection h0 with h0; subst h0; exact Ans.float rfl fun v s' => op_neg hG hE hW hop hx
        · rename_i p hx; injection h0 with h0; subst h0; exact Ans.float rfl fun v s' => op_not hG hE hW hop hx
        · cases h0
      case convert t u x => exact snd_convert hG hE hW hop h0 hpr
      case makeInterface t x => exact snd_makeInterface hG hE hW hop h0
      case makeFunc fn xs ys =>
        simp only [compOp0] at h0
        split at h0
        · rename_i p q h1 h2
          injection h0 with h0; subst h0
          exact Ans.float rfl fun v s' => op_mkFn hG hE hW hop h1 h2
        · cases h0
      case slice t x lo hi mx => exact snd_slice hG hE hW hop h0 hpr
      case fieldAddr t x i => exact snd_fieldAddr hG hE hW hop h0
      case field t x i => exact snd_field hG hE hW hop h0
      case indexAddr t x i => exact snd_indexAddr hG hE hW hop h0
      case index t x i => exact snd_index hG hE hW hop h0
      case range t x =>
        simp only [compOp0] at h0
        split at h0
        · rename_i p ht hx
          injection h0 with h0; subst h0
          refine Ans.of ?_ fun v s' => op_rng hG hE hW hop ht hx
          refine NC.str fun l d => ?_
          cases s.nx with
          | zero => trivial
          | succ m => exact NC.bool trivial trivial
        · rename_i kt el p ht hx
          injection h0 with h0; subst h0
          refine Ans.of ?_ fun v s' => op_rngM hG hE hW hop ht hx
          show NC (evRngM (p.val e) s)
          unfold evRngM
          cases s.nx with
          | zero => trivial
          | succ m =>
            refine NC.bool trivial ?_
            split
            · trivial
            · split
              · exact NC.bool trivial trivial
              · trivial
            · trivial
        · cases h0
      case next x b =>
        cases b with
        | false =>
          simp only [compOp0] at h0
          cases hx : compOpd gs nt x with
          | none => rw [hx] at h0; cases h0
          | some p =>
            rw [hx] at h0; injection h0 with h0; subst h0
            refine Ans.of ?_ fun v s' => op_nxtM hG hE hW hop hx
            show NC (evNxtM (p.val e) s)
            unfold evNxtM
            split
            · split
              · refine NC.bool trivial ?_
                split
                · trivial
                · split
                  · refine NC.bool trivial ?_
                    unfold nxtGo
                    refine NC.bool ?_ trivial
                    split
                    · trivial
                    · exact NC.bool trivial trivial
                    · trivial
                  · trivial
                · trivial
              · trivial
            · trivial
        | true =>
          simp only [compOp0] at h0
          cases hx : compOpd gs nt x with
          | none => rw [hx] at h0; cases h0
          | some p =>
            rw [hx] at h0; injection h0 with h0; subst h0
            refine Ans.of ?_ fun v s' => op_nxt hG hE hW hop hx
            have hp : ∀ {v : V} {k : K → Nat → Nat → RO}, (∀ f i o, NC (k f i o)) → NC (withPtr v k) := by
              intro v k h
              unfold withPtr
              cases V.ptr? v; trivial; exact h _ _ _
            refine hp fun f i off => ?_
            cases H4.at f s.h with
            | siter v' l d pos =>
              refine NC.bool trivial (NC.bool ?_ ?_)
              · trivial
              · unfold decodeF
                refine NC.bool ?_ trivial
                cases decodeAt l d pos
                trivial
            | _ => trivial
      case typeAssert x t u ok =>
        simp only [compOp0] at h0
        split at h0
        · cases h0
        · rename_i d z p hd ht hz hx
          injection h0 with h0; subst h0
          unfold zeroT at hz
          obtain ⟨zz, hz1, hz2⟩ := Option.bind_eq_some_iff.1 hz
          refine Ans.of ?_ fun v s' => op_asrt hG hE hW hop ht (fun ms hh => hd ms hh) hz1 hz2 hx
          show NC (evAssert u z ok (p.val e) s)
          unfold evAssert
          split
          · split <;> trivial
          · split <;> split <;> trivial
          · trivial
        · cases h0
      case extract x i =>
        simp only [compOp0] at h0
        cases hx : compOpd gs nt x with
        | none => rw [hx] at h0; cases h0
        | some p => rw [hx] at h0; injection h0 with h0; subst h0; exact Ans.float rfl fun v s' => op_ext hG hE hW hop hx
      case makeSlice t l c =>
        simp only [compOp0] at h0
        split at h0
        · rename_i el ht
          split at h0
          · rename_i es z p q hn hz hp hq
            split at h0
            · rename_i hcond
              injection h0 with h0; subst h0
              simp only [Bool.and_eq_true] at hcond
              obtain ⟨c1, c2⟩ := hcond
              obtain ⟨i, hi, hsz⟩ := info_of_size hn
              obtain ⟨zv, hz1, hz2⟩ := zeroCells_spec hz
              rw [hi, Option.bind_some] at hz1
              rw [hi] at c2
              refine Ans.of ?_ fun v s' => op_mkMake hG hE hW hop ht hi hsz (by simpa using c2) hz1 hz2 c1 hp hq
              exact NC.nat fun _ => NC.nat fun _ => NC.bool trivial (NC.alloc fun _ _ _ => trivial)
            · cases h0
          · cases h0
        · cases h0
      case call c => exact snd_call hG hE hW hop h0 hpr
      case makeMap t r =>
        cases r with
        | none =>
          injection h0 with h0; subst h0
          refine Ans.of ?_ fun v s' => op_mkMap hW hop
          show NC (evMkMap s)
          unfold evMkMap
          cases s.nx with
          | zero => trivial
          | succ m => exact NC.bool trivial trivial
        | some r => cases h0
      case lookup t x y ok => exact snd_lookup hG hE hW hop h0
      case mapUpdate t x y z => exact snd_mapUpdate hG hE hW hop h0
      case insert t x y z => exact snd_insert hG hE hW hop h0
      all_goals (exact absurd h0 (by simp [compOp0]))
end

theorem op_sound (P : Program) (gs : Nat → Bool) (ρ : Rho) (base : Nat) : OpSound P gs ρ base :=
  fun nt o iop h g e s a w hG hE hW => snd_all hG hE hW h
end Go.Ev

namespace Go.Ev
set_option linter.unusedVariables false

section
variable {P : Program} {gs : Nat → Bool} {g : G} {ρ : Rho} {base nt : Nat} {e : E2} {s s' : St} {a : Act} {w : World} {o : Oper} {iop : IOp}

theorem fresh_sound (P : Program) (gs : Nat → Bool) (ρ : Rho) : FreshSound P gs ρ := by
  intro nt o iop h hf g e s s' a v hG hE hev
  unfold compOp at h
  cases h0 : compOp0 P gs nt o.op with
  | none => rw [h0] at h; cases h
  | some i0 =>
    rw [h0] at h
    have h : (bif proved i0 then some i0 else none) = some iop := h
    cases hpr : proved i0 with
    | false => rw [hpr] at h; cases h
    | true =>
      rw [hpr] at h
      have h : some i0 = some iop := h
      injection h with h
      subst h
      have hfloat : isFloat i0 = true → isFresh i0 = true → False := by intro h1 h2; cases i0 <;> simp [isFloat, isFresh] at h1 h2
      cases hop : o.op <;> rw [hop] at h0
      case alloc t =>
        simp only [compOp0] at h0
        split at h0
        · rename_i n z hn hz
          split at h0
          · rename_i hl
            injection h0 with h0
            subst h0
            obtain ⟨zv, h1, h2⟩ := zeroCells_spec hz
            exact op_newF hG hE hop hn h1 h2 hl hev
          · cases h0
        · cases h0
      case buildSlice t len ps =>
        simp only [compOp0] at h0
        split at h0
        · rename_i el ht
          split at h0
          · rename_i n z hn hz
            split at h0
            · cases h0
            · rename_i hc
              simp only [Bool.or_eq_true, decide_eq_true_eq, Bool.not_eq_true', not_or, Bool.not_eq_false] at hc
              cases hps : compParts P gs nt (fun i => some (i, n + 1)) ps.toList with
              | none => rw [hps] at h0; cases h0
              | some l =>
                rw [hps] at h0
                injection h0 with h0
                subst h0
                obtain ⟨zv, h1, h2⟩ := zeroCells_spec hz
                exact op_mkSlF hG hE hop ht hn h1 h2 hc.2 hc.1 hps hev
          · cases h0
        · cases h0
      case next x b =>
        cases b with
        | false =>
          simp only [compOp0] at h0
          obtain ⟨p, _, h0⟩ := Option.map_eq_some_iff.1 h0
          subst h0
          exact absurd hf (by simp [isFresh])
        | true =>
          simp only [compOp0] at h0
          obtain ⟨p, _, h0⟩ := Option.map_eq_some_iff.1 h0
          subst h0
          exact absurd hf (by simp [isFresh])
      case slice t x lo hi mx =>
        exfalso
        simp only [compOp0] at h0
        split at h0
        · injection h0 with h0; subst h0; exact absurd hf (by simp [isFresh])
        · cases hc : mx.isSome && hi.isNone with
          | true => rw [hc] at h0; cases h0
          | false =>
            rw [hc] at h0
            obtain ⟨p, _, h0⟩ := Option.map_eq_some_iff.1 h0
            subst h0
            exact absurd hf (by simp [isFresh])
        · obtain ⟨p, _, h0⟩ := Option.map_eq_some_iff.1 h0
          subst h0
          exact absurd hf (by simp [isFresh])
        · cases h0
      all_goals
        exfalso
        simp only [compOp0, compBin, compConvert, compCall, externOp] at h0
        repeat' split at h0
      all_goals first
        | contradiction
        | (cases h0; done)
        | (injection h0 with h0; subst h0; exact absurd hf (by simp [isFresh]))
        | (obtain ⟨p, _, h0⟩ := Option.map_eq_some_iff.1 h0; subst h0; exact absurd hf (by simp [isFresh]))
end
end Go.Ev

namespace Go.Ev
set_option linter.unusedVariables false

section
variable {P : Program} {gs : Nat → Bool} {g : G} {ρ : Rho} {base nt : Nat} {e : E2} {s s' : St} {a : Act} {w : World}

/-! ## Arguments -/
theorem VL.has_of {l : V} {xs : List Value} (h : VL g ρ l xs) : ∀ {n : Nat}, n ≤ xs.length → V.has n l = true := by
  intro n
  induction n generalizing l xs with
  | zero => intro _; rfl
  | succ n ih =>
    intro hn
    cases h with
    | nil => simp at hn
    | cons hx ht => exact ih ht (by simpa using hn)

theorem putArgs_cons (h t : V) (n : Nat) (e : E2) : putArgs (.cons h t) n e = putArgs t (n + 1) (E2.wr n h e) := rfl

theorem putArgs_sound : ∀ {xs : List Value} {l : V}, VL g ρ l xs → ∀ {n : Nat} {e : E2} {tm : Nat → Value}, n + xs.length ≤ nt → nt ≤ 256 → (∀ t, t < nt → VR g ρ (E2.rd t e) (tm t)) →
    ∀ t, t < nt → VR g ρ (E2.rd t (putArgs l n e)) (if n ≤ t ∧ t < n + xs.length then xs.getD (t - n) undef else tm t)
  | [], _, .nil, n, e, tm, hn, hnt, h, t, ht => by
    rw [if_neg (by rintro ⟨h1, h2⟩; simp only [List.length_nil] at h2; omega)]
    exact h t ht
  | x :: xs, _, .cons hx hl, n, e, tm, hn, hnt, h, t, ht => by
    rw [putArgs_cons]
    have hn : n + (xs.length + 1) ≤ nt := hn
    have := putArgs_sound hl (n := n + 1) (e := E2.wr n _ e) (tm := fun u => if u = n then x else tm u) (by omega) hnt (fun u hu => by
      rw [rd_wr (by omega) (by omega)]
      by_cases hun : u = n
      · rw [if_pos hun, if_pos hun]; exact hx
      · rw [if_neg hun, if_neg hun]; exact h u hu) t ht
    by_cases h1 : n + 1 ≤ t ∧ t < n + 1 + xs.length
    · rw [if_pos h1] at this
      rw [if_pos (by simp only [List.length_cons]; omega)]
      rw [show t - n = (t - (n + 1)) + 1 by omega, List.getD_cons_succ]
      exact this
    · rw [if_neg h1] at this
      by_cases htn : t = n
      · subst htn
        rw [if_pos (by simp only [List.length_cons]; omega), Nat.sub_self]
        rw [if_pos rfl] at this
        exact this
      · rw [if_neg htn] at this
        rw [if_neg (by simp only [List.length_cons]; omega)]
        exact this

theorem ER.enter {xs : List Value} {l : V} (hl : VL g ρ l xs) (hn : xs.length ≤ nt) (hnt : nt ≤ 256) :
    ER g ρ nt (putArgs l 0 E2.empty) { tmps := xs.toArray ++ Array.replicate (nt - xs.toArray.size) undef, defers := [] } := by
  refine ⟨by simp; omega, hnt, fun t ht => ?_⟩
  have := putArgs_sound hl (n := 0) (e := E2.empty) (tm := fun _ => undef) (by omega) hnt (fun u _ => by unfold E2.rd; rw [E2.at_empty]; exact .undef) t ht
  show VR g ρ (E2.rd t _) _
  have he : (xs.toArray ++ Array.replicate (nt - xs.toArray.size) undef).getD t undef = if 0 ≤ t ∧ t < 0 + xs.length then xs.getD (t - 0) undef else undef := by
    rw [Array.getD_eq_getD_getElem?, Array.getElem?_append]
    by_cases h : t < xs.length
    · rw [if_pos (by simpa using h), if_pos (by omega)]
      simp
    · rw [if_neg (by simpa using h), if_neg (by omega), Array.getElem?_replicate]
      split <;> rfl
  show VR g ρ _ ((xs.toArray ++ Array.replicate (nt - xs.toArray.size) undef).getD t undef)
  rw [he]
  exact this

/-! ## Results -/
noncomputable def resF (P : Program) (tmps : Array Value) (w : World) (r : ResultVar) : Value :=
  match (match r with
    | .tmp t => (pure (tmps.getD t undef) : Sem Value)
    | .cell a t => do loadVar t (← asAddr (tmps.getD a undef))).run P w with
  | .ok v _ => v
  | _ => undef

theorem results_inv (hE : ER g ρ nt e a) (hW : WR g ρ base s w) : ∀ {rs : List ResultVar} {rl : ResL}, compRes P nt rs = some rl → ∀ {k : V → RO} {r : RO}, results rl e s k = r → r.good →
    ∃ l, VL g ρ l (rs.map (resF P a.tmps w)) ∧ (∀ x ∈ rs, (match x with
      | .tmp t => (pure (a.tmps.getD t undef) : Sem Value)
      | .cell b t => do loadVar t (← asAddr (a.tmps.getD b undef))).run P w = .ok (resF P a.tmps w x) w) ∧ k l = r
  | [], rl, hc, k, r, h, hr => by
    simp [compRes] at hc
    subst hc
    exact ⟨.nil, .nil, (fun x hx => by cases hx), h⟩
  | .tmp t :: rs, rl, hc, k, r, h, hr => by
    simp only [compRes] at hc
    split at hc
    · rename_i ht
      have ht : @LT.lt Nat _ t nt := ht
      cases hrest : compRes P nt rs with
      | none => rw [hrest] at hc; cases hc
      | some rl' =>
        rw [hrest] at hc
        injection hc with hc
        subst hc
        obtain ⟨l, h1, h2, h3⟩ := results_inv hE hW hrest (show results rl' e s (fun t' => k (.cons (E2.at (D.dig (t / 16)) (D.dig (t % 16)) e) t')) = r from h) hr
        have hrun : (pure (a.tmps.getD t undef) : Sem Value).run P w = .ok (a.tmps.getD t undef) w := rfl
        have hF : resF P a.tmps w (.tmp t) = a.tmps.getD t undef := rfl
        refine ⟨.cons _ l, .cons (by rw [hF]; exact hE.2.2 t ht) h1, fun x hx => ?_, h3⟩
        rcases List.mem_cons.1 hx with rfl | hx
        · rw [hF]; rfl
        · exact h2 x hx
    · cases hc
  | .cell b t :: rs, rl, hc, k, r, h, hr => by
    simp only [compRes] at hc
    split at hc
    · rename_i hb
      have hb : @LT.lt Nat _ b nt := hb
      have hbv := hE.2.2 b hb
      split at hc
      · rename_i n hag hsz
        cases hrest : compRes P nt rs with
        | none => rw [hrest] at hc; cases hc
        | some rl' =>
          rw [hrest] at hc
          injection hc with hc
          subst hc
          have h : withPtr (E2.at (D.dig (b / 16)) (D.dig (b % 16)) e) (fun f v o => loadN (n + 1) f v o s fun c => results rl' e s fun t' => k (.cons (.agg c) t')) = r := h
          obtain ⟨f, i, off, hv, h⟩ := withPtr_inv h hr
          rw [hv] at hbv
          generalize hax : a.tmps.getD b undef = y at hbv
          cases hbv with | ptr hg hoff =>
          obtain ⟨cs, ys, hvl, hl, hcc, hcell, h⟩ := loadN_inv hW hg hoff h hr
          obtain ⟨l, h1, h2, h3⟩ := results_inv hE hW hrest h hr
          have hload := run_loadCells_list (P := P) w (Addr.mk _ _ none) ys (fun j y hj => by rw [addr_add]; exact hcell j y hj)
          rw [hl] at hload
          have hrun : (do loadVar t (← asAddr (a.tmps.getD b undef)) : Sem Value).run P w = .ok (.agg ys.toArray) w := by
            rw [hax]
            simp [asAddr, loadVar, run_isAgg hag, run_sizeOf hsz, hload]
          have hF : resF P a.tmps w (.cell b t) = .agg ys.toArray := by
            show (match (do loadVar t (← asAddr (a.tmps.getD b undef)) : Sem Value).run P w with | .ok v _ => v | _ => undef) = _
            rw [hrun]
          refine ⟨.cons (.agg cs) l, .cons (by rw [hF]; exact .agg hvl hcc) h1, fun x hx => ?_, h3⟩
          rcases List.mem_cons.1 hx with rfl | hx
          · rw [hF]; exact hrun
          · exact h2 x hx
      · rename_i hag hsz
        cases hrest : compRes P nt rs with
        | none => rw [hrest] at hc; cases hc
        | some rl' =>
          rw [hrest] at hc
          injection hc with hc
          subst hc
          have h : withPtr (E2.at (D.dig (b / 16)) (D.dig (b % 16)) e) (fun f v o => load1 f v o s fun c => results rl' e s fun t' => k (.cons c t')) = r := h
          obtain ⟨f, i, off, hv, h⟩ := withPtr_inv h hr
          rw [hv] at hbv
          generalize hax : a.tmps.getD b undef = y at hbv
          cases hbv with | ptr hg hoff =>
          obtain ⟨c, y, hcell, hvr, _, h⟩ := load1_inv hW hg hoff h hr
          obtain ⟨l, h1, h2, h3⟩ := results_inv hE hW hrest h hr
          have hrun : (do loadVar t (← asAddr (a.tmps.getD b undef)) : Sem Value).run P w = .ok y w := by
            rw [hax]
            simp [asAddr, loadVar, run_isAgg hag, hcell]
          have hF : resF P a.tmps w (.cell b t) = y := by
            show (match (do loadVar t (← asAddr (a.tmps.getD b undef)) : Sem Value).run P w with | .ok v _ => v | _ => undef) = _
            rw [hrun]
          refine ⟨.cons c l, .cons (by rw [hF]; exact hvr) h1, fun x hx => ?_, h3⟩
          rcases List.mem_cons.1 hx with rfl | hx
          · rw [hF]; exact hrun
          · exact h2 x hx
      · cases hc
    · cases hc

theorem endOf_sound (hE : ER g ρ nt e a) (hW : WR g ρ base s w) {fn : Func} {rl : ResL} (hc : compRes P nt fn.results.toList = some rl) {v : V} (h : endOf rl (fn.results.size == 1) e s = .ok v s') :
    s' = s ∧ ∃ x, (Go.results fn a.tmps).run P w = .ok x w ∧ VR g ρ v x := by
  unfold endOf at h
  generalize hr : results rl e s (fun l => Bool.rec (motive := fun _ => RO) (.ok (.tup l) s) (.ok (V.hd l) s) (fn.results.size == 1)) = r at h
  cases r with
  | bad x => exact absurd (show RC.bad x = .ok v s' from h) (by simp)
  | call f as s1 => exact absurd (show RC.bad 120 = .ok v s' from h) (by simp)
  | ok v1 s1 =>
    have h : RC.ok v1 s1 = .ok v s' := h
    injection h with h1 h2
    subst h1 h2
    obtain ⟨l, hl, hall, hk⟩ := results_inv hE hW hc hr trivial
    have hm := run_mapM_array (P := P) (w := w) (l := fn.results) (F := resF P a.tmps w) (f := fun x => match x with
      | .tmp t => (pure (a.tmps.getD t undef) : Sem Value)
      | .cell b t => do loadVar t (← asAddr (a.tmps.getD b undef))) hall
    have hrun : (Go.results fn a.tmps).run P w = .ok (if h : (fn.results.map (resF P a.tmps w)).size = 1 then (fn.results.map (resF P a.tmps w))[0] else .tuple (fn.results.map (resF P a.tmps w))) w := by
      unfold Go.results
      rw [Sem.run_bind]
      erw [hm]
      rfl
    cases hs : fn.results.size == 1 with
    | true =>
      rw [hs] at hk
      have hk : RO.ok (V.hd l) s = .ok v1 s1 := hk
      injection hk with hk1 hk2
      subst hk1 hk2
      refine ⟨rfl, _, hrun, ?_⟩
      have hs1 : (fn.results.map (resF P a.tmps w)).size = 1 := by simpa using hs
      rw [dif_pos hs1]
      obtain ⟨y, hy⟩ := Array.size_eq_one_iff.1 hs1
      have hlist : fn.results.toList.map (resF P a.tmps w) = [y] := by rw [← Array.toList_map, hy]
      rw [hlist] at hl
      cases hl with | cons hx ht =>
      simp only [hy]
      exact hx
    | false =>
      rw [hs] at hk
      have hk : RO.ok (.tup l) s = .ok v1 s1 := hk
      injection hk with hk1 hk2
      subst hk1 hk2
      refine ⟨rfl, _, hrun, ?_⟩
      have hs1 : ¬ (fn.results.map (resF P a.tmps w)).size = 1 := by simpa using hs
      rw [dif_neg hs1]
      have := VR.tup hl
      have harr : (fn.results.toList.map (resF P a.tmps w)).toArray = fn.results.map (resF P a.tmps w) := by rw [← Array.toList_map]
      rw [harr] at this
      exact this
end
end Go.Ev

namespace Go.Ev
set_option linter.unusedVariables false

theorem F3.at_put (k k' : K) (x : Fun) (t : F3) : F3.at k (F3.put k' x t) = if k.a = k'.a ∧ k.b = k'.b ∧ k.c = k'.c then x else F3.at k t := by
  simp only [F3.at, F3.put, F3.get_set]
  by_cases hc : k.c = k'.c <;> simp [hc, F2.get_set]
  by_cases hb : k.b = k'.b <;> simp [hb, F1.get_set]
theorem F3.at_empty (k : K) : F3.at k F3.empty = .none := by
  simp [F3.at, F3.empty, F3.get_all, F2.get_all, F1.get_all]

theorem ofNat_same {f n : Nat} (hf : f < 4096) (hn : n < 4096) : ((K.ofNat f).a = (K.ofNat n).a ∧ (K.ofNat f).b = (K.ofNat n).b ∧ (K.ofNat f).c = (K.ofNat n).c) ↔ f = n := by
  constructor
  · rintro ⟨h1, h2, h3⟩
    have h1 : f % 16 = n % 16 := D.dig_inj (by omega) (by omega) h1
    have h2 : f / 16 % 16 = n / 16 % 16 := D.dig_inj (by omega) (by omega) h2
    have h3 : f / 256 % 16 = n / 256 % 16 := D.dig_inj (by omega) (by omega) h3
    omega
  · rintro rfl
    exact ⟨rfl, rfl, rfl⟩

section
variable {P : Program} {gs : Nat → Bool} {ρ : Rho} {base : Nat}

theorem compAll_at {f : Nat} (hf : f < 4096) : ∀ {l : List Func} {n : Nat} {t : F3}, n + l.length ≤ 4096 →
    F3.at (K.ofNat f) (compAll P gs n l t) = if h : n ≤ f ∧ f < n + l.length then compFun P gs (l[f - n]'(by omega)) else F3.at (K.ofNat f) t
  | [], n, t, h => by
    rw [dif_neg (by rintro ⟨h1, h2⟩; simp only [List.length_nil] at h2; omega)]
    rfl
  | fn :: l, n, t, h => by
    have h : n + (l.length + 1) ≤ 4096 := h
    simp only [compAll]
    rw [compAll_at hf (by omega), F3.at_put]
    simp only [ofNat_same hf (show n < 4096 by omega)]
    by_cases h1 : n + 1 ≤ f ∧ f < n + 1 + l.length
    · rw [dif_pos h1, dif_pos (by simp only [List.length_cons]; omega)]
      congr 1
      rw [List.getElem_cons, dif_neg (by omega)]
      congr 1
    · rw [dif_neg h1]
      by_cases hfn : f = n
      · rw [if_pos hfn, dif_pos (by simp only [List.length_cons]; omega)]
        congr 1
        rw [List.getElem_cons, dif_pos (by omega)]
      · rw [if_neg hfn, dif_neg (by simp only [List.length_cons]; omega)]

theorem table_round : F3.at (K.ofNat 4095) (table P gs) = .round fun nt c => compC P gs false nt c := by
  unfold table
  rw [F3.at_put]
  exact if_pos ⟨rfl, rfl, rfl⟩

theorem table_at {f : Nat} (hf : f < 4096) (hs : P.funcs.size ≤ 4095) {b : C} {r : ResL} {one : Bool} {nt : Nat} (h : F3.at (K.ofNat f) (table P gs) = .some b r one nt) : ∃ fn, P.funcs[f]? = some fn ∧ compFun P gs fn = .some b r one nt := by
  unfold table at h
  rw [F3.at_put] at h
  split at h
  · cases h
  · rw [compAll_at hf (by simp only [Array.length_toList]; omega)] at h
    split at h
    · rename_i hh
      have hlt : f < P.funcs.size := by have := hh.2; simp only [Array.length_toList] at this; omega
      refine ⟨P.funcs[f], Array.getElem?_eq_getElem hlt, ?_⟩
      simpa using h
    · rw [F3.at_empty] at h
      cases h

theorem compFun_spec {fn : Func} {b : C} {r : ResL} {one : Bool} {nt : Nat} (h : compFun P gs fn = .some b r one nt) :
    fn.ntmps ≤ 256 ∧ fn.name ≠ "runtime.NumGoroutine" ∧ nt = fn.ntmps ∧ one = (fn.results.size == 1) ∧ ∃ c, fn.body = some c ∧ b = compC P gs true fn.ntmps c ∧ compRes P fn.ntmps fn.results.toList = some r := by
  unfold compFun at h
  split at h
  · rename_i hn
    split at h
    · rename_i c r' hb hr
      injection h with h1 h2 h3 h4
      subst h1 h2 h3 h4
      exact ⟨hn.1, hn.2, rfl, rfl, c, hb, rfl, hr⟩
    · cases h
  · cases h

/-- calls known ahead are as they are said to be -/
def OrcOK (P : Program) (gs : Nat → Bool) (ρ : Rho) (base : Nat) : Orc → Prop
  | .nil => True
  | .more f as ans rest => GoodFn P f ∧ (∀ (s : St) (g : G) (w : World) (xs : List Value), GlobR gs g → WR g ρ base s w → VL g ρ as xs →
      Calls P f xs.toArray w fun en w' => ∃ x g', en = .returned x ∧ Step g ρ base s w g' s w' ∧ VR g' ρ ans x) ∧ OrcOK P gs ρ base rest
  | .place f ms rest => (∀ (i m : Nat), m ∈ ms → i % 4 = 3 → symM i = m → GoodFn P f ∧ ∀ (s : St) (g : G) (w : World) (xs : List Value), GlobR gs g → WR g ρ base s w → VL g ρ (.cons (.sym i) (.cons (.int .i64 (m : Int)) .nil)) xs →
      Calls P f xs.toArray w fun en w' => ∃ x g', en = .returned x ∧ Step g ρ base s w g' s w' ∧ VR g' ρ (.int .i64 (symLo i : Nat)) x) ∧ OrcOK P gs ρ base rest
  | .idx f rest => (GoodFn P f ∧ ∀ (s1 s2 : ByteArray), 2 ≤ s2.size → s1.size ≤ 4294967280 → ∀ (s : St) (g : G) (w : World), GlobR gs g → WR g ρ base s w →
      Calls P f #[.string s1, .string s2] w fun en w' => en = .returned (.int .i64 (Lib.index s1.data.toList s2.data.toList)) ∧ w' = w) ∧ OrcOK P gs ρ base rest
  | .memo f as ans objs n0 n1 rest => (GoodFn P f ∧ ∀ (s : St) (g : G) (w : World) (xs : List Value), s.nx ≤ n0 → KOL.free objs s.h = true → GlobR gs g → WR g ρ base s w → VL g ρ as xs →
      Calls P f xs.toArray w fun en w' => ∃ x g', en = .returned x ∧ Step g ρ base s w g' ⟨KOL.put objs s.h, s.nk, n1⟩ w' ∧ VR g' ρ ans x) ∧ OrcOK P gs ρ base rest

theorem placeAns_inv {ms : List Nat} {args : V} {yes : V → RC} {no r : RC} (h : placeAns ms args yes no = r) : r = no ∨ ∃ i m, args = .cons (.sym i) (.cons (.int .i64 (Int.ofNat m)) .nil) ∧ m ∈ ms ∧ i % 4 = 3 ∧ symM i = m ∧ r = yes (.int .i64 (Int.ofNat (symLo i))) := by
  unfold placeAns at h
  split at h
  · rename_i i k m
    cases hb : band (Nat.beq (Nat.mod i 4) 3) (band (Nat.beq (symM i) m) (band (Nat.beq (kcode k) 3) (List.elem m ms))) with
    | false => rw [hb] at h; exact .inl h.symm
    | true =>
      rw [hb] at h
      obtain ⟨h1, hb⟩ := band_iff.1 hb
      obtain ⟨h2, hb⟩ := band_iff.1 hb
      obtain ⟨h3, h4⟩ := band_iff.1 hb
      have hk : k = .i64 := kcode_inj (show kcode k = kcode .i64 from beq_iff.1 h3)
      subst hk
      exact .inr ⟨i, m, rfl, List.mem_of_elem_eq_true h4, beq_iff.1 h1, beq_iff.1 h2, h.symm⟩
  · exact .inl h.symm

theorem idxAns_inv {args : V} {yes : V → RC} {no r : RC} (h : idxAns args yes no = r) : r = no ∨ ∃ l1 d1 l2 d2, args = .cons (.str l1 d1) (.cons (.str l2 d2) .nil) ∧ 2 ≤ l2 ∧ l1 ≤ 4294967280 ∧ r = yes (.int .i64 (indexStr l2 d2 (Nat.sub (Nat.succ l1) l2) d1 0)) := by
  unfold idxAns at h
  split at h
  · rename_i l1 d1 l2 d2
    cases hb : band (Nat.ble 2 l2) (Nat.ble l1 4294967280) with
    | false => rw [hb] at h; exact .inl h.symm
    | true =>
      rw [hb] at h
      obtain ⟨h1, h2⟩ := band_iff.1 hb
      exact .inr ⟨l1, d1, l2, d2, rfl, ble_iff.1 h1, ble_iff.1 h2, h.symm⟩
  · exact .inl h.symm

theorem find_inv {f : Nat} {args : V} {s : St} {no r : RC} : ∀ {o : Orc}, OrcOK P gs ρ base o → Orc.find o f args s no = r → r = no ∨ ∃ ans s', r = .ok ans s' ∧ GoodFn P f ∧ ∀ (g : G) (w : World) (xs : List Value), GlobR gs g → WR g ρ base s w → VL g ρ args xs →
      Calls P f xs.toArray w fun en w' => ∃ x g', en = .returned x ∧ Step g ρ base s w g' s' w' ∧ VR g' ρ ans x
  | .nil, _, h => .inl h.symm
  | .more f' as ans rest, hO, h => by
    have h1 : Bool.rec (motive := fun _ => RC) (Orc.find rest f args s no) (Bool.rec (motive := fun _ => RC) (Orc.find rest f args s no) (.ok ans s) (same args as)) (Nat.beq f f') = r := h
    clear h
    cases hb : Nat.beq f f' with
    | false => rw [hb] at h1; exact find_inv hO.2.2 h1
    | true =>
      rw [hb] at h1
      have h2 : Bool.rec (motive := fun _ => RC) (Orc.find rest f args s no) (.ok ans s) (same args as) = r := h1
      clear h1
      cases hs : same args as with
      | false => rw [hs] at h2; exact find_inv hO.2.2 h2
      | true =>
        rw [hs] at h2
        have h3 : RC.ok ans s = r := h2
        clear h2
        have hff := beq_iff.1 hb
        have haa := same_eq hs
        subst hff haa
        exact .inr ⟨ans, s, h3.symm, hO.1, fun g w xs hG hW hxs => hO.2.1 s g w xs hG hW hxs⟩
  | .place f' ms rest, hO, h => by
    have h1 : Bool.rec (motive := fun _ => RC) (Orc.find rest f args s no) (placeAns ms args (fun v => .ok v s) (Orc.find rest f args s no)) (Nat.beq f f') = r := h
    clear h
    cases hb : Nat.beq f f' with
    | false => rw [hb] at h1; exact find_inv hO.2 h1
    | true =>
      rw [hb] at h1
      have hff := beq_iff.1 hb
      subst hff
      rcases placeAns_inv (show placeAns ms args (fun v => .ok v s) (Orc.find rest f args s no) = r from h1) with h2 | ⟨i, m, h2, h3, h4, h5, h6⟩
      · exact find_inv hO.2 h2.symm
      · subst h2
        obtain ⟨h7, h8⟩ := hO.1 i m h3 h4 h5
        exact .inr ⟨_, s, h6, h7, fun g w xs hG hW hxs => h8 s g w xs hG hW hxs⟩
  | .idx f' rest, hO, h => by
    have h1 : Bool.rec (motive := fun _ => RC) (Orc.find rest f args s no) (idxAns args (fun v => .ok v s) (Orc.find rest f args s no)) (Nat.beq f f') = r := h
    clear h
    cases hb : Nat.beq f f' with
    | false => rw [hb] at h1; exact find_inv hO.2 h1
    | true =>
      rw [hb] at h1
      have hff := beq_iff.1 hb
      subst hff
      rcases idxAns_inv (show idxAns args (fun v => .ok v s) (Orc.find rest f args s no) = r from h1) with h2 | ⟨l1, d1, l2, d2, h2, h3, h4, h5⟩
      · exact find_inv hO.2 h2.symm
      · subst h2
        obtain ⟨h6, h7⟩ := hO.1
        refine .inr ⟨_, s, h5, h6, fun g w xs hG hW hxs => ?_⟩
        cases hxs with | cons hx hxs =>
        cases hxs with | cons hy hxs =>
        cases hxs
        cases hx with | str s1 =>
        cases hy with | str s2 =>
        have e1 : s1.size = s1.data.toList.length := Lib.size_eq s1
        have e2 : s2.size = s2.data.toList.length := Lib.size_eq s2
        refine (h7 s1 s2 (by omega) (by omega) s g w hG hW).mono fun en w' hh => ?_
        obtain ⟨rfl, rfl⟩ := hh
        refine ⟨_, g, rfl, .refl hW, ?_⟩
        have hk : indexStr s2.data.toList.length (encList s2.data.toList) (Nat.sub (Nat.succ s1.data.toList.length) s2.data.toList.length) (encList s1.data.toList) 0 = _ := indexStr_eq s2.data.toList (by omega) _ s1.data.toList 0 rfl
        have he : (if Lib.index s1.data.toList s2.data.toList = -1 then -1 else ((0 : Nat) : Int) + Lib.index s1.data.toList s2.data.toList) = Lib.index s1.data.toList s2.data.toList := by
          split
          · rename_i h; exact h.symm
          · simp
        rw [hk, he]
        exact .int .i64 _
  | .memo f' as ans objs n0 n1 rest, hO, h => by
    have h1 : Bool.rec (motive := fun _ => RC) (Orc.find rest f args s no) (Bool.rec (motive := fun _ => RC) (Orc.find rest f args s no)
      (Bool.rec (motive := fun _ => RC) (Orc.find rest f args s no) (.ok ans ⟨KOL.put objs s.h, s.nk, n1⟩) (band (Nat.ble s.nx n0) (KOL.free objs s.h))) (same args as)) (Nat.beq f f') = r := h
    clear h
    cases hb : Nat.beq f f' with
    | false => rw [hb] at h1; exact find_inv hO.2 h1
    | true =>
      rw [hb] at h1
      have h2 : Bool.rec (motive := fun _ => RC) (Orc.find rest f args s no)
        (Bool.rec (motive := fun _ => RC) (Orc.find rest f args s no) (.ok ans ⟨KOL.put objs s.h, s.nk, n1⟩) (band (Nat.ble s.nx n0) (KOL.free objs s.h))) (same args as) = r := h1
      clear h1
      cases hs : same args as with
      | false => rw [hs] at h2; exact find_inv hO.2 h2
      | true =>
        rw [hs] at h2
        have h3 : Bool.rec (motive := fun _ => RC) (Orc.find rest f args s no) (.ok ans ⟨KOL.put objs s.h, s.nk, n1⟩) (band (Nat.ble s.nx n0) (KOL.free objs s.h)) = r := h2
        clear h2
        cases hfr : band (Nat.ble s.nx n0) (KOL.free objs s.h) with
        | false => rw [hfr] at h3; exact find_inv hO.2 h3
        | true =>
          rw [hfr] at h3
          have h4 : RC.ok ans ⟨KOL.put objs s.h, s.nk, n1⟩ = r := h3
          obtain ⟨hn, hfree⟩ := band_iff.1 hfr
          have hff := beq_iff.1 hb
          have haa := same_eq hs
          subst hff haa
          exact .inr ⟨ans, _, h4.symm, hO.1.1, fun g w xs hG hW hxs => hO.1.2 s g w xs (ble_iff.1 hn) hfree hG hW hxs⟩

theorem roundRun_agg {ih : Nat → V → St → RC} {comp : Nat → Code → C} {args v : V} {s s' : St} (h : roundRun ih comp args s = .ok v s') : ∃ c, args = .agg c := by
  unfold roundRun at h
  split at h
  · exact ⟨_, rfl⟩
  · cases h

theorem run_sound {orc : Orc} (hO : OrcOK P gs ρ base orc) (hs : P.funcs.size ≤ 4095) : ∀ fuel, CallSound P gs ρ base (run (table P gs) orc fuel)
  | 0 => fun f args s v s' h => absurd (show RC.bad 121 = .ok v s' from h) (by simp)
  | fuel + 1 => by
    intro f args s v s' h
    have h : Orc.find orc f args s
      (Fun.rec (motive := fun _ => RC) (.bad (Nat.add 1000 f))
        (fun body res one nt => Bool.rec (motive := fun _ => RC) (.bad 124) (R.rec (motive := fun _ => RC) (fun e s => endOf res one e s) (fun _ _ _ => .bad 122) (fun _ _ _ => .bad 123) (fun e s => endOf res one e s) (fun w => .bad w)
          (evC (run (table P gs) orc fuel) body (putArgs args 0 E2.empty) s)) (band (Nat.ble f 4095) (bnot (V.has (Nat.succ nt) args))))
        (fun comp => Bool.rec (motive := fun _ => RC) (.bad 154) (roundRun (run (table P gs) orc fuel) comp args s) (Nat.beq f 4095)) (F3.at (K.ofNat f) (table P gs))) = .ok v s' := h
    have hOS := op_sound P gs ρ base
    have hFS := fresh_sound P gs ρ
    rcases find_inv hO h with h1 | ⟨ans, s2, h1, hgood, hcalls⟩
    · cases hat : F3.at (K.ofNat f) (table P gs) with
      | none => rw [hat] at h1; exact absurd (show RC.ok v s' = .bad (Nat.add 1000 f) from h1) (by simp)
      | round comp =>
        rw [hat] at h1
        have h2 : RC.ok v s' = Bool.rec (motive := fun _ => RC) (.bad 154) (roundRun (run (table P gs) orc fuel) comp args s) (Nat.beq f 4095) := h1
        clear h1
        cases hb : Nat.beq f 4095 with
        | false => rw [hb] at h2; exact absurd (show RC.ok v s' = .bad 154 from h2) (by simp)
        | true =>
          rw [hb] at h2
          have h3 : roundRun (run (table P gs) orc fuel) comp args s = .ok v s' := h2.symm
          have hf := beq_iff.1 hb
          subst hf
          rw [table_round] at hat
          injection hat with hat
          subst hat
          refine ⟨fun hne => ?_, fun _ k i rest hargs g w L xs hG hW hg hxs => ?_⟩
          · obtain ⟨c, hc⟩ := roundRun_agg h3
            exact absurd hc (hne c)
          · subst hargs
            exact round_sound hOS hFS (run_sound hO hs fuel) h3 hG hW hg hxs
      | some body res one nt =>
        rw [hat] at h1
        have h2 : RC.ok v s' = Bool.rec (motive := fun _ => RC) (.bad 124) (R.rec (motive := fun _ => RC) (fun e s => endOf res one e s) (fun _ _ _ => .bad 122) (fun _ _ _ => .bad 123) (fun e s => endOf res one e s) (fun w => .bad w)
          (evC (run (table P gs) orc fuel) body (putArgs args 0 E2.empty) s)) (band (Nat.ble f 4095) (bnot (V.has (Nat.succ nt) args))) := h1
        clear h1
        cases hb : band (Nat.ble f 4095) (bnot (V.has (Nat.succ nt) args)) with
        | false => rw [hb] at h2; exact absurd (show RC.ok v s' = .bad 124 from h2) (by simp)
        | true =>
          rw [hb] at h2
          obtain ⟨hb1, hb2⟩ := band_iff.1 hb
          have hflt : f < 4096 := Nat.lt_succ_of_le (ble_iff.1 hb1)
          obtain ⟨fn, hfn, hcf⟩ := table_at hflt hs hat
          obtain ⟨hn256, hname, rfl, hone, c, hbody, rfl, hres⟩ := compFun_spec hcf
          refine ⟨fun _ => ⟨⟨fn, hfn, by rw [hbody]; simp, hname⟩, fun g w xs hG hW hxs => ?_⟩, fun hf => ?_⟩
          rotate_left
          · subst hf
            rw [table_round] at hat
            cases hat
          have hlen : xs.length ≤ fn.ntmps := by
            rcases Nat.lt_or_ge fn.ntmps xs.length with hh | hh
            · have := VL.has_of hxs (n := fn.ntmps + 1) hh
              have hb2 : bnot (V.has (fn.ntmps + 1) args) = true := hb2
              rw [this] at hb2
              cases hb2
            · exact hh
          have hE0 := ER.enter hxs hlen hn256
          refine callsIn_wide.1 (callsIn_of_wp_marks (F := Fence.wide) (n := 0) hfn hbody trivial ?_ rfl)
          have h1 : RC.ok v s' = R.rec (motive := fun _ => RC) (fun e s => endOf res one e s) (fun _ _ _ => .bad 122) (fun _ _ _ => .bad 123) (fun e s => endOf res one e s) (fun w => .bad w)
            (evC (run (table P gs) orc fuel) (compC P gs true fn.ntmps c) (putArgs args 0 E2.empty) s) := h2
          have done : ∀ {e1 : E2} {s1 : St} {a1 : Act} {w1 : World} {g1 : G} {rs : List Nat}, RC.ok v s' = endOf res one e1 s1 → a1.defers = rs.map mark ++ [] → MarksOK w w1 g1 rs → Step g ρ base s w g1 s1 w1 → ER g1 ρ fn.ntmps e1 a1 →
              LeavesInM (FR none) 0 P fn a1.tmps (fun en w' => ∃ x g', en = .returned x ∧ Step g ρ base s w g' s' w' ∧ VR g' ρ v x) a1.defers .returning w1 := by
            intro e1 s1 a1 w1 g1 rs he hd hm hS hE1
            rw [hd, List.append_nil]
            refine leaves_marks (fun w' hS' => ?_) rs hS hm
            rw [hone] at he
            obtain ⟨hs1, y, hy, hv⟩ := endOf_sound hE1 hS'.wr hres he.symm
            subst hs1
            exact ⟨y, hy, y, g1, rfl, hS', hv⟩
          cases hev : evC (run (table P gs) orc fuel) (compC P gs true fn.ntmps c) (putArgs args 0 E2.empty) s with
          | norm e1 s1 =>
            rw [hev] at h1
            refine wpIn_mono (evC_sound (rd := none) (nd := 0) hOS hFS (run_sound hO hs fuel) (il := true) (fun _ => rfl) c hev trivial hG hE0 hW) ?_
            rintro ex a1 w1 ⟨rfl, g1, rs, hd, hm, hS, hE1⟩
            exact done h1 hd hm hS hE1
          | ret e1 s1 =>
            rw [hev] at h1
            refine wpIn_mono (evC_sound (rd := none) (nd := 0) hOS hFS (run_sound hO hs fuel) (il := true) (fun _ => rfl) c hev trivial hG hE0 hW) ?_
            rintro ex a1 w1 ⟨rfl, g1, rs, hd, hm, hS, hE1⟩
            exact done h1 hd hm hS hE1
          | exit id e1 s1 => rw [hev] at h1; exact absurd (show RC.ok v s' = .bad 122 from h1) (by simp)
          | goto l e1 s1 => rw [hev] at h1; exact absurd (show RC.ok v s' = .bad 123 from h1) (by simp)
          | bad x => rw [hev] at h1; exact absurd (show RC.ok v s' = .bad x from h1) (by simp)
    · injection h1 with h2 h3
      subst h2 h3
      refine ⟨fun _ => ⟨hgood, fun g w xs hG hW hxs => hcalls g w xs hG hW hxs⟩, fun hf => ?_⟩
      subst hf
      obtain ⟨fn, hfn, _⟩ := hgood
      have := (Array.getElem?_eq_some_iff.1 hfn).1
      omega
end
end Go.Ev

namespace Go.Ev
set_option linter.unusedVariables false

/-! ## Names of open numbers -/
theorem symLo_mk {tag lo m w : Nat} (ht : tag < 4) (hl : lo < 65536) : symLo (symMk tag lo m w) = lo := by
  show (tag + 4 * lo + 262144 * m + 17179869184 * w) / 4 % 65536 = lo
  omega
theorem symM_mk {tag lo m w : Nat} (ht : tag < 4) (hl : lo < 65536) (hm : m < 65536) : symM (symMk tag lo m w) = m := by
  show (tag + 4 * lo + 262144 * m + 17179869184 * w) / 262144 % 65536 = m
  omega
theorem symW_mk {tag lo m w : Nat} (ht : tag < 4) (hl : lo < 65536) (hm : m < 65536) : symW (symMk tag lo m w) = w := by
  show (tag + 4 * lo + 262144 * m + 17179869184 * w) / 17179869184 = w
  omega
theorem symTag_mk {tag lo m w : Nat} (ht : tag < 4) : symMk tag lo m w % 4 = tag := by
  show (tag + 4 * lo + 262144 * m + 17179869184 * w) % 4 = tag
  omega

/-! ## Values that lead nowhere -/
/-- no pointer; open numbers of the shared ones alone -/
noncomputable def flatV : V → Bool
  | .undef | .bool _ | .int _ _ | .str _ _ | .nilp | .nils | .nilm | .nilf | .nili | .nil => true
  | .sym i => Nat.beq (symW i) 99
  | .opq _ => true
  | .iface _ x => flatV x
  | .agg x => flatV x
  | .tup x => flatV x
  | .cons h t => flatV h && flatV t
  | _ => false

mutual
theorem VR.flat {g g' : G} {ρ ρ' : Rho} (hs : ∀ i, symW i = 99 → ρ'.f i = ρ.f i) (hv : ρ'.v = ρ.v) : ∀ {v : V} {x : Value}, VR g ρ v x → flatV v = true → VR g' ρ' v x
  | _, _, .undef, _ => .undef
  | _, _, .bool b, _ => .bool b
  | _, _, .int k n, _ => .int k n
  | _, _, .str s, _ => .str s
  | _, _, .nilp, _ => .nilp
  | _, _, .ptr h ho, hf => by cases hf
  | _, _, .nils, _ => .nils
  | _, _, .sl h ho hcap hex hlen hfit ha, hf => by cases hf
  | _, _, .nilm, _ => .nilm
  | _, _, .map h, hf => by cases hf
  | _, _, .nilf, _ => .nilf
  | _, _, .fn ha hb, hf => by cases hf
  | _, _, .yld h, hf => by cases hf
  | _, _, .nili, _ => .nili
  | _, _, .iface h, hf => .iface (VR.flat hs hv h hf)
  | _, _, .agg h hc, hf => .agg (VL.flat hs hv h hf) hc
  | _, _, .tup h, hf => .tup (VL.flat hs hv h hf)
  | _, _, .opq i h, _ => .opq i (by rw [hv]; exact h)
  | _, _, .sym i h, hf => by
    have e := hs i (beq_iff.1 hf)
    rw [← e] at h ⊢
    exact .sym i h
theorem VL.flat {g g' : G} {ρ ρ' : Rho} (hs : ∀ i, symW i = 99 → ρ'.f i = ρ.f i) (hv : ρ'.v = ρ.v) : ∀ {l : V} {xs : List Value}, VL g ρ l xs → flatV l = true → VL g' ρ' l xs
  | _, _, .nil, _ => .nil
  | _, _, .cons h ht, hf => by
    have hf : (flatV _ && flatV _) = true := hf
    rw [Bool.and_eq_true] at hf
    exact .cons (VR.flat hs hv h hf.1) (VL.flat hs hv ht hf.2)
end

theorem flatV_hd {l : V} (h : flatV l = true) : flatV (V.hd l) = true := by
  cases l <;> first | rfl | (simp only [flatV, Bool.and_eq_true] at h; exact h.1)
theorem flatV_tl {l : V} (h : flatV l = true) : flatV (V.tl l) = true := by
  cases l <;> first | rfl | (simp only [flatV, Bool.and_eq_true] at h; exact h.2)
theorem flatV_nth {l : V} (h : flatV l = true) : ∀ n, flatV (V.nth n l) = true
  | 0 => flatV_hd h
  | n + 1 => flatV_nth (flatV_tl h) n
theorem flatV_elem {ch : V} (h : flatV ch = true) (e : Nat) : flatV (V.elem e ch) = true := flatV_nth (flatV_nth h _) _

/-! ## The package-level variables that are known -/
noncomputable def flatVer : Ver → Bool
  | .none => true
  | .more i _ ch rest => Nat.beq i 0 && (flatV ch && flatVer rest)
noncomputable def flatObj : Obj → Bool
  | .cells _ _ ro _ _ vs => ro && flatVer vs
  | _ => false
noncomputable def laidH : List (Nat × Obj) → H4
  | [] => H4.empty
  | (i, x) :: l => H4.put (gkey i) x (laidH l)
/-- of which none stands twice -/
noncomputable def laidOK : List (Nat × Obj) → Bool
  | [] => true
  | (i, x) :: l => Nat.blt i 4096 && (flatObj x && (l.all (fun y => !K.beq (gkey i) (gkey y.1)) && laidOK l))
noncomputable def gsOf (L : List (Nat × Obj)) (i : Nat) : Bool := L.any fun y => Nat.beq y.1 i
noncomputable def famOf (L : List (Nat × Obj)) (k : K) : Option Obj := (L.find? fun y => K.beq (gkey y.1) k).map (·.2)
noncomputable def startOf (L : List (Nat × Obj)) : St := ⟨laidH L, ⟨.x0, .x0, .x0, .x0⟩, 1⟩

theorem laidH_at : ∀ {L : List (Nat × Obj)} {k : K}, H4.at k (laidH L) = (famOf L k).getD .none
  | [], k => H4.at_empty k
  | (i, x) :: l, k => by
    show H4.at k (H4.put (gkey i) x (laidH l)) = _
    rw [H4.at_put, laidH_at (L := l)]
    unfold famOf
    rw [List.find?_cons]
    by_cases h : k = gkey i
    · subst h
      rw [if_pos rfl, (K.beq_iff _ _).2 rfl]
      rfl
    · rw [if_neg h]
      have : K.beq (gkey i) k = false := by
        cases hb : K.beq (gkey i) k with
        | false => rfl
        | true => exact absurd ((K.beq_iff _ _).1 hb).symm h
      simp only [this]

theorem famOf_flat {L : List (Nat × Obj)} (h : laidOK L = true) {k : K} {x : Obj} (hk : famOf L k = some x) : flatObj x = true := by
  induction L with
  | nil => cases hk
  | cons y l ih =>
    obtain ⟨i, z⟩ := y
    simp only [laidOK, Bool.and_eq_true] at h
    unfold famOf at hk
    rw [List.find?_cons] at hk
    cases hb : K.beq (gkey i) k with
    | true =>
      simp only [hb, Option.map_some, Option.some.injEq] at hk
      subst hk
      exact h.2.1
    | false =>
      simp only [hb] at hk
      exact ih h.2.2.2 hk

theorem flatVer_has {v n : Nat} {ch : V} : ∀ {vs : Ver}, flatVer vs = true → Ver.has v n ch vs → v = 0 ∧ flatV ch = true
  | .none, _, h => h.elim
  | .more i m c rest, hf, h => by
    simp only [flatVer, Bool.and_eq_true] at hf
    rcases h with ⟨h1, h2, h3⟩ | h
    · subst h1 h2 h3
      exact ⟨beq_iff.1 hf.1, hf.2.1⟩
    · exact flatVer_has hf.2.2 h

theorem famOf_ro {L : List (Nat × Obj)} (h : laidOK L = true) {k : K} {x : Obj} (hk : famOf L k = some x) : ∃ elem sz a b vs, x = .cells elem sz true a b vs ∧ flatVer vs = true := by
  have := famOf_flat h hk
  cases x with
  | cells elem sz ro a b vs =>
    simp only [flatObj, Bool.and_eq_true] at this
    obtain ⟨h1, h2⟩ := this
    subst h1
    exact ⟨elem, sz, a, b, vs, rfl, h2⟩
  | _ => cases this

theorem gsOf_fam {L : List (Nat × Obj)} {i : Nat} (h : gsOf L i = true) : (famOf L (gkey i)).isSome = true := by
  unfold gsOf at h
  rw [List.any_eq_true] at h
  obtain ⟨y, hy, hi⟩ := h
  have hi := beq_iff.1 hi
  unfold famOf
  rw [Option.isSome_map, List.find?_isSome]
  exact ⟨y, hy, by rw [hi]; exact (K.beq_iff _ _).2 rfl⟩

/-! ## A call from a fresh start -/
section
variable {P : Program} {L0 : List (Nat × Obj)} {ρ ρ0 : Rho} {base : Nat}

/-- the known variables alone, in whatever world -/
noncomputable def gFresh (L0 : List (Nat × Obj)) (g : G) : G := fun f v => if v = 0 ∧ (famOf L0 f).isSome = true then g f v else none

theorem gFresh_le (L0 : List (Nat × Obj)) (g : G) : G.le (gFresh L0 g) g := by
  intro f v L h
  unfold gFresh at h
  split at h
  · exact h
  · cases h

theorem wr_fresh {g : G} {s : St} {w : World} (hL : laidOK L0 = true) (hf : ρ.fam = famOf L0) (hf0 : ρ0.fam = famOf L0) (hs : ∀ i, symW i = 99 → ρ0.f i = ρ.f i) (hsv : ρ0.v = ρ.v) (hW : WR g ρ base s w) :
    WR (gFresh L0 g) ρ0 w.heap.size (startOf L0) w := by
  have hle := gFresh_le L0 g
  refine ⟨?_, ?_, ?_, ?_, Nat.le_refl _, ?_, ?_⟩
  · intro f v hv
    have hv : 1 ≤ v := hv
    unfold gFresh
    rw [if_neg]
    rintro ⟨h, _⟩
    omega
  · intro f v f' v' L L' h h' hb
    exact hW.inj (hle _ _ _ h) (hle _ _ _ h') hb
  · intro f v L h
    exact hW.lt (hle _ _ _ h)
  · intro f v L h
    have hg := hle _ _ _ h
    unfold gFresh at h
    split at h
    · rename_i hc
      obtain ⟨hv, hsome⟩ := hc
      subst hv
      obtain ⟨x, hx⟩ := Option.isSome_iff_exists.1 hsome
      have h0 := hW.obj hg
      rw [(hW.ro (by rw [hf]; exact hx)).1] at h0
      obtain ⟨elem, sz, a, b, vs, rfl, hfl⟩ := famOf_ro hL hx
      show ObjR _ ρ0 _ 0 L w (H4.at f (laidH L0))
      rw [laidH_at, hx]
      obtain ⟨h1, h2, h3, c, fz, h4, h5, h6, h7⟩ := h0
      refine ⟨fun h => (by cases h), h2, h3, c, fz, h4, h5, h6, ?_⟩
      intro n ch hv
      obtain ⟨h8, h9⟩ := h7 n ch hv
      refine ⟨h8, ?_⟩
      intro e he hk
      obtain ⟨k1, xs, k2, k3, k4, k5⟩ := h9 e he hk
      exact ⟨k1, xs, VL.flat hs hsv k2 (flatV_elem (flatVer_has hfl hv).2 e), k3, k4, k5⟩
    · cases h
  · intro f elem sz ro a b vs v n ch hobj hv
    have hobj : H4.at f (laidH L0) = .cells elem sz ro a b vs := hobj
    rw [laidH_at] at hobj
    cases hx : famOf L0 f with
    | none => rw [hx] at hobj; cases hobj
    | some x =>
      rw [hx] at hobj
      have hobj : x = .cells elem sz ro a b vs := hobj
      obtain ⟨elem', sz', a', b', vs', he, hfl⟩ := famOf_ro hL hx
      rw [he] at hobj
      injection hobj with _ _ _ _ _ e6
      subst e6
      rw [(flatVer_has hfl hv).1]
      exact Nat.one_pos
  · intro k x hk
    rw [hf0] at hk
    obtain ⟨elem, sz, a, b, vs, h1, _⟩ := famOf_ro hL hk
    refine ⟨?_, elem, sz, a, b, vs, h1⟩
    show H4.at k (laidH L0) = x
    rw [laidH_at, hk]
    rfl

theorem glob_fresh {g : G} (hG : GlobR (gsOf L0) g) : GlobR (gsOf L0) (gFresh L0 g) := by
  intro i hi
  obtain ⟨csz, h⟩ := hG i hi
  refine ⟨csz, ?_⟩
  unfold gFresh
  rw [if_pos ⟨rfl, gsOf_fam hi⟩]
  exact h

/-- what is known of the old families stays where all old blocks stay -/
theorem step_kept {g g0 : G} {s : St} {w w' : World} (hW : WR g ρ base s w) (hk : Keep g0 w.heap.size w w') : Step g ρ base s w g s w' := by
  have hb : ∀ b, b < w.heap.size → w'.heap[b]? = w.heap[b]? := fun b hb => hk.blk b hb (.inl hb)
  refine ⟨.refl g w, ⟨hk.size, fun b h _ => hb b h, hk.os, hk.output, hk.tape⟩, ⟨hW.fresh, hW.inj, fun h => Nat.lt_of_lt_of_le (hW.lt h) hk.size, ?_, Nat.le_trans hW.base hk.size, hW.ids, hW.ro⟩, Nat.le_refl _, fun _ _ _ h _ => h⟩
  intro f v L h
  exact ObjR.mono (fun _ _ _ h => h) (hb _ (hW.lt h)) (hW.obj h)

/-- a call's answer, reckoned from a fresh start: for whatever stands in memory -/
theorem fresh_call (hL : laidOK L0 = true) (hf : ρ.fam = famOf L0) (hf0 : ρ0.fam = famOf L0) (hs : ∀ i, symW i = 99 → ρ0.f i = ρ.f i) (hsv : ρ0.v = ρ.v) {call : Nat → V → St → RC} (hC : ∀ base, CallSound P (gsOf L0) ρ0 base call)
    {f : Nat} {args ans : V} {s1 : St} (hrun : call f args (startOf L0) = .ok ans s1) (hans : flatV ans = true) {g : G} {s : St} {w : World} {xs : List Value} (hG : GlobR (gsOf L0) g) (hW : WR g ρ base s w)
    (hxs : VL (gFresh L0 g) ρ0 args xs) : GoodFn P f ∧ Calls P f xs.toArray w fun en w' => ∃ x g', en = .returned x ∧ Step g ρ base s w g' s w' ∧ VR g' ρ ans x := by
  obtain ⟨hgood, hcall⟩ := (hC w.heap.size f args (startOf L0) ans s1 hrun).1 (by rintro c rfl; cases hxs)
  refine ⟨hgood, (hcall (gFresh L0 g) w xs (glob_fresh hG) (wr_fresh hL hf hf0 hs hsv hW) hxs).mono fun en w' h => ?_⟩
  obtain ⟨x, g', he, hstep, hv⟩ := h
  exact ⟨x, g, he, step_kept hW hstep.keep, hv.flat (fun i hi => (hs i hi).symm) hsv.symm hans⟩
end
end Go.Ev

namespace Go.Ev
open Go.RowKit
set_option linter.unusedVariables false

/-! ## Remainders of open numbers -/
noncomputable def RC.isInt (n : Nat) (r : RC) : Bool := match r with
  | .ok (.int k (.ofNat m)) _ => Nat.beq (kcode k) 3 && Nat.beq m n
  | _ => false
theorem isInt_inv {n : Nat} {r : RC} (h : RC.isInt n r = true) : ∃ s, r = .ok (.int .i64 (Int.ofNat n)) s := by
  unfold RC.isInt at h
  split at h
  · rename_i k m s
    rw [Bool.and_eq_true] at h
    have hk : k = .i64 := kcode_inj (show kcode k = kcode .i64 from beq_iff.1 h.1)
    have hm := beq_iff.1 h.2
    subst hk hm
    exact ⟨s, rfl⟩
  · cases h
theorem isTrue_inv {r : RC} (h : RC.isTrue r = true) : ∃ s, r = .ok (.bool true) s := by
  cases r with
  | bad w => cases h
  | ok v s =>
    cases v with
    | bool b =>
      have h : b = true := h
      subst h
      exact ⟨s, rfl⟩
    | _ => cases h

noncomputable def placeArgs (lo m : Nat) : V := .cons (.sym (symMk 2 lo m 0)) (.cons (.int .i64 (Int.ofNat m)) .nil)
/-- does f take remainders by m? -/
noncomputable def placeChk (T : F3) (fuel f : Nat) (s0 : St) (m : Nat) : Bool :=
  Nat.ble 1 m && (Nat.ble m 32767 && (List.range m).all fun j => RC.isInt j (run T .nil fuel f (placeArgs (j + m) m) s0) && (Nat.beq j 0 || RC.isInt j (run T .nil fuel f (placeArgs j m) s0)))

theorem tmod_cases (v : Int) {m : Nat} (hm : 1 ≤ m) {j : Nat} (h : v % (m : Int) = (j : Int)) : j < m ∧ (v.tmod (m : Int) = j ∨ (j ≠ 0 ∧ v.tmod (m : Int) = (j : Int) - m)) := by
  have hpos : (0 : Int) < m := by omega
  have hlt := Int.emod_lt_of_pos v hpos
  have hj : j < m := by omega
  refine ⟨hj, ?_⟩
  rw [Int.tmod_eq_emod]
  split
  · left; rw [h]; simp
  · rename_i hc
    right
    refine ⟨?_, ?_⟩
    · intro h0
      subst h0
      exact hc (.inr (Int.dvd_of_emod_eq_zero h))
    · rw [h]
      simp

section
variable {P : Program} {L0 : List (Nat × Obj)} {ρ : Rho} {base : Nat}

theorem place_ok (hs : P.funcs.size ≤ 4095) (hL : laidOK L0 = true) (hf : ρ.fam = famOf L0) {f fuel m : Nat} (hchk : placeChk (table P (gsOf L0)) fuel f (startOf L0) m = true) {i : Nat} (hi : i % 4 = 3) (him : symM i = m)
    {s : St} {g : G} {w : World} {xs : List Value} (hG : GlobR (gsOf L0) g) (hW : WR g ρ base s w) (hxs : VL g ρ (.cons (.sym i) (.cons (.int .i64 (m : Int)) .nil)) xs) :
    GoodFn P f ∧ Calls P f xs.toArray w fun en w' => ∃ x g', en = .returned x ∧ Step g ρ base s w g' s w' ∧ VR g' ρ (.int .i64 (symLo i : Nat)) x := by
  simp only [placeChk, Bool.and_eq_true] at hchk
  obtain ⟨hm1, hm2, hall⟩ := hchk
  have hm1 : 1 ≤ m := ble_iff.1 hm1
  have hm2 : m ≤ 32767 := ble_iff.1 hm2
  cases hxs with | cons h1 h2 =>
  cases h1 with | sym _ hfact =>
  cases h2 with | cons h3 h4 =>
  cases h3
  cases h4
  obtain ⟨hr, _, _, h3⟩ := hfact
  have h3 := h3 hi
  rw [him] at h3
  obtain ⟨hj, ht⟩ := tmod_cases _ hm1 h3
  rw [List.all_eq_true] at hall
  have hboth := hall (symLo i) (List.mem_range.2 hj)
  rw [Bool.and_eq_true] at hboth
  -- whichever remainder it is
  have key : ∀ (lo : Nat), lo < 65536 → Int.tmod (ρ.f i) (m : Int) = (lo : Int) - m → RC.isInt (symLo i) (run (table P (gsOf L0)) .nil fuel f (placeArgs lo m) (startOf L0)) = true →
      GoodFn P f ∧ Calls P f #[.int .i64 (ρ.f i), .int .i64 (m : Int)] w fun en w' => ∃ x g', en = .returned x ∧ Step g ρ base s w g' s w' ∧ VR g' ρ (.int .i64 (symLo i : Nat)) x := by
    intro lo hlo htm hrun
    obtain ⟨s1, hrun⟩ := isInt_inv hrun
    have hw0 : symW (symMk 2 lo m 0) = 0 := symW_mk (by decide) hlo (by omega)
    refine fresh_call (ρ0 := ⟨fun k => if symW k = 99 then ρ.f k else ρ.f i, famOf L0, ρ.v⟩) hL hf rfl (fun k hk => if_pos hk) rfl (fun base => run_sound (orc := .nil) trivial hs fuel) hrun rfl hG hW (xs := [.int .i64 (ρ.f i), .int .i64 (m : Int)]) ?_
    refine .cons ?_ (.cons (.int _ _) .nil)
    have hfac : SymFact (symMk 2 lo m 0) (ρ.f i) := by
      refine ⟨hr, fun h => ?_, fun _ => ?_, fun h => ?_⟩
      · rw [symTag_mk (by decide)] at h; cases h
      · rw [symM_mk (by decide) hlo (by omega), symLo_mk (by decide) hlo]; exact htm
      · rw [symTag_mk (by decide)] at h; cases h
    have hv : (if symW (symMk 2 lo m 0) = 99 then ρ.f (symMk 2 lo m 0) else ρ.f i) = ρ.f i := by rw [if_neg (by rw [hw0]; decide)]
    have := VR.sym (g := gFresh L0 g) (ρ := ⟨fun k => if symW k = 99 then ρ.f k else ρ.f i, famOf L0, ρ.v⟩) (symMk 2 lo m 0) (by show SymFact _ (if _ then _ else _); rw [hv]; exact hfac)
    have hv' : (Rho.mk (fun k => if symW k = 99 then ρ.f k else ρ.f i) (famOf L0) ρ.v).f (symMk 2 lo m 0) = ρ.f i := hv
    rw [hv'] at this
    exact this
  rcases ht with ht | ⟨hne, ht⟩
  · exact key (symLo i + m) (by omega) (by rw [ht]; omega) hboth.1
  · refine key (symLo i) (by omega) ht ?_
    have h5 := hboth.2
    rw [Bool.or_eq_true] at h5
    rcases h5 with h5 | h5
    · exact absurd (beq_iff.1 h5) hne
    · exact h5

theorem orc_place (hs : P.funcs.size ≤ 4095) (hL : laidOK L0 = true) (hf : ρ.fam = famOf L0) {f fuel : Nat} {ms : List Nat} (hchk : ms.all (placeChk (table P (gsOf L0)) fuel f (startOf L0)) = true) {rest : Orc} (hrest : OrcOK P (gsOf L0) ρ base rest)
    (hgood : GoodFn P f) : OrcOK P (gsOf L0) ρ base (.place f ms rest) := by
  refine ⟨fun i m hm hi him => ⟨hgood, fun s g w xs hG hW hxs => ?_⟩, hrest⟩
  exact (place_ok hs hL hf (List.all_eq_true.1 hchk m hm) hi him hG hW hxs).2

/-- a function without arguments that is known to say true -/
theorem orc_true {o : Orc} (hs : P.funcs.size ≤ 4095) (hL : laidOK L0 = true) (hf : ρ.fam = famOf L0) {f fuel : Nat} (ho : ∀ base, OrcOK P (gsOf L0) ρ base o) (hchk : RC.isTrue (run (table P (gsOf L0)) o fuel f .nil (startOf L0)) = true)
    {rest : Orc} (hrest : OrcOK P (gsOf L0) ρ base rest) : OrcOK P (gsOf L0) ρ base (.more f .nil (.bool true) rest) := by
  obtain ⟨s1, hrun⟩ := isTrue_inv hchk
  have hC : ∀ base, CallSound P (gsOf L0) ρ base (run (table P (gsOf L0)) o fuel) := fun base => run_sound (ho base) hs fuel
  refine ⟨((hC 0 f .nil (startOf L0) _ s1 hrun).1 (by intro c hc; cases hc)).1, fun s g w xs hG hW hxs => ?_, hrest⟩
  cases hxs
  exact (fresh_call hL hf hf (fun _ _ => rfl) rfl hC hrun rfl hG hW .nil).2

/-! ## The start -/
noncomputable def cszOf (w : World) (i : Nat) : Nat := match w.heap[i]? with
  | some (.cells c _ _) => c.size
  | _ => 0
noncomputable def gInit (L0 : List (Nat × Obj)) (w : World) : G := fun f v => if v = 0 then (L0.find? fun y => K.beq (gkey y.1) f).map fun y => ⟨y.1, 0, cszOf w y.1⟩ else none
/-- the known variables hold what is said -/
def InitOK (ρ : Rho) (L0 : List (Nat × Obj)) (w : World) : Prop := ∀ i x, (i, x) ∈ L0 → i < w.heap.size ∧ ObjR (fun _ _ => none) ρ w.heap.size 0 ⟨i, 0, cszOf w i⟩ w x

theorem wr_init {w : World} (hL : laidOK L0 = true) (hf : ρ.fam = famOf L0) (hI : InitOK ρ L0 w) : WR (gInit L0 w) ρ w.heap.size (startOf L0) w ∧ GlobR (gsOf L0) (gInit L0 w) := by
  have inv : ∀ {f v L}, gInit L0 w f v = some L → v = 0 ∧ ∃ i x, (i, x) ∈ L0 ∧ gkey i = f ∧ L = ⟨i, 0, cszOf w i⟩ ∧ famOf L0 f = some x := by
    intro f v L h
    unfold gInit at h
    split at h
    · rename_i hv
      obtain ⟨y, h1, h2⟩ := Option.map_eq_some_iff.1 h
      have hy := List.mem_of_find?_eq_some h1
      have hk := List.find?_some h1
      exact ⟨hv, y.1, y.2, hy, (K.beq_iff _ _).1 hk, h2.symm, by unfold famOf; rw [h1]; rfl⟩
    · cases h
  refine ⟨⟨?_, ?_, ?_, ?_, Nat.le_refl _, ?_, ?_⟩, ?_⟩
  · intro f v hv
    have hv : 1 ≤ v := hv
    unfold gInit
    rw [if_neg (by omega)]
  · intro f v f' v' L L' h h' hb
    obtain ⟨_, i, x, _, h2, h3, _⟩ := inv h
    obtain ⟨_, i', x', _, h2', h3', _⟩ := inv h'
    subst h3 h3'
    have hb : i = i' := hb
    subst hb
    exact ⟨h2.symm.trans h2', rfl, rfl⟩
  · intro f v L h
    obtain ⟨_, i, x, h1, _, h3, _⟩ := inv h
    subst h3
    exact (hI i x h1).1
  · intro f v L h
    obtain ⟨hv, i, x, h1, h2, h3, h4⟩ := inv h
    subst hv h3
    show ObjR _ ρ _ 0 _ w (H4.at f (laidH L0))
    rw [laidH_at, h4]
    exact ObjR.mono (fun _ _ _ h => by cases h) rfl (hI i x h1).2
  · intro f elem sz ro a b vs v n ch hobj hv
    have hobj : H4.at f (laidH L0) = .cells elem sz ro a b vs := hobj
    rw [laidH_at] at hobj
    cases hx : famOf L0 f with
    | none => rw [hx] at hobj; cases hobj
    | some x =>
      rw [hx] at hobj
      have hobj : x = .cells elem sz ro a b vs := hobj
      obtain ⟨elem', sz', a', b', vs', he, hfl⟩ := famOf_ro hL hx
      rw [he] at hobj
      injection hobj with _ _ _ _ _ e6
      subst e6
      rw [(flatVer_has hfl hv).1]
      exact Nat.one_pos
  · intro k x hk
    rw [hf] at hk
    obtain ⟨elem, sz, a, b, vs, h1, _⟩ := famOf_ro hL hk
    refine ⟨?_, elem, sz, a, b, vs, h1⟩
    show H4.at k (laidH L0) = x
    rw [laidH_at, hk]
    rfl
  · intro i hi
    have hs := gsOf_fam hi
    unfold famOf at hs
    rw [Option.isSome_map] at hs
    obtain ⟨y, hy⟩ := Option.isSome_iff_exists.1 hs
    have hk : gkey y.1 = gkey i := (K.beq_iff _ _).1 (List.find?_some (p := fun (z : Nat × Obj) => K.beq (gkey z.1) (gkey i)) hy)
    refine ⟨cszOf w y.1, ?_⟩
    unfold gInit
    rw [if_pos rfl, hy]
    have hlt : y.1 < 4096 := by
      have : ∀ {L : List (Nat × Obj)} {y}, laidOK L = true → y ∈ L → y.1 < 4096 := by
        intro L
        induction L with
        | nil => intro y _ h; cases h
        | cons z l ih =>
          intro y h hy
          obtain ⟨i, x⟩ := z
          simp only [laidOK, Bool.and_eq_true] at h
          rcases List.mem_cons.1 hy with rfl | hy
          · exact Nat.le_of_ble_eq_true h.1
          · exact ih h.2.2.2 hy
      exact this hL (List.mem_of_find?_eq_some hy)
    have hilt : i < 4096 := by
      unfold gsOf at hi
      rw [List.any_eq_true] at hi
      obtain ⟨z, hz, hzi⟩ := hi
      have hzi := beq_iff.1 hzi
      have : ∀ {L : List (Nat × Obj)} {y}, laidOK L = true → y ∈ L → y.1 < 4096 := by
        intro L
        induction L with
        | nil => intro y _ h; cases h
        | cons z l ih =>
          intro y h hy
          obtain ⟨i, x⟩ := z
          simp only [laidOK, Bool.and_eq_true] at h
          rcases List.mem_cons.1 hy with rfl | hy
          · exact Nat.le_of_ble_eq_true h.1
          · exact ih h.2.2.2 hy
      rw [← hzi]
      exact this hL hz
    have he : y.1 = i := by
      have h0 : gkey y.1 = gkey i := hk
      have h1 : (gkey y.1).a = (gkey i).a := by rw [h0]
      have h2 : (gkey y.1).b = (gkey i).b := by rw [h0]
      have h3 : (gkey y.1).c = (gkey i).c := by rw [h0]
      have e1 : y.1 % 16 = i % 16 := D.dig_inj (by omega) (by omega) h1
      have e2 : y.1 / 16 % 16 = i / 16 % 16 := D.dig_inj (by omega) (by omega) h2
      have e3 : y.1 / 256 % 16 = i / 256 % 16 := D.dig_inj (by omega) (by omega) h3
      omega
    simp only [Option.map_some, he]

/-! ## A variable of the library's own that holds some number (bytealg.MaxLen) -/
/-- its number: an open one, shared -/
noncomputable def maxSym : Nat := symMk 0 0 0 99
noncomputable def maxObj (t : Nat) : Obj := .cells t 1 true 0 0 (.more 0 1 (V.putElems (.cons (.cons (.sym maxSym) .nil) .nil) 0 .nil) .none)

theorem maxFact {m : Int} (h : -9223372036854775808 ≤ m ∧ m < 9223372036854775808) : SymFact maxSym m := by
  refine ⟨h, fun h => ?_, fun h => ?_, fun h => ?_⟩ <;> (unfold maxSym at h; rw [symTag_mk (by decide)] at h; cases h)

/-- one variable is as it is said to be -/
def InitAt (ρ : Rho) (w : World) (i : Nat) (x : Obj) : Prop := i < w.heap.size ∧ ObjR (fun _ _ => none) ρ w.heap.size 0 ⟨i, 0, cszOf w i⟩ w x
theorem init_nil {w : World} : InitOK ρ [] w := fun _ _ h => by cases h
theorem init_cons {w : World} {i : Nat} {x : Obj} {l : List (Nat × Obj)} (h : InitAt ρ w i x) (hl : InitOK ρ l w) : InitOK ρ ((i, x) :: l) w := by
  intro j y hy
  rcases List.mem_cons.1 hy with he | hy
  · injection he with h1 h2
    subst h1 h2
    exact h
  · exact hl j y hy
/-- a variable of one cell, of which is known what its cell reads as -/
theorem init_cell {w : World} {i t : Nat} {c : V} {x : Value} {cs : Array Value} (hh : w.heap[i]? = some (.cells cs t (0, 0))) (hs : cs.size = 1) (hm : cs[0]? = some x) (hx : VR (fun _ _ => none) ρ c x) (hc : x.oneCell' = true) :
    InitAt ρ w i (.cells t 1 true 0 0 (.more 0 1 (V.putElems (.cons (.cons c .nil) .nil) 0 .nil) .none)) := by
  have hlt : i < w.heap.size := (Array.getElem?_eq_some_iff.1 hh).1
  refine ⟨hlt, fun h => (by cases h), Nat.dvd_zero _, Nat.one_pos, cs, (0, 0), hh, by unfold cszOf; rw [hh], ⟨Nat.le_refl 0, fun i h1 h2 => absurd h2 (Nat.not_lt_zero _)⟩, ?_⟩
  intro n ch hv
  rcases hv with ⟨_, h2, h3⟩ | hv
  · subst h2 h3
    have hc1 : cszOf w i = 1 := by unfold cszOf; rw [hh]; exact hs
    refine ⟨by show 1 ≤ 0 + cszOf w i; omega, ?_⟩
    refine RowR.put (n := 0) (e0 := 0) (RowR.nil') (m := 1) (ys := [x]) ?_ (Nat.zero_le _) (Nat.zero_le _) (by omega) ?_
    · exact ELs.cons (xs := [x]) (ys := []) (.cons hx .nil) rfl (by simpa using hc) .nil
    · intro j hj
      have hj : j < 1 := hj
      obtain rfl : j = 0 := by omega
      exact hm
  · exact hv.elim
theorem init_max {w : World} {gi t : Nat} {m : Int} {cs : Array Value} (hh : w.heap[gi]? = some (.cells cs t (0, 0))) (hs : cs.size = 1) (hm : cs[0]? = some (.int .i64 m)) (hr : -9223372036854775808 ≤ m ∧ m < 9223372036854775808) (hf : ρ.f maxSym = m) :
    InitAt ρ w gi (maxObj t) := by
  refine init_cell hh hs hm ?_ rfl
  have := VR.sym (g := fun _ _ => none) (ρ := ρ) maxSym (by rw [hf]; exact maxFact hr)
  rw [hf] at this
  exact this
/-- a variable whose value is never looked into -/
noncomputable def opqObj (t i : Nat) : Obj := .cells t 1 true 0 0 (.more 0 1 (V.putElems (.cons (.cons (.opq i) .nil) .nil) 0 .nil) .none)
theorem init_opq {w : World} {gi t k u : Nat} {x : Value} {cs : Array Value} (hh : w.heap[gi]? = some (.cells cs t (0, 0))) (hs : cs.size = 1) (hm : cs[0]? = some (.iface u x)) (hv : ρ.v k = .iface u x) : InitAt ρ w gi (opqObj t k) :=
  init_cell hh hs hm (.opq k hv) rfl

/-- the world's shape says that such a variable holds some number -/
theorem shaped_max {w : World} {gi t : Nat} {zero : Array Value} (h : w.ShapedOpen P) (hg : gi < P.globals.size) (h0 : ((begin P (fun _ _ => 0) default).world.heap[gi]?).bind Go.Obj.row? = some (zero, t)) (hz : zero.size = 1)
    (hb : P.buildable t = true) (hc : P.cellTypes P.depth t = some [t]) (hu : P.underlying t = some (.int .i64)) :
    ∃ (cs : Array Value) (m : Int), w.heap[gi]? = some (.cells cs t (0, 0)) ∧ cs.size = 1 ∧ cs[0]? = some (.int .i64 m) ∧ (-9223372036854775808 ≤ m ∧ m < 9223372036854775808) := by
  obtain ⟨cs, hh, hs, hr⟩ := h.1 gi zero t hg h0
  obtain ⟨ts, hts, _, hall⟩ := hr hb
  rw [hc] at hts
  cases hts
  have h1 : 0 < cs.size := by omega
  have hget : cs[0]? = some cs[0] := by simp [h1]
  obtain ⟨u, hu', hok⟩ := hall 0 cs[0] hget
  have : u = t := by simpa using hu'.symm
  subst this
  unfold Cell.ok at hok
  rw [hu] at hok
  cases hv : cs[0] <;> rw [hv] at hok <;> simp at hok
  case int k' n =>
    obtain ⟨rfl, hn⟩ := hok
    refine ⟨cs, n, hh, by omega, by rw [hget, hv], ?_⟩
    have hn : IntKind.i64.min ≤ n ∧ n ≤ IntKind.i64.max := hn
    rw [show IntKind.i64.min = -9223372036854775808 from rfl, show IntKind.i64.max = 9223372036854775807 from rfl] at hn
    omega

theorem trod_iface {w : World} {fuel t : Nat} {cs : List Value} {nm : String} {d : DataW Unit} {p : List MemPlace} {ms : Array (String × TypeId)} (h : DataW.trod (fun _ => ()) P w 0 (fun _ => true) false fuel t cs = some (.iface nm d, p))
    (hu : P.underlying t = some (.interface ms)) : ∃ u x, cs = [.iface u x] := by
  cases fuel with
  | zero => cases h
  | succ n =>
    unfold DataW.trod at h
    rw [hu] at h
    match cs, h with
    | [.nilIface], h => injection h with h; injection h with h _; cases h
    | [.iface u v], _ => exact ⟨_, _, rfl⟩

theorem laidVars_mem {w : World} {n : String} {d : DataW Unit} : ∀ {l : List (String × DataW Unit)} {ps : List MemPlace}, DataW.LaidVars P w l ps → (n, d) ∈ l →
    ∃ g t cs fuel p, P.globalNamed n = some g ∧ (P.globals[g]?).map (·.type) = some t ∧ w.var? P n = some cs ∧ DataW.trod (fun _ => ()) P w 0 (fun _ => true) false fuel t cs.toList = some (d, p)
  | [], _, _, hm => by cases hm
  | (n', d') :: l, ps, h, hm => by
    obtain ⟨g, t, cs, fuel, p, q, h1, h2, h3, h4, h5, _⟩ := h
    rcases List.mem_cons.1 hm with he | hm
    · injection he with e1 e2
      subst e1 e2
      exact ⟨g, t, cs, fuel, p, h1, h2, h3, h4⟩
    · exact laidVars_mem h5 hm

/-- a laid variable of an interface type: its cell holds one value -/
theorem laid_opq {l : List (String × DataW Unit)} {w : World} {n nm : String} {d : DataW Unit} {g t t' : Nat} {ms : Array (String × TypeId)} {zero : Array Value} (h : laidMetH P l w) (hh : (l.filter fun x => x.2.handleName?.isSome) = []) (hmem : (n, .iface nm d) ∈ l)
    (hg : P.globalNamed n = some g) (ht : (P.globals[g]?).map (·.type) = some t) (hu : P.underlying t = some (.interface ms)) (hsh : w.ShapedOpen P) (hlt : g < P.globals.size)
    (h0 : ((begin P (fun _ _ => 0) default).world.heap[g]?).bind Go.Obj.row? = some (zero, t')) :
    ∃ (cs : Array Value) (u : TypeId) (x : Value), w.heap[g]? = some (.cells cs t' (0, 0)) ∧ cs.size = 1 ∧ cs[0]? = some (.iface u x) := by
  unfold laidMetH at h
  rw [hh] at h
  obtain ⟨ps, hl, _⟩ := h
  obtain ⟨g1, t1, cs1, fuel, p, h1, h2, h3, h4⟩ := laidVars_mem hl hmem
  obtain rfl := Option.some.inj (hg.symm.trans h1)
  obtain rfl := Option.some.inj (ht.symm.trans h2)
  obtain ⟨cs, hc, _, _⟩ := hsh.1 g zero t' hlt h0
  have hcs : cs1 = cs := by
    unfold World.var? at h3
    rw [hg, Option.bind_some, hc] at h3
    exact (Option.some.inj h3).symm
  subst hcs
  obtain ⟨u, x, hx⟩ := trod_iface h4 hu
  refine ⟨cs1, u, x, hc, ?_, ?_⟩
  · rw [← Array.length_toList, hx]; rfl
  · rw [← Array.getElem?_toList, hx]; rfl

theorem cell_max {gi t : Nat} {gs : Nat → Bool} {g : G} {s : St} {w : World} (hfam : ρ.fam (gkey gi) = some (maxObj t)) (hgi : gs gi = true) (hG : GlobR gs g) (hW : WR g ρ base s w) : w.cell? ⟨gi, 0, none⟩ = some (.int .i64 (ρ.f maxSym)) := by
  obtain ⟨csz, hg⟩ := hG gi hgi
  have hobj := (hW.ro hfam).1
  obtain ⟨_, _, _, c, fz, hc, hcs, _, hn, hrow⟩ := hW.row hg hobj (v := 0) (n := 1) (.inl ⟨rfl, rfl, rfl⟩)
  have he : V.elem 0 (V.putElems (.cons (.cons (.sym maxSym) .nil) .nil) 0 .nil) = .cons (.sym maxSym) .nil := rfl
  obtain ⟨_, xs, h1, h2, h3, h4⟩ := hrow 0 (Nat.zero_le _) (by rw [he]; intro h; cases h)
  rw [he] at h1
  cases h1 with | cons h5 h6 =>
  cases h6
  cases h5
  rw [cell_of hc]
  exact h4 0 Nat.one_pos

theorem orc_idx {gi t f : Nat} {gs : Nat → Bool} (hgood : GoodFn P f) (hfam : ρ.fam (gkey gi) = some (maxObj t)) (hgi : gs gi = true)
    (hcon : ∀ (s1 s2 : ByteArray) (m : Int) (w : World), s1.size < 4294967281 → w.cell? ⟨gi, 0, none⟩ = some (.int .i64 m) →
      Calls P f #[.string s1, .string s2] w fun en w' => en = .returned (.int .i64 (Lib.index s1.data.toList s2.data.toList)) ∧ w' = w)
    {rest : Orc} (hrest : OrcOK P gs ρ base rest) : OrcOK P gs ρ base (.idx f rest) :=
  ⟨⟨hgood, fun s1 s2 _ h2 s g w hG hW => hcon s1 s2 _ w (by omega) (cell_max hfam hgi hG hW)⟩, hrest⟩

/-- THE LAW's CALL: what the evaluator says of it -/
theorem law_calls (hs : P.funcs.size ≤ 4095) (hL : laidOK L0 = true) (hf : ρ.fam = famOf L0) {w : World} (hI : InitOK ρ L0 w) {orc : Orc} (hO : OrcOK P (gsOf L0) ρ w.heap.size orc) {f fuel : Nat} {args : V} {xs : List Value}
    (hrun : RC.isTrue (run (table P (gsOf L0)) orc fuel f args (startOf L0)) = true) (hxs : VL (gInit L0 w) ρ args xs) :
    Calls P f xs.toArray w fun en w' => en = .returned (.bool true) ∧ Below w.heap.size w w' := by
  obtain ⟨s1, hrun⟩ := isTrue_inv hrun
  obtain ⟨hW, hG⟩ := wr_init hL hf hI
  refine (((run_sound hO hs fuel f args (startOf L0) _ s1 hrun).1 (by rintro c rfl; cases hxs)).2 _ w xs hG hW hxs).mono fun en w' h => ?_
  obtain ⟨x, g', he, hstep, hv⟩ := h
  cases hv
  exact ⟨he, hstep.keep.os, hstep.keep.tape, hstep.keep.output, hstep.keep.size, fun k hk => hstep.keep.blk k hk (.inl hk)⟩

/-! ## A law's arguments -/
/-- the w-th argument: of its remainder by m is known that it is j -/
noncomputable def modArg (m w j : Nat) : V := .sym (symMk 3 j m w)
/-- of its last three bits -/
noncomputable def lowArg (w j : Nat) : V := .sym (symMk 1 j 0 w)
/-- of none -/
noncomputable def anyArg (w : Nat) : V := .sym (symMk 0 0 0 w)
/-- the open numbers: the arguments as they are -/
noncomputable def rhoOf (L0 : List (Nat × Obj)) (vs : List Int) (ov : Nat → Value := fun _ => .nilIface) : Rho := ⟨fun i => vs.getD (symW i) 0, famOf L0, ov⟩

theorem vr_mod {L0 : List (Nat × Obj)} {vs : List Int} {ov : Nat → Value} {g : G} {v : Int} {m w : Nat} (hr : -9223372036854775808 ≤ v ∧ v < 9223372036854775808) (hm : 0 < m ∧ m < 65536) (hw : vs.getD w 0 = v) :
    (v % (m : Int)).toNat < m ∧ VR g (rhoOf L0 vs ov) (modArg m w (v % (m : Int)).toNat) (.int .i64 v) := by
  have h0 := Int.emod_nonneg v (show (m : Int) ≠ 0 by omega)
  have h1 := Int.emod_lt_of_pos v (show (0 : Int) < (m : Int) by omega)
  have hlt : (v % (m : Int)).toNat < m := by omega
  refine ⟨hlt, ?_⟩
  have hf : (rhoOf L0 vs ov).f (symMk 3 (v % (m : Int)).toNat m w) = v := by
    show vs.getD (symW _) 0 = v
    rw [symW_mk (by decide) (by omega) (by omega)]
    exact hw
  have := VR.sym (g := g) (ρ := rhoOf L0 vs ov) (symMk 3 (v % (m : Int)).toNat m w) (by
    rw [hf]
    refine ⟨hr, fun h => ?_, fun h => ?_, fun _ => ?_⟩
    · rw [symTag_mk (by decide)] at h; cases h
    · rw [symTag_mk (by decide)] at h; cases h
    · rw [symM_mk (by decide) (by omega) (by omega), symLo_mk (by decide) (by omega)]; omega)
  rw [hf] at this
  exact this

theorem vr_low {L0 : List (Nat × Obj)} {vs : List Int} {ov : Nat → Value} {g : G} {v : Int} {w : Nat} (hr : -9223372036854775808 ≤ v ∧ v < 9223372036854775808) (hw : vs.getD w 0 = v) :
    (v % 8).toNat < 8 ∧ VR g (rhoOf L0 vs ov) (lowArg w (v % 8).toNat) (.int .i64 v) := by
  have h0 := Int.emod_nonneg v (show (8 : Int) ≠ 0 by omega)
  have h1 := Int.emod_lt_of_pos v (show (0 : Int) < 8 by omega)
  have hlt : (v % 8).toNat < 8 := by omega
  refine ⟨hlt, ?_⟩
  have hf : (rhoOf L0 vs ov).f (symMk 1 (v % 8).toNat 0 w) = v := by
    show vs.getD (symW _) 0 = v
    rw [symW_mk (by decide) (by omega) (by omega)]
    exact hw
  have := VR.sym (g := g) (ρ := rhoOf L0 vs ov) (symMk 1 (v % 8).toNat 0 w) (by
    rw [hf]
    refine ⟨hr, fun _ => ?_, fun h => ?_, fun h => ?_⟩
    · rw [symLo_mk (by decide) (by omega)]; omega
    · rw [symTag_mk (by decide)] at h; cases h
    · rw [symTag_mk (by decide)] at h; cases h)
  rw [hf] at this
  exact this

theorem vr_any {L0 : List (Nat × Obj)} {vs : List Int} {ov : Nat → Value} {g : G} {v : Int} {w : Nat} (hr : -9223372036854775808 ≤ v ∧ v < 9223372036854775808) (hw : vs.getD w 0 = v) :
    VR g (rhoOf L0 vs ov) (anyArg w) (.int .i64 v) := by
  have hf : (rhoOf L0 vs ov).f (symMk 0 0 0 w) = v := by
    show vs.getD (symW _) 0 = v
    rw [symW_mk (by decide) (by omega) (by omega)]
    exact hw
  have := VR.sym (g := g) (ρ := rhoOf L0 vs ov) (symMk 0 0 0 w) (by
    rw [hf]
    refine ⟨hr, fun h => ?_, fun h => ?_, fun h => ?_⟩ <;> (rw [symTag_mk (by decide)] at h; cases h))
  rw [hf] at this
  exact this

theorem wf_range {n : Int} (h : (Lit.int .i64 n).wf = true) : -9223372036854775808 ≤ n ∧ n < 9223372036854775808 := by
  have h : (decide (IntKind.i64.min ≤ n) && decide (n ≤ IntKind.i64.max)) = true := h
  rw [Bool.and_eq_true, decide_eq_true_eq, decide_eq_true_eq, show IntKind.i64.min = -9223372036854775808 from rfl, show IntKind.i64.max = 9223372036854775807 from rfl] at h
  omega

theorem all_range {p : Nat → Bool} {m j : Nat} (h : (List.range m).all p = true) (hj : j < m) : p j = true := List.all_eq_true.1 h j (List.mem_range.2 hj)

/-! ## A table's cells, for the witness -/
mutual
def cellsD : DataW Unit → List Value
  | .lit (.int k n) => [.int k n]
  | .lit (.bool b) => [.bool b]
  | .lit (.string b) => [.string ⟨b.toArray⟩]
  | .agg l => cellsDs l
  | _ => []
def cellsDs : List (DataW Unit) → List Value
  | [] => []
  | d :: l => cellsD d ++ cellsDs l
end
/-- of a slice: the cells of its elements; how many elements -/
def rowD : DataW Unit → List Value × Nat
  | .slice l _ => (cellsDs l, l.length)
  | _ => ([], 0)
def putCells (h : Array Go.Obj) (i : Nat) (cs : List Value) : Array Go.Obj := h.modify i fun
  | .cells _ t frozen => .cells cs.toArray t frozen
  | o => o

theorem goodFn_of {f : Nat} (h : (P.funcs[f]?).any (fun fn => fn.body.isSome && fn.name != "runtime.NumGoroutine") = true) : GoodFn P f := by
  cases hf : P.funcs[f]? with
  | none => rw [hf] at h; cases h
  | some fn =>
    rw [hf] at h
    simp only [Option.any_some, Bool.and_eq_true] at h
    refine ⟨fn, hf, fun hb => ?_, by simpa using h.2⟩
    rw [hb] at h
    cases h.1
end
end Go.Ev

namespace Go.Ev
set_option linter.unusedVariables false

/-! ## A call's answer, reckoned once: with what it leaves -/
def KOL.get : KOL → K → Option Obj
  | .nil, _ => none
  | .cons k x t, k' => if k' = k then some x else KOL.get t k'
theorem KOL.put_at : ∀ {l : KOL} {h : H4} {k : K}, H4.at k (KOL.put l h) = (KOL.get l k).getD (H4.at k h)
  | .nil, h, k => rfl
  | .cons k' x t, h, k => by
    show H4.at k (H4.put k' x (KOL.put t h)) = (if k = k' then some x else KOL.get t k).getD (H4.at k h)
    rw [H4.at_put, KOL.put_at]
    by_cases hk : k = k'
    · rw [if_pos hk, if_pos hk]; rfl
    · rw [if_neg hk, if_neg hk]
theorem KOL.all_get {p : K → Obj → Bool} : ∀ {l : KOL} {k : K} {x : Obj}, KOL.all p l = true → KOL.get l k = some x → p k x = true
  | .nil, k, x, h, hg => by cases hg
  | .cons k' y t, k, x, h, hg => by
    obtain ⟨h1, h2⟩ := band_iff.1 (show band (p k' y) (KOL.all p t) = true from h)
    unfold KOL.get at hg
    split at hg
    · rename_i hk
      injection hg with hg
      subst hk hg
      exact h1
    · exact KOL.all_get h2 hg
theorem KOL.free_get : ∀ {l : KOL} {h : H4} {k : K} {x : Obj}, KOL.free l h = true → KOL.get l k = some x → H4.at k h = .none
  | .nil, h, k, x, hf, hg => by cases hg
  | .cons k' y t, h, k, x, hf, hg => by
    obtain ⟨h1, h2⟩ := band_iff.1 (show band (Obj.isNone (H4.at k' h)) (KOL.free t h) = true from hf)
    unfold KOL.get at hg
    split at hg
    · rename_i hk
      subst hk
      cases ho : H4.at k h with
      | none => rfl
      | _ => rw [ho] at h1; cases h1
    · exact KOL.free_get h2 hg

theorem inTree_inv {objs : KOL} {n0 : Nat} {f : K} {v : Nat} (h : inTree (KOL.put objs H4.empty) n0 f v = true) : v < n0 ∨ (KOL.get objs f).isSome = true := by
  unfold inTree at h
  cases hb : Nat.ble (Nat.succ v) n0 with
  | true => exact .inl (ble_iff.1 hb)
  | false =>
    rw [hb] at h
    have h : bnot (Obj.isNone (H4.at f (KOL.put objs H4.empty))) = true := h
    rw [KOL.put_at, H4.at_empty] at h
    cases hg : KOL.get objs f with
    | none => rw [hg] at h; exact absurd h (by decide)
    | some x => exact .inr rfl

mutual
theorem VR.within {g g' : G} {ρ : Rho} {T : H4} {n0 : Nat} (hin : ∀ f v L, g f v = some L → inTree T n0 f v = true → g' f v = some L) : ∀ {v : V} {x : Value}, VR g ρ v x → closedV T n0 v = true → VR g' ρ v x
  | _, _, .undef, _ => .undef
  | _, _, .bool b, _ => .bool b
  | _, _, .int k n, _ => .int k n
  | _, _, .str s, _ => .str s
  | _, _, .nilp, _ => .nilp
  | _, _, .ptr h ho, hf => .ptr (hin _ _ _ h hf) ho
  | _, _, .nils, _ => .nils
  | _, _, .sl h ho hcap hex hlen hfit ha, hf => .sl (hin _ _ _ h hf) ho hcap hex hlen hfit ha
  | _, _, .nilm, _ => .nilm
  | _, _, .map h, hf => .map (hin _ _ _ h hf)
  | _, _, .nilf, _ => .nilf
  | _, _, .fn ha hb, hf => .fn (VL.within hin ha (band_iff.1 hf).1) (VL.within hin hb (band_iff.1 hf).2)
  | _, _, .yld h, hf => .yld (hin _ _ _ h (band_iff.1 hf).1)
  | _, _, .nili, _ => .nili
  | _, _, .iface h, hf => .iface (VR.within hin h hf)
  | _, _, .agg h hc, hf => .agg (VL.within hin h hf) hc
  | _, _, .tup h, hf => .tup (VL.within hin h hf)
  | _, _, .opq i h, _ => .opq i h
  | _, _, .sym i h, _ => .sym i h
theorem VL.within {g g' : G} {ρ : Rho} {T : H4} {n0 : Nat} (hin : ∀ f v L, g f v = some L → inTree T n0 f v = true → g' f v = some L) : ∀ {l : V} {xs : List Value}, VL g ρ l xs → closedV T n0 l = true → VL g' ρ l xs
  | _, _, .nil, _ => .nil
  | _, _, .cons h ht, hf => .cons (VR.within hin h (band_iff.1 hf).1) (VL.within hin ht (band_iff.1 hf).2)
end

theorem closedV_hd {T : H4} {n0 : Nat} {l : V} (h : closedV T n0 l = true) : closedV T n0 (V.hd l) = true := by
  cases l <;> first | rfl | exact (band_iff.1 h).1
theorem closedV_tl {T : H4} {n0 : Nat} {l : V} (h : closedV T n0 l = true) : closedV T n0 (V.tl l) = true := by
  cases l <;> first | rfl | exact (band_iff.1 h).2
theorem closedV_nth {T : H4} {n0 : Nat} {l : V} (h : closedV T n0 l = true) : ∀ n, closedV T n0 (V.nth n l) = true
  | 0 => closedV_hd h
  | n + 1 => closedV_nth (closedV_tl h) n
theorem closedV_elem {T : H4} {n0 : Nat} {ch : V} (h : closedV T n0 ch = true) (e : Nat) : closedV T n0 (V.elem e ch) = true := closedV_nth (closedV_nth h _) _
theorem closedVer_has {T : H4} {n0 v n : Nat} {ch : V} : ∀ {vs : Ver}, closedVer T n0 vs = true → Ver.has v n ch vs → closedV T n0 ch = true
  | .none, _, h => h.elim
  | .more i m c rest, hf, h => by
    obtain ⟨h1, h2⟩ := band_iff.1 (show band (closedV T n0 c) (closedVer T n0 rest) = true from hf)
    rcases h with ⟨_, _, h3⟩ | h
    · subst h3; exact h1
    · exact closedVer_has h2 h

section
variable {P : Program} {L0 : List (Nat × Obj)} {ρ : Rho} {base : Nat}

noncomputable def startAt (L0 : List (Nat × Obj)) (k : K) (n : Nat) : St := ⟨laidH L0, k, n⟩

theorem wr_freshAt {g : G} {s : St} {w : World} (hL : laidOK L0 = true) (hf : ρ.fam = famOf L0) (hW : WR g ρ base s w) (k : K) {n : Nat} (hn : 1 ≤ n) : WR (gFresh L0 g) ρ w.heap.size (startAt L0 k n) w := by
  have h := wr_fresh (ρ0 := ρ) hL hf hf (fun _ _ => rfl) rfl hW
  refine ⟨fun f v hv => ?_, h.inj, h.lt, h.obj, h.base, fun hobj hv => Nat.lt_of_lt_of_le (h.ids hobj hv) hn, h.ro⟩
  have hv : n ≤ v := hv
  unfold gFresh
  rw [if_neg]
  rintro ⟨h0, _⟩
  omega

theorem orc_memo {o : Orc} (hs : P.funcs.size ≤ 4095) (hL : laidOK L0 = true) (hf : ρ.fam = famOf L0) {f fuel n0 n1 : Nat} {as ans : V} {objs : KOL} {k0 : K} (hn0 : 1 ≤ n0) (ho : ∀ base, OrcOK P (gsOf L0) ρ base o)
    (hchk : memoChk (run (table P (gsOf L0)) o fuel f as (startAt L0 k0 n0)) ans objs n0 n1 = true) (hflat : flatV as = true) (hlist : ∀ c, as ≠ .agg c) {rest : Orc} (hrest : OrcOK P (gsOf L0) ρ base rest) :
    OrcOK P (gsOf L0) ρ base (.memo f as ans objs n0 n1 rest) := by
  cases hrun : run (table P (gsOf L0)) o fuel f as (startAt L0 k0 n0) with
  | bad q => rw [hrun] at hchk; cases hchk
  | ok v s1 =>
    rw [hrun] at hchk
    obtain ⟨c1, hchk⟩ := band_iff.1 (show band (same v ans) (band (Nat.beq s1.nx n1) (band (closedV (KOL.put objs H4.empty) n0 ans)
      (KOL.all (fun k x => band (Obj.same (H4.at k s1.h) x) (closedObj (KOL.put objs H4.empty) n0 x)) objs))) = true from hchk)
    obtain ⟨c2, hchk⟩ := band_iff.1 hchk
    obtain ⟨c3, c4⟩ := band_iff.1 hchk
    have hva := same_eq c1
    have hn1 := beq_iff.1 c2
    subst hva
    refine ⟨⟨((run_sound (ho 0) hs fuel f as _ _ _ hrun).1 hlist).1, fun s g w xs hnx hfree hG hW hxs => ?_⟩, hrest⟩
    have hW0 := wr_freshAt hL hf hW k0 hn0
    refine (((run_sound (ho w.heap.size) hs fuel f as _ _ _ hrun).1 hlist).2 (gFresh L0 g) w xs (glob_fresh hG) hW0 (hxs.flat (fun _ _ => rfl) rfl hflat)).mono fun en w' h => ?_
    obtain ⟨x, g1, he, hstep, hv⟩ := h
    have hgle := gFresh_le L0 g
    let g' : G := fun f v => if n0 ≤ v then (if (KOL.get objs f).isSome = true then g1 f v else none) else g f v
    have hold : ∀ f v L, g1 f v = some L → v < n0 → g f v = some L := fun f v L h1 h2 => hgle _ _ _ (hstep.old f v L h1 h2)
    have hgn : ∀ f v L, g f v = some L → v < n0 := by
      intro f v L h1
      rcases Nat.lt_or_ge v n0 with h2 | h2
      · exact h2
      · rw [hW.fresh f v (Nat.le_trans hnx h2)] at h1; cases h1
    have hgg' : ∀ f v, v < n0 → g' f v = g f v := fun f v h1 => if_neg (by omega)
    have hnew : ∀ f v L, g' f v = some L → n0 ≤ v → g1 f v = some L ∧ ∃ x, KOL.get objs f = some x := by
      intro f v L h1 h2
      have h1 : (if n0 ≤ v then (if (KOL.get objs f).isSome = true then g1 f v else none) else g f v) = some L := h1
      rw [if_pos h2] at h1
      split at h1
      · rename_i h3
        exact ⟨h1, Option.isSome_iff_exists.1 h3⟩
      · cases h1
    have hin : ∀ f v L, g1 f v = some L → inTree (KOL.put objs H4.empty) n0 f v = true → g' f v = some L := by
      intro f v L h1 h2
      rcases Nat.lt_or_ge v n0 with h3 | h3
      · rw [hgg' f v h3]; exact hold f v L h1 h3
      · show (if n0 ≤ v then (if (KOL.get objs f).isSome = true then g1 f v else none) else g f v) = some L
        rw [if_pos h3]
        rcases inTree_inv h2 with h4 | h4
        · omega
        · rw [if_pos h4]; exact h1
    have hle : G.le g g' := fun f v L h1 => by rw [hgg' f v (hgn f v L h1)]; exact h1
    have hblk : ∀ b, b < w.heap.size → w'.heap[b]? = w.heap[b]? := fun b hb => hstep.keep.blk b hb (.inl hb)
    have hn01 : n0 ≤ n1 := by rw [← hn1]; exact hstep.nx
    have hback : ∀ f v L, g1 f v = some L → L.blk < w.heap.size → ∃ f0 v0 L1, g f0 v0 = some L1 ∧ L1.blk = L.blk ∧ f = f0 ∧ L.sh = L1.sh ∧ L.csz = L1.csz := by
      intro f v L h1 h2
      obtain ⟨f0, v0, L1, h3, h4⟩ := hstep.ext.new f v L h1 h2
      exact ⟨f0, v0, L1, hgle _ _ _ h3, h4, hstep.wr.inj h1 (hstep.ext.le _ _ _ h3) h4.symm⟩
    have hobjEq : ∀ f x, KOL.get objs f = some x → H4.at f s1.h = x ∧ closedObj (KOL.put objs H4.empty) n0 x = true := by
      intro f x h1
      obtain ⟨h2, h3⟩ := band_iff.1 (KOL.all_get c4 h1)
      exact ⟨Obj.same_eq h2, h3⟩
    refine ⟨x, g', he, ⟨⟨hle, fun f v L h1 h2 => ?_⟩, ⟨hstep.keep.size, fun b hb _ => hblk b hb, hstep.keep.os, hstep.keep.output, hstep.keep.tape⟩,
      ⟨fun f v hv => ?_, fun {f v f' v' L L'} h1 h2 hb => ?_, fun {f v L} h1 => ?_, fun {f v L} h1 => ?_, Nat.le_trans hW.base hstep.keep.size, fun {f elem sz ro a b vs v n ch} h1 h2 => ?_, fun {k y} h1 => ?_⟩, Nat.le_trans hnx hn01, fun f v L h1 h2 => ?_⟩, hv.within hin c3⟩
    · rcases Nat.lt_or_ge v n0 with h3 | h3
      · rw [hgg' f v h3] at h1
        exact ⟨f, v, L, h1, rfl⟩
      · obtain ⟨h4, _⟩ := hnew f v L h1 h3
        obtain ⟨f0, v0, L1, h5, h6, _⟩ := hback f v L h4 h2
        exact ⟨f0, v0, L1, h5, h6⟩
    · have hv : n1 ≤ v := hv
      show (if n0 ≤ v then (if (KOL.get objs f).isSome = true then g1 f v else none) else g f v) = none
      rw [if_pos (by omega), hstep.wr.fresh f v (by rw [hn1]; exact hv)]
      split <;> rfl
    · rcases Nat.lt_or_ge v n0 with h3 | h3 <;> rcases Nat.lt_or_ge v' n0 with h4 | h4
      · rw [hgg' f v h3] at h1
        rw [hgg' f' v' h4] at h2
        exact hW.inj h1 h2 hb
      · rw [hgg' f v h3] at h1
        obtain ⟨h5, _⟩ := hnew f' v' L' h2 h4
        obtain ⟨f0, v0, L1, h6, h7, h8, h9, h10⟩ := hback f' v' L' h5 (hb ▸ hW.lt h1)
        obtain ⟨e1, e2, e3⟩ := hW.inj h1 h6 (hb.trans h7.symm)
        exact ⟨e1.trans h8.symm, e2.trans h9.symm, e3.trans h10.symm⟩
      · rw [hgg' f' v' h4] at h2
        obtain ⟨h5, _⟩ := hnew f v L h1 h3
        obtain ⟨f0, v0, L1, h6, h7, h8, h9, h10⟩ := hback f v L h5 (hb ▸ hW.lt h2)
        obtain ⟨e1, e2, e3⟩ := hW.inj h6 h2 (h7.trans hb)
        exact ⟨h8.trans e1, h9.trans e2, h10.trans e3⟩
      · exact hstep.wr.inj (hnew f v L h1 h3).1 (hnew f' v' L' h2 h4).1 hb
    · rcases Nat.lt_or_ge v n0 with h3 | h3
      · rw [hgg' f v h3] at h1
        exact Nat.lt_of_lt_of_le (hW.lt h1) hstep.keep.size
      · exact hstep.wr.lt (hnew f v L h1 h3).1
    · show ObjR g' ρ base v L w' (H4.at f (KOL.put objs s.h))
      rw [KOL.put_at]
      rcases Nat.lt_or_ge v n0 with h3 | h3
      · rw [hgg' f v h3] at h1
        have h5 := hW.obj h1
        cases hget : KOL.get objs f with
        | some y => rw [KOL.free_get hfree hget] at h5; exact h5.elim
        | none => exact ObjR.mono hle (hblk _ (hW.lt h1)) h5
      · obtain ⟨h4, y, hget⟩ := hnew f v L h1 h3
        rw [hget]
        have h5 := hstep.wr.obj h4
        obtain ⟨h6, h7⟩ := hobjEq f y hget
        have h5 : ObjR g1 ρ w.heap.size v L w' (H4.at f s1.h) := h5
        rw [h6] at h5
        show ObjR g' ρ base v L w' y
        cases y with
        | cells elem sz ro flo fhi vs =>
          obtain ⟨d1, d2, d3, c, fz, d4, d5, d6, d7⟩ := h5
          refine ⟨fun hr => Nat.le_trans hW.base (d1 hr), d2, d3, c, fz, d4, d5, d6, fun n ch hh => ⟨(d7 n ch hh).1, fun e he' hk => ?_⟩⟩
          obtain ⟨k1, xs', k2, k3⟩ := (d7 n ch hh).2 e he' hk
          exact ⟨k1, xs', k2.within hin (closedV_elem (closedVer_has (vs := vs) h7 hh) e), k3⟩
        | _ => cases h7
    · have h1 : H4.at f (KOL.put objs s.h) = .cells elem sz ro a b vs := h1
      rw [KOL.put_at] at h1
      cases hget : KOL.get objs f with
      | some y =>
        rw [hget] at h1
        have h1 : y = .cells elem sz ro a b vs := h1
        obtain ⟨h6, _⟩ := hobjEq f y hget
        have := hstep.wr.ids (h6.trans h1) h2
        rw [hn1] at this
        exact this
      | none =>
        rw [hget] at h1
        exact Nat.lt_of_lt_of_le (hW.ids h1 h2) (Nat.le_trans hnx hn01)
    · obtain ⟨h2, elem, sz, a, b, vs, h3⟩ := hW.ro h1
      refine ⟨?_, elem, sz, a, b, vs, h3⟩
      show H4.at k (KOL.put objs s.h) = y
      rw [KOL.put_at]
      cases hget : KOL.get objs k with
      | some z => rw [KOL.free_get hfree hget, h3] at h2; cases h2
      | none => exact h2
    · have h2 : v < s.nx := h2
      rw [hgg' f v (by omega)] at h1
      exact h1
end
end Go.Ev
