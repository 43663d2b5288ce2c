/- A reckoner for the model's code, proved sound: what it reckons true is returned, on every schedule, and nothing that was there turns: part D. Conditions: none. -/
import Derived.Test.YtcfocdmjikbbgaaGreatDoorEwC
import Derived.Below
import GoSem.ClaimJoined
namespace Go.Ev
set_option linter.unusedVariables false

def NC : RO → Prop
  | .call _ _ _ => False
  | _ => True

theorem KP.nc {s : St} {r : RO} (h : KP s r) : NC r := by cases r <;> first | trivial | exact h
theorem FP.nc {k : K} {s : St} {r : RO} (h : FP k s r) : NC r := by cases r <;> first | trivial | exact h
theorem NC.bool {b : Bool} {x y : RO} (hx : NC x) (hy : NC y) : NC (Bool.rec (motive := fun _ => RO) x y b) := by cases b <;> assumption
theorem NC.alloc {elem sz n : Nat} {ch : V} {s : St} {k : K → Nat → St → RO} (h : ∀ a b c, NC (k a b c)) : NC (alloc elem sz n ch s k) := by
  unfold Ev.alloc
  cases s.nx with
  | zero => trivial
  | succ m => exact NC.bool trivial (h _ _ _)
theorem NC.row {f : K} {v : Nat} {s : St} {c : Nat → Nat → V → RO} (h : ∀ a b d, NC (c a b d)) : NC (row f v s c) := by
  unfold Ev.row
  cases Obj.cells? (H4.at f s.h) with
  | no => trivial
  | yes e sz ro a b vs =>
    show NC (OW.rec (motive := fun _ => RO) (.bad 23) (fun n ch => c sz n ch) (Ver.find v vs))
    cases Ver.find v vs; trivial; exact h _ _ _
theorem NC.getElems {es n : Nat} {f : K} {v o : Nat} {s : St} {k : V → RO} (h : ∀ l, NC (k l)) : NC (getElems es n f v o s k) := by
  unfold Ev.getElems
  cases n with
  | zero => exact h _
  | succ n => exact NC.row fun _ _ _ => NC.bool trivial (NC.bool trivial (h _))
theorem NC.write {f : K} {v o size : Nat} {s : St} {upd : Nat → V → V} {k : St → RO} (h : ∀ s', NC (k s')) : NC (write f v o size s upd k) := by
  unfold Ev.write
  cases Obj.cells? (H4.at f s.h) with
  | no => trivial
  | yes elem sz ro a b vs =>
    refine NC.bool (NC.bool trivial ?_) trivial
    cases Ver.from v vs with
    | none => trivial
    | more id n ch rest => exact NC.bool trivial (h _)
theorem NC.str {k : Nat → Nat → RO} {v : V} (h : ∀ a b, NC (k a b)) : NC (withStr v k) := by unfold withStr; cases V.str? v; trivial; exact h _ _

theorem NC.nat {k : Nat → RO} {v : V} (h : ∀ a, NC (k a)) : NC (withNat v k) := by
  unfold withNat
  cases V.int? v with
  | no => trivial
  | yes kd a => cases a with
    | ofNat m => exact h _
    | negSucc m => trivial
theorem NC.i64 {k : Nat → RO} {v : V} (h : ∀ a, NC (k a)) : NC (withI64 v k) := by
  unfold withI64 withInt
  cases V.int? v with
  | no => trivial
  | yes kd a =>
    refine NC.bool trivial ?_
    cases a with
    | ofNat m => exact h _
    | negSucc m => trivial

theorem NC.source {es : Nat} {x : V} {s : St} {k : Nat → (Nat → (V → RO) → RO) → RO} (h : ∀ n more, (∀ m kk, (∀ l, NC (kk l)) → NC (more m kk)) → NC (k n more)) : NC (source es x s k) := by
  unfold Ev.source
  cases V.sl? x with
  | no => exact NC.str fun _ _ => NC.bool trivial (h _ _ fun m kk hk => hk _)
  | nils => exact h _ _ fun m kk hk => hk _
  | yes f v o len cap ex es' => exact NC.bool trivial (h _ _ fun m kk hk => NC.getElems hk)

theorem NC.app {elem es : Nat} {x y : V} {s : St} : NC (evApp elem es x y s) := by
  unfold evApp
  refine NC.source fun n more hm => ?_
  have hnew : ∀ n l, NC (appNew elem es n l s) := fun n l => NC.alloc fun _ _ _ => trivial
  cases V.sl? x with
  | no => trivial
  | nils => exact NC.bool (NC.bool trivial (hm _ _ fun l => hnew _ _)) trivial
  | yes f v o len cap ex es' =>
    refine NC.bool trivial (NC.bool ?_ ?_)
    all_goals first
      | exact NC.bool (NC.bool trivial (hm _ _ fun l => NC.bool (by
          unfold appOpen
          cases Obj.cells? (H4.at f s.h) with
          | no => trivial
          | yes elem' sz ro a b vs =>
            show NC (Ver.rec (motive := fun _ => RO) _ _ (Ver.from v vs))
            cases Ver.from v vs with
            | none => trivial
            | more id nv ch rest =>
              refine NC.bool trivial ?_
              cases s.nx <;> trivial) (NC.getElems fun old => hnew _ _))) (NC.bool (hm _ _ fun l => NC.bool trivial (NC.write fun s' => trivial)) trivial)
      | exact NC.bool (hm _ _ fun l => NC.bool trivial (NC.write fun s' => trivial)) trivial
      | exact NC.bool trivial (hm _ _ fun l => NC.bool (by
          unfold appOpen
          cases Obj.cells? (H4.at f s.h) with
          | no => trivial
          | yes elem' sz ro a b vs =>
            show NC (Ver.rec (motive := fun _ => RO) _ _ (Ver.from v vs))
            cases Ver.from v vs with
            | none => trivial
            | more id nv ch rest =>
              refine NC.bool trivial ?_
              cases s.nx <;> trivial) (NC.getElems fun old => hnew _ _))

theorem NC.fillElems {es len : Nat} {e : E2} {k : V → RO} (h : ∀ c, NC (k c)) : ∀ {ps : PartL} {z : V}, NC (fillElems ps es len e z k) := by
  intro ps
  induction ps with
  | nil => intro z; exact h _
  | cons off size x rest ih =>
    intro z
    refine NC.bool ?_ (NC.bool trivial ih)
    cases V.agg? (x.val e) with
    | no => trivial
    | yes cs => exact NC.bool trivial ih

section
variable {P : Program} {gs : Nat → Bool} {g : G} {ρ : Rho} {base nt : Nat} {e : E2} {s : St} {a : Act} {w : World} {o : Oper} {iop : IOp}

def Ans (P : Program) (g : G) (ρ : Rho) (base : Nat) (s : St) (w : World) (a : Act) (o : Oper) (iop : IOp) (e : E2) : Prop :=
  (∀ v s', evOp iop e s = .ok v s' → OpOK P g ρ base s w a o v s') ∧
    (∀ f args s', evOp iop e s = .call f args s' → s' = s ∧ ∃ xs : List Value, VL g ρ args xs ∧ (GoodFn P f → (execOp a.eval o).run P w = .ok (.enter f xs.toArray) w))

theorem Ans.of (hn : NC (evOp iop e s)) (h : ∀ v s', evOp iop e s = .ok v s' → OpOK P g ρ base s w a o v s') : Ans P g ρ base s w a o iop e :=
  ⟨h, fun f args s' hc => by rw [hc] at hn; exact hn.elim⟩
theorem Ans.float (hf : isFloat iop = true) (h : ∀ v s', evOp iop e s = .ok v s' → OpOK P g ρ base s w a o v s') : Ans P g ρ base s w a o iop e := Ans.of (evOp_KP hf e s).nc h

theorem zeroCells_spec {t : TypeId} {z : V} (h : zeroCellsT P t = some z) : ∃ zv, (P.info? t).bind (·.zero) = some zv ∧ ofCells zv.cells.toList = some z := by
  unfold zeroCellsT at h
  cases hz : (P.info? t).bind (·.zero) with
  | none => rw [hz] at h; cases h
  | some zv => rw [hz] at h; exact ⟨zv, rfl, h⟩

theorem size_pos {t : TypeId} (h : (sizeT P t).any (0 < ·) = true) : ∃ n, sizeT P t = some (n + 1) := by
  cases hs : sizeT P t with
  | none => rw [hs] at h; cases h
  | some m =>
    cases m with
    | zero => rw [hs] at h; cases h
    | succ n => exact ⟨n, rfl⟩

variable (hG : GlobR gs g) (hE : ER g ρ nt e a) (hW : WR g ρ base s w)
include hG hE hW

theorem snd_alloc {t : TypeId} (ho : o.op = .alloc t) (h : compOp0 P gs nt (.alloc t) = some iop) : Ans P g ρ base s w a o iop e := by
  simp only [compOp0] at h
  split at h
  · rename_i n z hn hz
    split at h
    · rename_i hl
      injection h with h
      subst h
      obtain ⟨zv, h1, h2⟩ := zeroCells_spec hz
      exact Ans.of (NC.alloc (k := fun f v s' => .ok (.ptr f v 0) s') fun _ _ _ => trivial) fun v s' => op_new hG hE hW ho hn h1 h2 hl
    · cases h
  · cases h

theorem snd_box {t : TypeId} {x : Operand} (ho : o.op = .box t x) (h : compOp0 P gs nt (.box t x) = some iop) : Ans P g ρ base s w a o iop e := by
  simp only [compOp0] at h
  split at h
  · rename_i n p h1 h2 h3
    injection h with h
    subst h
    refine Ans.of ?_ fun v s' => op_boxN hG hE hW ho h3
    show NC (OV.rec (motive := fun _ => RO) _ _ (V.agg? (p.val e)))
    cases V.agg? (p.val e) with
    | no => trivial
    | yes cs => exact NC.bool trivial (NC.alloc fun _ _ _ => trivial)
  · rename_i p h1 h2 h3
    injection h with h
    subst h
    exact Ans.of (NC.bool trivial (NC.alloc fun _ _ _ => trivial)) fun v s' => op_box1 hG hE hW ho h3
  · cases h

theorem snd_build {t : TypeId} {ps : Array (Nat × Operand)} (ho : o.op = .build t ps) (h : compOp0 P gs nt (.build t ps) = some iop) : Ans P g ρ base s w a o iop e := by
  simp only [compOp0] at h
  split at h
  · rename_i fs z ht hz
    split at h
    · rename_i hall
      cases hps : compParts P gs nt (placeS P fs) ps.toList with
      | none => rw [hps] at h; cases h
      | some l =>
        rw [hps] at h
        injection h with h
        subst h
        obtain ⟨zv, h1, h2⟩ := zeroCells_spec hz
        refine Ans.float rfl fun v s' => op_buildS hG hE hW ho ht h1 h2 (fun f hf => ?_) hps
        have := List.all_eq_true.1 hall f hf
        exact Option.isSome_iff_exists.1 this
    · cases h
  · rename_i m el z ht hz
    split at h
    · rename_i n hn
      cases hps : compParts P gs nt (fun i => some (i * n, n)) ps.toList with
      | none => rw [hps] at h; cases h
      | some l =>
        rw [hps] at h
        injection h with h
        subst h
        obtain ⟨zv, h1, h2⟩ := zeroCells_spec hz
        exact Ans.float rfl fun v s' => op_buildA hG hE hW ho ht hn h1 h2 hps
    · cases h
  · cases h

theorem snd_buildSlice {t : TypeId} {len : Nat} {ps : Array (Nat × Operand)} (ho : o.op = .buildSlice t len ps) (h : compOp0 P gs nt (.buildSlice t len ps) = some iop) : Ans P g ρ base s w a o iop e := by
  simp only [compOp0] at h
  split at h
  · rename_i el ht
    split at h
    · rename_i n z hn hz
      split at h
      · cases h
      · rename_i hc
        simp only [Bool.or_eq_true, decide_eq_true_eq, Bool.not_eq_true', not_or, Bool.not_eq_false] at hc
        cases hps : compParts P gs nt (fun i => some (i, n + 1)) ps.toList with
        | none => rw [hps] at h; cases h
        | some l =>
          rw [hps] at h
          injection h with h
          subst h
          obtain ⟨zv, h1, h2⟩ := zeroCells_spec hz
          exact Ans.of (NC.fillElems fun _ => NC.alloc (k := fun f v s' => .ok (.sl f v 0 len len true (n + 1)) s') fun _ _ _ => trivial) fun v s' => op_mkSl hG hE hW ho ht hn h1 h2 hc.2 hc.1 hps
    · cases h
  · cases h

theorem snd_load {t : TypeId} {x : Operand} (ho : o.op = .load t x) (h : compOp0 P gs nt (.load t x) = some iop) : Ans P g ρ base s w a o iop e := by
  simp only [compOp0] at h
  split at h
  · rename_i n p h1 h2 h3
    injection h with h
    subst h
    exact Ans.float rfl fun v s' => op_ldN hG hE hW ho h1 h2 h3
  · rename_i n p h1 h2 h3
    injection h with h
    subst h
    exact Ans.float rfl fun v s' => op_ld1 hG hE hW ho h1 h3
  · cases h

theorem snd_store {t : TypeId} {x y : Operand} (ho : o.op = .store t x y) (h : compOp0 P gs nt (.store t x y) = some iop) : Ans P g ρ base s w a o iop e := by
  simp only [compOp0] at h
  split at h
  · rename_i n p q h1 h2 h3 h4
    injection h with h
    subst h
    refine Ans.of ?_ fun v s' => op_stN hG hE hW ho h2 h3 h4
    cases hh : evOp (.stN (n + 1) p q) e s with
    | call f as s1 => exact store_noCall rfl hh
    | _ => trivial
  · rename_i p q h1 h2 h3 h4
    injection h with h
    subst h
    refine Ans.of ?_ fun v s' => op_st1 hG hE hW ho h2 h3 h4
    cases hh : evOp (.st1 p q) e s with
    | call f as s1 => exact store_noCall rfl hh
    | _ => trivial
  · cases h

theorem snd_bin {op : BinOp} {t u : TypeId} {x y : Operand} (ho : o.op = .binOp op t x y u) (h : compBin P gs nt op t x y = some iop) (hpr : proved iop = true) : Ans P g ρ base s w a o iop e := by
  unfold compBin at h
  cases hx : compOpd gs nt x with
  | none => rw [hx] at h; cases h
  | some p =>
    cases hy : compOpd gs nt y with
    | none => rw [hx, hy] at h; cases h
    | some q =>
      rw [hx, hy] at h
      have bin : some (IOp.bin op p q) = some iop → Ans P g ρ base s w a o iop e := by
        intro h
        injection h with h
        subst h
        exact Ans.float rfl fun v s' => op_bin hG hE hW ho hx hy
      have eqs : (op = .eql ∨ op = .neq) → (match nilKind x, nilKind y with
          | _, some k => if typeKind P t == some k then some (IOp.eqNil (negOf op) k p) else none
          | some k, none => if typeKind P t == some k then some (.eqNil (negOf op) k q) else none
          | none, none => match P.underlying t with
          | some (.int _) | some .string => some (.bin op p q)
          | some .bool => some (.eqB (negOf op) p q)
          | some (.pointer e) => if (sizeT P e).any (0 < ·) then some (.eq (negOf op) p q) else none
          | some (.interface _) => some (.eqI (negOf op) (ifaceTab P (List.range P.types.size)) p q)
          | some (.struct _) => (flatT P t).map fun n => .eqFlat (negOf op) n p q
          | _ => none) = some iop → Ans P g ρ base s w a o iop e := by
        intro hop h
        split at h
        · rename_i k hk
          split at h
          · rename_i hk2
            injection h with h
            subst h
            exact Ans.float rfl fun v s' => op_eqNil hG hE hW hop (by simpa using hk2) (.inl ⟨ho, hk⟩) hx
          · cases h
        · rename_i k hk _
          split at h
          · rename_i hk2
            injection h with h
            subst h
            exact Ans.float rfl fun v s' => op_eqNil hG hE hW hop (by simpa using hk2) (.inr ⟨ho, hk⟩) hy
          · cases h
        · split at h
          · exact bin h
          · exact bin h
          · rename_i ht
            injection h with h
            subst h
            exact Ans.float rfl fun v s' => op_eqB hG hE hW hop ht ho hx hy
          · rename_i el ht
            split at h
            · rename_i hpos
              injection h with h
              subst h
              obtain ⟨n, hn⟩ := size_pos hpos
              exact Ans.float rfl fun v s' => op_eqPtr hG hE hW hop ht hn ho hx hy
            · cases h
          · rename_i ht
            injection h with h
            subst h
            exact Ans.float rfl fun v s' => op_eqI hG hE hW hop ht ho hx hy
          · cases hf : flatT P t with
            | none => rw [hf] at h; cases h
            | some n =>
              rw [hf] at h
              injection h with h
              subst h
              exact Ans.float rfl fun v s' => op_eqFlat hG hE hW hop hf ho hx hy
          · cases h
      have other : (match P.underlying t with
          | some (.int _) | some .string => some (IOp.bin op p q)
          | _ => none) = some iop → Ans P g ρ base s w a o iop e := by
        intro h
        split at h
        · exact bin h
        · exact bin h
        · cases h
      cases op <;> first
        | exact other h
        | exact eqs (.inl rfl) h
        | exact eqs (.inr rfl) h
        | (dsimp only at h
           split at h
           · injection h with h
             subst h
             first
               | exact Ans.float rfl fun v s' => op_shift (left := true) hG hE hW rfl ho hx hy
               | exact Ans.float rfl fun v s' => op_shift (left := false) hG hE hW rfl ho hx hy
           · cases h)

theorem snd_slice {t : TypeId} {x : Operand} {lo hi mx : Option Operand} (ho : o.op = .slice t x lo hi mx) (h : compOp0 P gs nt (.slice t x lo hi mx) = some iop) (hpr : proved iop = true) : Ans P g ρ base s w a o iop e := by
  simp only [compOp0] at h
  split at h
  · rename_i p pl ph ht hp hl hh hm
    injection h with h
    subst h
    cases mx with
    | none => exact Ans.float rfl fun v s' => op_cut hG hE hW ho ht hp hl hh
    | some y =>
      simp only [compOpt] at hm
      cases hy : compOpd gs nt y with
      | none => rw [hy] at hm; cases hm
      | some q => rw [hy] at hm; cases hm
  · rename_i el p pl ph pm ht hp hl hh hm
    cases hc : mx.isSome && hi.isNone with
    | true => rw [hc] at h; cases h
    | false =>
      rw [hc] at h
      have h : (sizeT P el).map (fun es => IOp.slice es p pl ph pm) = some iop := h
      cases hn : sizeT P el with
      | none => rw [hn] at h; cases h
      | some es =>
        rw [hn] at h
        injection h with h
        subst h
        refine Ans.float rfl fun v s' => op_slice hG hE hW ho ht hn (fun hmx => ?_) hp hl hh hm
        rw [hmx, Bool.true_and] at hc
        cases hi with
        | none => cases hc
        | some _ => rfl
  · rename_i n el p pl ph pm ht hp hl hh hm
    cases hn : sizeT P el with
    | none => rw [hn] at h; cases h
    | some es =>
      rw [hn] at h
      injection h with h
      subst h
      exact absurd hpr (by simp [proved])
  · cases h

theorem snd_fieldAddr {t : TypeId} {x : Operand} {i : Nat} (ho : o.op = .fieldAddr t x i) (h : compOp0 P gs nt (.fieldAddr t x i) = some iop) : Ans P g ρ base s w a o iop e := by
  simp only [compOp0] at h
  split at h
  · rename_i fs p ht hp
    split at h
    · rename_i fd hf
      split at h
      · rename_i hn
        injection h with h
        subst h
        cases hs : sizeT P fd.type with
        | none => rw [hs] at hn; cases hn
        | some n =>
          rw [hs] at hn
          exact Ans.float rfl fun v s' => op_fld hG hE hW ho ht hf hs (by simpa using hn) hp
      · cases h
    · cases h
  · cases h

theorem snd_field {t : TypeId} {x : Operand} {i : Nat} (ho : o.op = .field t x i) (h : compOp0 P gs nt (.field t x i) = some iop) : Ans P g ρ base s w a o iop e := by
  simp only [compOp0] at h
  split at h
  · rename_i fs p ht hp
    split at h
    · rename_i fd hf
      split at h
      · rename_i n h1 h2
        injection h with h
        subst h
        exact Ans.float rfl fun v s' => op_partN hG hE hW ho ht hf h1 h2 hp
      · rename_i n h1 h2
        injection h with h
        subst h
        exact Ans.float rfl fun v s' => op_part1 hG hE hW ho ht hf h1 hp
      · cases h
    · cases h
  · cases h

theorem snd_indexAddr {t : TypeId} {x y : Operand} (ho : o.op = .indexAddr t x y) (h : compOp0 P gs nt (.indexAddr t x y) = some iop) : Ans P g ρ base s w a o iop e := by
  simp only [compOp0] at h
  split at h
  · rename_i el p q ht hp hq
    cases hn : sizeT P el with
    | none => rw [hn] at h; cases h
    | some es =>
      rw [hn] at h
      injection h with h
      subst h
      exact Ans.float rfl fun v s' => op_ixA hG hE hW ho ht hn hp hq
  · rename_i n el p q ht hp hq
    cases hn : sizeT P el with
    | none => rw [hn] at h; cases h
    | some es =>
      rw [hn] at h
      injection h with h
      subst h
      exact Ans.float rfl fun v s' => op_ixArr hG hE hW ho ht hn hp hq
  · cases h

theorem snd_index {t : TypeId} {x y : Operand} (ho : o.op = .index t x y) (h : compOp0 P gs nt (.index t x y) = some iop) : Ans P g ρ base s w a o iop e := by
  simp only [compOp0] at h
  split at h
  · rename_i p q ht hp hq
    injection h with h
    subst h
    exact Ans.float rfl fun v s' => op_ixS hG hE hW ho ht hp hq
  · rename_i n el p q ht hp hq
    split at h
    · rename_i es h1 h2
      injection h with h
      subst h
      exact Ans.float rfl fun v s' => op_ixVN hG hE hW ho ht h1 h2 hp hq
    · rename_i h1 h2
      injection h with h
      subst h
      exact Ans.float rfl fun v s' => op_ixV1 hG hE hW ho ht h1 h2 hp hq
    · cases h
  · cases h

theorem snd_convert {t u : TypeId} {x : Operand} (ho : o.op = .convert t u x) (h : compConvert P gs nt t u x = some iop) (hpr : proved iop = true) : Ans P g ρ base s w a o iop e := by
  unfold compConvert at h
  split at h
  · rename_i k' k p hs hd hp
    injection h with h
    subst h
    exact Ans.float rfl fun v s' => op_cvI hG hE hW ho hs hd hp
  · rename_i p hs hd hp
    injection h with h
    subst h
    exact Ans.float rfl fun v s' => op_cvSame hG hE hW ho hs hd hp
  · injection h with h
    subst h
    exact absurd hpr (by simp [proved])
  · rename_i t' p hs hd hp
    split at h
    · rename_i hpos
      injection h with h
      subst h
      obtain ⟨n, hn⟩ := size_pos hpos
      exact Ans.float rfl fun v s' => op_toUns hG hE hW ho hs hd hn (Nat.succ_pos n) hp
    · cases h
  · rename_i t' p hs hd hp
    split at h
    · rename_i es hn
      injection h with h
      subst h
      exact Ans.float rfl fun v s' => op_fromUns hG hE hW ho hs hd hn hp
    · cases h
  · rename_i el p hs hd hp
    split at h
    · rename_i hel
      injection h with h
      subst h
      refine Ans.of ?_ fun v s' => op_s2b hG hE hW ho hs hd hel hp
      exact NC.str fun _ _ => NC.bool trivial (NC.alloc fun _ _ _ => trivial)
    · cases h
  · rename_i el p hs hd hp
    split at h
    · rename_i hel
      injection h with h
      subst h
      refine Ans.of ?_ fun v s' => op_b2s hG hE hW ho hs hd hel hp
      show NC (evB2S (p.val e) s)
      unfold evB2S
      cases V.sl? (p.val e) with
      | no => trivial
      | nils => trivial
      | yes f v o len cap ex es => exact NC.bool trivial (NC.getElems fun _ => NC.bool trivial (KP.okStr (s := s) _ _).nc)
    · cases h
  · cases h

theorem snd_makeInterface {t : TypeId} {x : Operand} (ho : o.op = .makeInterface t x) (h : compOp0 P gs nt (.makeInterface t x) = some iop) : Ans P g ρ base s w a o iop e := by
  simp only [compOp0] at h
  split at h
  · cases h
  · rename_i d p hd ht hp
    injection h with h
    subst h
    exact Ans.float rfl fun v s' => op_mkIf hG hE hW ho ht (fun ms hh => hd ms hh) hp
  · cases h

omit hG hE hW in
theorem opds_one {xs : List Operand} {as : OpdL} {p : Opd} (h : compOpds gs nt xs = some as) (he : opdList as = [p]) : ∃ x, xs = [x] ∧ compOpd gs nt x = some p := by
  cases xs with
  | nil => simp [compOpds] at h; subst h; simp [opdList] at he
  | cons x xs =>
    simp only [compOpds] at h
    cases hx : compOpd gs nt x with
    | none => simp [hx] at h
    | some q =>
      cases hl : compOpds gs nt xs with
      | none => simp [hx, hl] at h
      | some l =>
        simp only [hx, hl, Option.some.injEq] at h
        subst h
        simp only [opdList, List.cons.injEq] at he
        obtain ⟨rfl, he⟩ := he
        cases xs with
        | nil => exact ⟨x, rfl, hx⟩
        | cons y ys =>
          simp only [compOpds] at hl
          cases hy : compOpd gs nt y with
          | none => simp [hy] at hl
          | some r =>
            cases hm : compOpds gs nt ys with
            | none => simp [hy, hm] at hl
            | some m => simp only [hy, hm, Option.some.injEq] at hl; subst hl; simp [opdList] at he

omit hG hE hW in
theorem opds_two {xs : List Operand} {as : OpdL} {p q : Opd} (h : compOpds gs nt xs = some as) (he : opdList as = [p, q]) : ∃ x y, xs = [x, y] ∧ compOpd gs nt x = some p ∧ compOpd gs nt y = some q := by
  cases xs with
  | nil => simp [compOpds] at h; subst h; simp [opdList] at he
  | cons x xs =>
    simp only [compOpds] at h
    cases hx : compOpd gs nt x with
    | none => simp [hx] at h
    | some r =>
      cases hl : compOpds gs nt xs with
      | none => simp [hx, hl] at h
      | some l =>
        simp only [hx, hl, Option.some.injEq] at h
        subst h
        simp only [opdList, List.cons.injEq] at he
        obtain ⟨rfl, he⟩ := he
        obtain ⟨y, hy1, hy2⟩ := opds_one hl he
        subst hy1
        exact ⟨x, y, rfl, hx, hy2⟩

omit hG hE hW in
theorem opds_three {xs : List Operand} {as : OpdL} {p q r : Opd} (h : compOpds gs nt xs = some as) (he : opdList as = [p, q, r]) : ∃ x y z, xs = [x, y, z] ∧ compOpd gs nt x = some p ∧ compOpd gs nt y = some q ∧ compOpd gs nt z = some r := by
  cases xs with
  | nil => simp [compOpds] at h; subst h; simp [opdList] at he
  | cons x xs =>
    simp only [compOpds] at h
    cases hx : compOpd gs nt x with
    | none => simp [hx] at h
    | some r =>
      cases hl : compOpds gs nt xs with
      | none => simp [hx, hl] at h
      | some l =>
        simp only [hx, hl, Option.some.injEq] at h
        subst h
        simp only [opdList, List.cons.injEq] at he
        obtain ⟨rfl, he⟩ := he
        obtain ⟨y, z, hy1, hy2, hy3⟩ := opds_two hl he
        subst hy1
        exact ⟨x, y, z, rfl, hx, hy2, hy3⟩

omit hG hE hW in
theorem methodTab_find {name : String} {t f : Nat} {k : Nat → RO} {as : V} {s' : St} : ∀ {l : List Nat}, MTab.find t (methodTab P name l) k = .call f as s' →
    ∃ f' b i m u, P.info? t = some i ∧ i.methods.find? (·.name == name) = some m ∧ m.path.toList = [] ∧ m.func = some (f', b) ∧ P.underlying t = some u ∧
      (b = true → ∃ e, u = .pointer e) ∧ (b = false → ∀ e, u ≠ .pointer e) ∧ k f' = .call f as s' := by
  intro l
  induction l with
  | nil => intro h; cases h
  | cons t' l ih =>
    intro h
    unfold methodTab at h
    split at h
    · rename_i i hi
      split at h
      · rename_i m hm
        split at h
        · rename_i hp hf hu
          have h2 : Bool.rec (motive := fun _ => RO) (MTab.find t (methodTab P name l) k) (k _) (Nat.beq t t') = .call f as s' := h
          cases hb : Nat.beq t t' with
          | false => rw [hb] at h2; exact ih h2
          | true =>
            rw [hb] at h2
            have ht := Nat.eq_of_beq_eq_true hb
            subst ht
            exact ⟨_, _, i, m, _, hi, hm, hp, hf, hu, fun _ => ⟨_, rfl⟩, fun hh => (Bool.noConfusion hh), h2⟩
        · exact ih h
        · rename_i hno hp hf hu
          have h2 : Bool.rec (motive := fun _ => RO) (MTab.find t (methodTab P name l) k) (k _) (Nat.beq t t') = .call f as s' := h
          cases hb : Nat.beq t t' with
          | false => rw [hb] at h2; exact ih h2
          | true =>
            rw [hb] at h2
            have ht := Nat.eq_of_beq_eq_true hb
            subst ht
            exact ⟨_, _, i, m, _, hi, hm, hp, hf, hu, fun hh => (Bool.noConfusion hh), fun _ e he => by subst he; exact hno _ rfl, h2⟩
        · exact ih h
      · exact ih h
    · exact ih h

omit hG hE hW in
theorem mtab_nok {t : Nat} {k : Nat → RO} {v : V} {s' : St} (hk : ∀ n, k n ≠ .ok v s') : ∀ m : MTab, MTab.find t m k ≠ .ok v s' := by
  intro m
  induction m with
  | nil => exact fun h => by cases h
  | cons t' f rest ih =>
    show Bool.rec (motive := fun _ => RO) (MTab.find t rest k) (k f) (Nat.beq t t') ≠ _
    cases Nat.beq t t' with
    | false => exact ih
    | true => exact hk f

omit hG hE hW in
theorem run_method {name : String} {t : TypeId} {f : FuncId} {b : Bool} {i : TypeInfo} {m : Method} {u : TypeDesc} {v : Value} (hi : P.info? t = some i) (hm : i.methods.find? (·.name == name) = some m)
    (hp : m.path.toList = []) (hf : m.func = some (f, b)) (hu : P.underlying t = some u) (h1 : b = true → ∃ e, u = .pointer e) (h2 : b = false → ∀ e, u ≠ .pointer e) (n : Nat) :
    (method (n + 1) t v name).run P w = .ok (f, v) w := by
  unfold method
  simp only [Sem.run_bind, run_typeInfo hi, Result.andThen_ok, hm, hp, follow, Sem.run_pure, hf]
  unfold receiverAt
  cases b with
  | true =>
    obtain ⟨e, rfl⟩ := h1 rfl
    simp [run_und hu, Place.get]
  | false =>
    have h2 := h2 rfl
    simp only [Sem.run_bind, run_und hu, Result.andThen_ok]
    cases u <;> first
      | exact absurd rfl (h2 _)
      | simp [Place.get]

theorem snd_call {c : Call} (ho : o.op = .call c) (h : compCall P gs nt c = some iop) (hpr : proved iop = true) : Ans P g ρ base s w a o iop e := by
  unfold compCall at h
  split at h
  · rename_i f as hc has
    split at h
    · rename_i fn hfn
      split at h
      · rename_i hb
        split at h
        · cases h
        · rename_i hname
          injection h with h
          subst h
          refine ⟨fun v s' hh => ?_, fun f' args s' hh => ?_⟩
          · exact absurd (show RO.call f (as.vals e) s = .ok v s' from hh) (by simp)
          · have hh : RO.call f (as.vals e) s = .call f' args s' := hh
            injection hh with h1 h2 h3
            subst h1 h2 h3
            refine ⟨rfl, c.args.toList.map a.eval, opds_VL hG hE has, fun _ => ?_⟩
            have hne : fn.name ≠ "runtime.NumGoroutine" := by simpa using hname
            have hbn : fn.body ≠ none := fun hh => by rw [hh] at hb; cases hb
            have harr : (c.args.toList.map a.eval).toArray = c.args.map a.eval := by rw [← Array.toList_map]
            rw [harr]
            simp [execOp, ho, resolve, hc, Act.eval, Deferred.ofValue, invoke, callFunc, hfn, hne, hbn]
      · rename_i hb
        have hb : fn.body.isSome = false := by simpa using hb
        unfold externOp at h
        split at h
        · rename_i hor
          have hor : fn.origin = "" := by simpa using hor
          split at h
          · rename_i x hn hl
            obtain ⟨y, hy1, hy2⟩ := opds_one has hl
            have hargs : c.args = #[y] := by rw [← hy1]
            split at h
            · rename_i t ht
              split at h
              · rename_i el hu
                split at h
                · rename_i hel
                  injection h with h; subst h
                  refine Ans.of ?_ fun v s' => op_xNoZero hG hE hW ho hc hfn hb hn hor hargs hy2 ht hu (by simpa using hel)
                  exact NC.i64 fun n => NC.bool trivial (NC.alloc fun _ _ _ => trivial)
                · cases h
              · cases h
            · cases h
          · rename_i x y hn hl
            obtain ⟨x', y', hxy, hx, hy⟩ := opds_two has hl
            have hargs : c.args = #[x', y'] := by rw [← hxy]
            split at h
            · rename_i gi hgi
              split at h
              · rename_i hgs
                injection h with h; subst h
                refine Ans.of ?_ fun v s' => op_xIndex hG hE hW ho hc hfn hb hn hor hargs hx hy hgi hgs
                exact (KP.str (s := s) fun _ _ => KP.str fun _ _ => KP.load1 fun _ => KP.i64 fun _ => KP.ite (KP.okInt _ _) (KP.bad _)).nc
              · cases h
            · cases h
          · rename_i x y hn hl
            obtain ⟨x', y', hxy, hx, hy⟩ := opds_two has hl
            have hargs : c.args = #[x', y'] := by rw [← hxy]
            injection h with h; subst h
            exact Ans.float rfl fun v s' => op_xCount hG hE hW ho hc hfn hb hn hor hargs hx hy
          · rename_i x y hn hl
            obtain ⟨x', y', hxy, hx, hy⟩ := opds_two has hl
            have hargs : c.args = #[x', y'] := by rw [← hxy]
            injection h with h; subst h
            exact Ans.float rfl fun v s' => op_xIndexByte hG hE hW ho hc hfn hb hn hor hargs hx hy
          · rename_i x hn hl
            obtain ⟨y, hy1, hy2⟩ := opds_one has hl
            have hargs : c.args = #[y] := by rw [← hy1]
            injection h with h; subst h
            exact Ans.float rfl fun v s' => op_same hG hE hW ho hc hfn hb hn hor hargs hy2
          · cases h
        · cases h
    · cases h
  · rename_i x as _ hc has
    cases hx : compOpd gs nt x with
    | none => rw [hx] at h; cases h
    | some p =>
      rw [hx] at h; injection h with h; subst h
      have hv := opd_VR hG hE hx
      refine ⟨fun v s' hh => ?_, fun f args s' hh => ?_⟩
      · exfalso
        have hh : evCallV (p.val e) as e s = .ok v s' := hh
        unfold evCallV at hh
        split at hh <;> cases hh
      · have hh : evCallV (p.val e) as e s = .call f args s' := hh
        generalize hpv : p.val e = pv at hh hv
        generalize hax : a.eval x = xv at hv
        unfold evCallV at hh
        split at hh
        · rename_i f' first cap
          injection hh with h1 h2 h3
          subst h1 h2 h3
          cases hv with | fn hfirst hcap =>
          rename_i xs ys
          refine ⟨rfl, xs ++ (c.args.toList.map a.eval ++ ys), VL.app hfirst (opds_VLOn hG hE has hcap), fun hgood => ?_⟩
          obtain ⟨fn, hfn, hbn, hne⟩ := hgood
          have harr : (c.args.toList.map a.eval).toArray = c.args.map a.eval := by rw [← Array.toList_map]
          have hall : (xs ++ (c.args.toList.map a.eval ++ ys)).toArray = xs.toArray ++ c.args.map a.eval ++ ys.toArray := by rw [← harr]; simp
          rw [hall]
          simp [execOp, ho, resolve, hc, hax, Deferred.ofValue, invoke, callFunc, hfn, hne, hbn]
        · cases hh
  · rename_i x name as hc has
    cases hx : compOpd gs nt x with
    | none => rw [hx] at h; cases h
    | some p =>
      rw [hx] at h; injection h with h; subst h
      have hv := opd_VR hG hE hx
      refine ⟨fun v s' hh => ?_, fun f args s' hh => ?_⟩
      · exfalso
        have hh : evCallI (methodTab P name (List.range P.types.size)) (p.val e) as e s = .ok v s' := hh
        unfold evCallI at hh
        split at hh
        · exact mtab_nok (fun n => by simp) _ hh
        · cases hh
      · have hh : evCallI (methodTab P name (List.range P.types.size)) (p.val e) as e s = .call f args s' := hh
        generalize hpv : p.val e = pv at hh hv
        generalize hax : a.eval x = xv at hv
        unfold evCallI at hh
        split at hh
        · rename_i t y
          obtain ⟨f', b, i, m, u, hi, hm, hp, hf, hu, h1, h2, h3⟩ := methodTab_find hh
          injection h3 with h4 h5 h6
          subst h4 h5 h6
          cases hv with | iface hy =>
          rename_i yv
          refine ⟨rfl, yv :: c.args.toList.map a.eval, .cons hy (opds_VL hG hE has), fun hgood => ?_⟩
          obtain ⟨fn, hfn, hbn, hne⟩ := hgood
          have harr : (c.args.toList.map a.eval).toArray = c.args.map a.eval := by rw [← Array.toList_map]
          have hall : (yv :: c.args.toList.map a.eval).toArray = #[yv] ++ c.args.map a.eval := by rw [← harr]; simp
          have hmeth : (method (P.types.size + Made.depth) t yv name).run P w = .ok (f', yv) w := run_method hi hm hp hf hu h1 h2 (P.types.size + 99)
          rw [hall]
          have hex : (Array.map a.eval c.args).extract 0 c.args.size = Array.map a.eval c.args := by
            apply Array.ext'; simp [List.take_of_length_le]
          have h0 : (#[Value.iface t yv] ++ Array.map a.eval c.args)[0]? = some (.iface t yv) := by simp [Array.getElem?_append]
          simp [execOp, ho, resolve, hc, hax, invoke, callMethod, h0, hex, hmeth, callFunc, hfn, hne, hbn]
        · cases hh
  · rename_i b as hc has
    split at h
    · rename_i p t hl ht
      obtain ⟨x, hx1, hx2⟩ := opds_one has hl
      have hargs : c.args = #[x] := by rw [← hx1]
      have htys : c.argTypes = #[t] := by rw [← ht]
      split at h
      · rename_i hu
        injection h with h; subst h
        exact Ans.float rfl fun v s' => op_lenS hG hE hW ho hc hargs htys hu hx2
      · rename_i el hu
        injection h with h; subst h
        exact Ans.float rfl fun v s' => op_lenL hG hE hW ho hc hargs htys hu hx2
      · rename_i kt el hu
        injection h with h; subst h
        exact Ans.float rfl fun v s' => op_lenM hG hE hW ho hc hargs htys hu hx2
      · cases h
    · rename_i p t hl ht
      obtain ⟨x, hx1, hx2⟩ := opds_one has hl
      have hargs : c.args = #[x] := by rw [← hx1]
      have htys : c.argTypes = #[t] := by rw [← ht]
      split at h
      · rename_i el hu
        injection h with h; subst h
        refine Ans.of ?_ fun v s' => op_capL hG hE hW ho hc hargs htys hu hx2
        show NC (OL.rec (motive := fun _ => RO) _ _ _ (V.sl? (Opd.val p e)))
        cases V.sl? (Opd.val p e) with
        | no => trivial
        | nils => exact (KP.okNat (s := s) _ _).nc
        | yes f v o len cap ex es' => exact NC.bool trivial (KP.okNat (s := s) _ _).nc
      · cases h
    · rename_i p q hl
      obtain ⟨x, y, hxy, hx, hy⟩ := opds_two has hl
      have hargs : c.args = #[x, y] := by rw [← hxy]
      injection h with h; subst h
      exact Ans.float rfl fun v s' => op_minmax (max := false) (ps := as) hG hE hW ho hc hargs hx hy
    · rename_i p q hl
      obtain ⟨x, y, hxy, hx, hy⟩ := opds_two has hl
      have hargs : c.args = #[x, y] := by rw [← hxy]
      injection h with h; subst h
      exact Ans.float rfl fun v s' => op_minmax (max := true) (ps := as) hG hE hW ho hc hargs hx hy
    · rename_i p q r hl
      obtain ⟨x, y, z, hxy, hx, hy, hz⟩ := opds_three has hl
      have hargs : c.args = #[x, y, z] := by rw [← hxy]
      injection h with h; subst h
      refine Ans.of ?_ fun v s' => op_minmax3 (max := false) hG hE hW ho hc hargs hx hy hz
      exact (KP.int (s := s) fun _ _ => KP.int fun _ _ => KP.int fun _ _ => KP.ok _).nc
    · rename_i p q r hl
      obtain ⟨x, y, z, hxy, hx, hy, hz⟩ := opds_three has hl
      have hargs : c.args = #[x, y, z] := by rw [← hxy]
      injection h with h; subst h
      refine Ans.of ?_ fun v s' => op_minmax3 (max := true) hG hE hW ho hc hargs hx hy hz
      exact (KP.int (s := s) fun _ _ => KP.int fun _ _ => KP.int fun _ _ => KP.ok _).nc
    · rename_i p q t u hl ht
      obtain ⟨x, y, hxy, hx, hy⟩ := opds_two has hl
      have hargs : c.args = #[x, y] := by rw [← hxy]
      have htys : c.argTypes = #[t, u] := by rw [← ht]
      split at h
      · rename_i el hu
        split at h
        · rename_i es z hn hz
          split at h
          · rename_i hcond
            injection h with h; subst h
            simp only [Bool.and_eq_true] at hcond
            obtain ⟨⟨c1, c2⟩, c3⟩ := hcond
            obtain ⟨i, hi, hsz⟩ := info_of_size hn
            obtain ⟨zv, hz1, hz2⟩ := zeroCells_spec hz
            rw [hi, Option.bind_some] at hz1
            rw [hi] at c2
            obtain ⟨hv, _⟩ := ofCells_VL (g := g) (ρ := ρ) hz2
            have hl' := hv.lenIs c1
            refine Ans.of NC.app fun v s' => op_app hG hE hW (AppT.mk hu ?_ hi hsz hz1 (by simpa using hl') (by simpa using c2) (Nat.succ_pos es)) ho hc hargs htys hx hy
            unfold isSrcT at c3
            split at c3
            · rename_i e' he'; exact .inr ⟨e', he'⟩
            · rename_i he'; exact .inl he'
            · cases c3
          · cases h
        · cases h
      · cases h
    · rename_i p q t u hl ht
      obtain ⟨x, y, hxy, hx, hy⟩ := opds_two has hl
      have hargs : c.args = #[x, y] := by rw [← hxy]
      have htys : c.argTypes = #[t, u] := by rw [← ht]
      split at h
      · rename_i el hu
        split at h
        · rename_i es hn
          injection h with h; subst h
          refine Ans.of ?_ fun v s' => op_copy hG hE hW ho hc hargs htys hu hn hx hy
          show NC (evCopy (es + 1) (p.val e) (q.val e) s)
          unfold evCopy
          refine NC.source fun n more hm => ?_
          cases V.sl? (p.val e) with
          | no => trivial
          | nils => exact (KP.okNat (s := s) _ _).nc
          | yes f v o len cap ex es' =>
            exact NC.bool (hm _ _ fun l => NC.bool trivial (NC.write fun s' => (KP.okNat (s := s') _ _).nc)) (KP.okNat (s := s) _ _).nc
        · cases h
      · cases h
    · rename_i p hl
      obtain ⟨x, hx1, hx2⟩ := opds_one has hl
      have hargs : c.args = #[x] := by rw [← hx1]
      injection h with h; subst h
      exact Ans.float rfl fun v s' => op_sdata hG hE hW ho hc hargs hx2
    · rename_i p q pt it hl ht
      obtain ⟨x, y, hxy, hx, hy⟩ := opds_two has hl
      have hargs : c.args = #[x, y] := by rw [← hxy]
      have htys : c.argTypes = #[pt, it] := by rw [← ht]
      split at h
      · rename_i el hpt
        split at h
        · rename_i hel
          injection h with h; subst h
          refine Ans.of ?_ fun v s' => op_ustr hG hE hW ho hc hargs htys hpt (by simpa using hel) hx hy
          show NC (withNat (q.val e) fun n => evUStr el (p.val e) n s)
          unfold withNat
          cases V.int? (q.val e) with
          | no => trivial
          | yes kd n =>
            cases n with
            | negSucc m => trivial
            | ofNat n =>
              show NC (evUStr el (p.val e) n s)
              unfold evUStr
              split
              · exact NC.bool trivial trivial
              · cases n with
                | zero => trivial
                | succ m =>
                  refine NC.bool trivial ?_
                  unfold evUStrP
                  refine NC.getElems fun l => NC.bool trivial ?_
                  rename_i f v o _
                  cases Obj.cells? (H4.at f s.h) with
                  | no => trivial
                  | yes elem sz ro a b vs => exact NC.bool trivial (KP.okStr _ _).nc
              · trivial
        · cases h
      · cases h
    · cases h
  · cases h

omit hG hE hW in
theorem keyCls_spec {t : TypeId} {cls : Nat} (h : keyCls P t = some cls) : ∃ d, P.underlying t = some d ∧ KeyD cls d := by
  unfold keyCls at h
  split at h
  · rename_i k hu; injection h with h; exact ⟨_, hu, .inl ⟨h.symm, k, rfl⟩⟩
  · rename_i hu; injection h with h; exact ⟨_, hu, .inr (.inl ⟨h.symm, rfl⟩)⟩
  · rename_i hu; injection h with h; exact ⟨_, hu, .inr (.inr ⟨h.symm, rfl⟩)⟩
  · cases h

theorem snd_lookup {t : TypeId} {x y : Operand} {ok : Bool} (ho : o.op = .lookup t x y ok) (h : compOp0 P gs nt (.lookup t x y ok) = some iop) : Ans P g ρ base s w a o iop e := by
  simp only [compOp0] at h
  split at h
  · rename_i kt el ht
    split at h
    · rename_i cls z p q hk hz hp hq
      injection h with h; subst h
      obtain ⟨d, hu, hd⟩ := keyCls_spec hk
      unfold zeroT at hz
      obtain ⟨zz, hz1, hz2⟩ := Option.bind_eq_some_iff.1 hz
      exact Ans.float rfl fun v s' => op_lookM hG hE hW ho ht hu hd hz1 hz2 hp hq
    · cases h
  · cases h

theorem snd_mapUpdate {t : TypeId} {x y z : Operand} (ho : o.op = .mapUpdate t x y z) (h : compOp0 P gs nt (.mapUpdate t x y z) = some iop) : Ans P g ρ base s w a o iop e := by
  simp only [compOp0] at h
  split at h
  · rename_i kt el ht
    split at h
    · rename_i cls p q r hk hp hq hr
      injection h with h; subst h
      obtain ⟨d, hu, hd⟩ := keyCls_spec hk
      refine Ans.of ?_ fun v s' => op_updM hG hE hW (.inl ho) ht hu hd hp hq hr
      show NC (evUpd cls (p.val e) (q.val e) (r.val e) s)
      unfold evUpd
      split
      · rename_i f i _
        cases H4.at f s.h with
        | map v' es clock =>
          refine NC.bool trivial ?_
          have key : ∀ (es : V) (yes : V → RO) (no : RO), (∀ y, NC (yes y)) → NC no → NC (mapFind cls (q.val e) es yes no) := by
            intro es yes no h1 h2
            induction es with
            | cons h t _ ih => exact NC.bool (NC.bool trivial ih) (h1 _)
            | nil => exact h2
            | _ => trivial
          exact key es _ _ (fun _ => trivial) trivial
        | _ => trivial
      · trivial
    · cases h
  · cases h

theorem snd_insert {t : TypeId} {x y z : Operand} (ho : o.op = .insert t x y z) (h : compOp0 P gs nt (.insert t x y z) = some iop) : Ans P g ρ base s w a o iop e := by
  simp only [compOp0] at h
  split at h
  · rename_i kt el ht
    split at h
    · rename_i cls p q r hk hp hq hr
      injection h with h; subst h
      obtain ⟨d, hu, hd⟩ := keyCls_spec hk
      refine Ans.of ?_ fun v s' => op_updM hG hE hW (.inr ho) ht hu hd hp hq hr
      show NC (evUpd cls (p.val e) (q.val e) (r.val e) s)
      unfold evUpd
      split
      · rename_i f i _
        cases H4.at f s.h with
        | map v' es clock =>
          refine NC.bool trivial ?_
          have key : ∀ (es : V) (yes : V → RO) (no : RO), (∀ y, NC (yes y)) → NC no → NC (mapFind cls (q.val e) es yes no) := by
            intro es yes no h1 h2
            induction es with
            | cons h t _ ih => exact NC.bool (NC.bool trivial ih) (h1 _)
            | nil => exact h2
            | _ => trivial
          exact key es _ _ (fun _ => trivial) trivial
        | _ => trivial
      · trivial
    · cases h
  · cases h

theorem snd_all (h : compOp P gs nt o.op = some iop) : Ans P g ρ base s w a o iop e := by
  unfold compOp at h
  cases h0 : compOp0 P gs nt o.op with
  | none => rw [h0] at h; cases h
  | some i0 =>
    rw [h0] at h
    have h : (bif proved i0 then some i0 else none) = some iop := h
    cases hpr : proved i0 with
    | false => rw [hpr] at h; cases h
    | true =>
      rw [hpr] at h
      have h : some i0 = some iop := h
      injection h with h
      subst h
      cases hop : o.op <;> rw [hop] at h0
      case move x =>
        simp only [compOp0] at h0
        cases hx : compOpd gs nt x with
        | none => rw [hx] at h0; cases h0
        | some p => rw [hx] at h0; injection h0 with h0; subst h0; exact Ans.float rfl fun v s' => op_mv hG hE hW (.inl hop) hx
      case assign x =>
        simp only [compOp0] at h0
        cases hx : compOpd gs nt x with
        | none => rw [hx] at h0; cases h0
        | some p => rw [hx] at h0; injection h0 with h0; subst h0; exact Ans.float rfl fun v s' => op_mv hG hE hW (.inr hop) hx
      case pick c x y =>
        simp only [compOp0] at h0
        split at h0
        · rename_i pc px py h1 h2 h3
          injection h0 with h0; subst h0
          exact Ans.float rfl fun v s' => op_pick hG hE hW hop h1 h2 h3
        · cases h0
      case alloc t => exact snd_alloc hG hE hW hop h0
      case box t x => exact snd_box hG hE hW hop h0
      case build t ps => exact snd_build hG hE hW hop h0
      case buildSlice t len ps => exact snd_buildSlice hG hE hW hop h0
      case load t x => exact snd_load hG hE hW hop h0
      case store t x y => exact snd_store hG hE hW hop h0
      case nilCheck x =>
        simp only [compOp0] at h0
        cases hx : compOpd gs nt x with
        | none => rw [hx] at h0; cases h0
        | some p => rw [hx] at h0; injection h0 with h0; subst h0; exact Ans.float rfl fun v s' => op_chk hG hE hW hop hx
      case binOp op t x y u => exact snd_bin hG hE hW hop h0 hpr
      case unOp op t x =>
        simp only [compOp0] at h0
        split at h0
        · rename_i p hx; injection h0 with h0; subst h0; exact Ans.float rfl fun v s' => op_neg hG hE hW hop hx
        · rename_i p hx; injection h0 with h0; subst h0; exact Ans.float rfl fun v s' => op_not hG hE hW hop hx
        · cases h0
      case convert t u x => exact snd_convert hG hE hW hop h0 hpr
      case makeInterface t x => exact snd_makeInterface hG hE hW hop h0
      case makeFunc fn xs ys =>
        simp only [compOp0] at h0
        split at h0
        · rename_i p q h1 h2
          injection h0 with h0; subst h0
          exact Ans.float rfl fun v s' => op_mkFn hG hE hW hop h1 h2
        · cases h0
      case slice t x lo hi mx => exact snd_slice hG hE hW hop h0 hpr
      case fieldAddr t x i => exact snd_fieldAddr hG hE hW hop h0
      case field t x i => exact snd_field hG hE hW hop h0
      case indexAddr t x i => exact snd_indexAddr hG hE hW hop h0
      case index t x i => exact snd_index hG hE hW hop h0
      case range t x =>
        simp only [compOp0] at h0
        split at h0
        · rename_i p ht hx
          injection h0 with h0; subst h0
          refine Ans.of ?_ fun v s' => op_rng hG hE hW hop ht hx
          refine NC.str fun l d => ?_
          cases s.nx with
          | zero => trivial
          | succ m => exact NC.bool trivial trivial
        · cases h0
      case next x b =>
        cases b with
        | false => cases h0
        | true =>
          simp only [compOp0] at h0
          cases hx : compOpd gs nt x with
          | none => rw [hx] at h0; cases h0
          | some p =>
            rw [hx] at h0; injection h0 with h0; subst h0
            refine Ans.of ?_ fun v s' => op_nxt hG hE hW hop hx
            have hp : ∀ {v : V} {k : K → Nat → Nat → RO}, (∀ f i o, NC (k f i o)) → NC (withPtr v k) := by
              intro v k h
              unfold withPtr
              cases V.ptr? v; trivial; exact h _ _ _
            refine hp fun f i off => ?_
            cases H4.at f s.h with
            | siter v' l d pos =>
              refine NC.bool trivial (NC.bool ?_ ?_)
              · trivial
              · unfold decodeF
                refine NC.bool ?_ trivial
                cases decodeAt l d pos
                trivial
            | _ => trivial
      case typeAssert x t u ok =>
        simp only [compOp0] at h0
        split at h0
        · cases h0
        · rename_i d z p hd ht hz hx
          injection h0 with h0; subst h0
          unfold zeroT at hz
          obtain ⟨zz, hz1, hz2⟩ := Option.bind_eq_some_iff.1 hz
          refine Ans.of ?_ fun v s' => op_asrt hG hE hW hop ht (fun ms hh => hd ms hh) hz1 hz2 hx
          show NC (evAssert u z ok (p.val e) s)
          unfold evAssert
          split
          · split <;> trivial
          · split <;> split <;> trivial
          · trivial
        · cases h0
      case extract x i =>
        simp only [compOp0] at h0
        cases hx : compOpd gs nt x with
        | none => rw [hx] at h0; cases h0
        | some p => rw [hx] at h0; injection h0 with h0; subst h0; exact Ans.float rfl fun v s' => op_ext hG hE hW hop hx
      case makeSlice t l c =>
        simp only [compOp0] at h0
        split at h0
        · rename_i el ht
          split at h0
          · rename_i es z p q hn hz hp hq
            split at h0
            · rename_i hcond
              injection h0 with h0; subst h0
              simp only [Bool.and_eq_true] at hcond
              obtain ⟨c1, c2⟩ := hcond
              obtain ⟨i, hi, hsz⟩ := info_of_size hn
              obtain ⟨zv, hz1, hz2⟩ := zeroCells_spec hz
              rw [hi, Option.bind_some] at hz1
              rw [hi] at c2
              refine Ans.of ?_ fun v s' => op_mkMake hG hE hW hop ht hi hsz (by simpa using c2) hz1 hz2 c1 hp hq
              exact NC.nat fun _ => NC.nat fun _ => NC.bool trivial (NC.alloc fun _ _ _ => trivial)
            · cases h0
          · cases h0
        · cases h0
      case call c => exact snd_call hG hE hW hop h0 hpr
      case makeMap t r =>
        cases r with
        | none =>
          injection h0 with h0; subst h0
          refine Ans.of ?_ fun v s' => op_mkMap hW hop
          show NC (evMkMap s)
          unfold evMkMap
          cases s.nx with
          | zero => trivial
          | succ m => exact NC.bool trivial trivial
        | some r => cases h0
      case lookup t x y ok => exact snd_lookup hG hE hW hop h0
      case mapUpdate t x y z => exact snd_mapUpdate hG hE hW hop h0
      case insert t x y z => exact snd_insert hG hE hW hop h0
      all_goals (exact absurd h0 (by simp [compOp0]))
end

theorem op_sound (P : Program) (gs : Nat → Bool) (ρ : Rho) (base : Nat) : OpSound P gs ρ base :=
  fun nt o iop h g e s a w hG hE hW => snd_all hG hE hW h
end Go.Ev

namespace Go.Ev
set_option linter.unusedVariables false

section
variable {P : Program} {gs : Nat → Bool} {g : G} {ρ : Rho} {base nt : Nat} {e : E2} {s s' : St} {a : Act} {w : World} {o : Oper} {iop : IOp}

theorem fresh_sound (P : Program) (gs : Nat → Bool) (ρ : Rho) : FreshSound P gs ρ := by
  intro nt o iop h hf g e s s' a v hG hE hev
  unfold compOp at h
  cases h0 : compOp0 P gs nt o.op with
  | none => rw [h0] at h; cases h
  | some i0 =>
    rw [h0] at h
    have h : (bif proved i0 then some i0 else none) = some iop := h
    cases hpr : proved i0 with
    | false => rw [hpr] at h; cases h
    | true =>
      rw [hpr] at h
      have h : some i0 = some iop := h
      injection h with h
      subst h
      have hfloat : isFloat i0 = true → isFresh i0 = true → False := by intro h1 h2; cases i0 <;> simp [isFloat, isFresh] at h1 h2
      cases hop : o.op <;> rw [hop] at h0
      case alloc t =>
        simp only [compOp0] at h0
        split at h0
        · rename_i n z hn hz
          split at h0
          · rename_i hl
            injection h0 with h0
            subst h0
            obtain ⟨zv, h1, h2⟩ := zeroCells_spec hz
            exact op_newF hG hE hop hn h1 h2 hl hev
          · cases h0
        · cases h0
      case buildSlice t len ps =>
        simp only [compOp0] at h0
        split at h0
        · rename_i el ht
          split at h0
          · rename_i n z hn hz
            split at h0
            · cases h0
            · rename_i hc
              simp only [Bool.or_eq_true, decide_eq_true_eq, Bool.not_eq_true', not_or, Bool.not_eq_false] at hc
              cases hps : compParts P gs nt (fun i => some (i, n + 1)) ps.toList with
              | none => rw [hps] at h0; cases h0
              | some l =>
                rw [hps] at h0
                injection h0 with h0
                subst h0
                obtain ⟨zv, h1, h2⟩ := zeroCells_spec hz
                exact op_mkSlF hG hE hop ht hn h1 h2 hc.2 hc.1 hps hev
          · cases h0
        · cases h0
      case next x b =>
        cases b with
        | false => cases h0
        | true =>
          simp only [compOp0] at h0
          obtain ⟨p, _, h0⟩ := Option.map_eq_some_iff.1 h0
          subst h0
          exact absurd hf (by simp [isFresh])
      case slice t x lo hi mx =>
        exfalso
        simp only [compOp0] at h0
        split at h0
        · injection h0 with h0; subst h0; exact absurd hf (by simp [isFresh])
        · cases hc : mx.isSome && hi.isNone with
          | true => rw [hc] at h0; cases h0
          | false =>
            rw [hc] at h0
            obtain ⟨p, _, h0⟩ := Option.map_eq_some_iff.1 h0
            subst h0
            exact absurd hf (by simp [isFresh])
        · obtain ⟨p, _, h0⟩ := Option.map_eq_some_iff.1 h0
          subst h0
          exact absurd hf (by simp [isFresh])
        · cases h0
      all_goals
        exfalso
        simp only [compOp0, compBin, compConvert, compCall, externOp] at h0
        repeat' split at h0
      all_goals first
        | contradiction
        | (cases h0; done)
        | (injection h0 with h0; subst h0; exact absurd hf (by simp [isFresh]))
        | (obtain ⟨p, _, h0⟩ := Option.map_eq_some_iff.1 h0; subst h0; exact absurd hf (by simp [isFresh]))
end
end Go.Ev

namespace Go.Ev
set_option linter.unusedVariables false

section
variable {P : Program} {gs : Nat → Bool} {g : G} {ρ : Rho} {base nt : Nat} {e : E2} {s s' : St} {a : Act} {w : World}

/-! ## Arguments -/
theorem VL.has_of {l : V} {xs : List Value} (h : VL g ρ l xs) : ∀ {n : Nat}, n ≤ xs.length → V.has n l = true := by
  intro n
  induction n generalizing l xs with
  | zero => intro _; rfl
  | succ n ih =>
    intro hn
    cases h with
    | nil => simp at hn
    | cons hx ht => exact ih ht (by simpa using hn)

theorem putArgs_cons (h t : V) (n : Nat) (e : E2) : putArgs (.cons h t) n e = putArgs t (n + 1) (E2.wr n h e) := rfl

theorem putArgs_sound : ∀ {xs : List Value} {l : V}, VL g ρ l xs → ∀ {n : Nat} {e : E2} {tm : Nat → Value}, n + xs.length ≤ nt → nt ≤ 256 → (∀ t, t < nt → VR g ρ (E2.rd t e) (tm t)) →
    ∀ t, t < nt → VR g ρ (E2.rd t (putArgs l n e)) (if n ≤ t ∧ t < n + xs.length then xs.getD (t - n) undef else tm t)
  | [], _, .nil, n, e, tm, hn, hnt, h, t, ht => by
    rw [if_neg (by rintro ⟨h1, h2⟩; simp only [List.length_nil] at h2; omega)]
    exact h t ht
  | x :: xs, _, .cons hx hl, n, e, tm, hn, hnt, h, t, ht => by
    rw [putArgs_cons]
    have hn : n + (xs.length + 1) ≤ nt := hn
    have := putArgs_sound hl (n := n + 1) (e := E2.wr n _ e) (tm := fun u => if u = n then x else tm u) (by omega) hnt (fun u hu => by
      rw [rd_wr (by omega) (by omega)]
      by_cases hun : u = n
      · rw [if_pos hun, if_pos hun]; exact hx
      · rw [if_neg hun, if_neg hun]; exact h u hu) t ht
    by_cases h1 : n + 1 ≤ t ∧ t < n + 1 + xs.length
    · rw [if_pos h1] at this
      rw [if_pos (by simp only [List.length_cons]; omega)]
      rw [show t - n = (t - (n + 1)) + 1 by omega, List.getD_cons_succ]
      exact this
    · rw [if_neg h1] at this
      by_cases htn : t = n
      · subst htn
        rw [if_pos (by simp only [List.length_cons]; omega), Nat.sub_self]
        rw [if_pos rfl] at this
        exact this
      · rw [if_neg htn] at this
        rw [if_neg (by simp only [List.length_cons]; omega)]
        exact this

theorem ER.enter {xs : List Value} {l : V} (hl : VL g ρ l xs) (hn : xs.length ≤ nt) (hnt : nt ≤ 256) :
    ER g ρ nt (putArgs l 0 E2.empty) { tmps := xs.toArray ++ Array.replicate (nt - xs.toArray.size) undef, defers := [] } := by
  refine ⟨by simp; omega, hnt, fun t ht => ?_⟩
  have := putArgs_sound hl (n := 0) (e := E2.empty) (tm := fun _ => undef) (by omega) hnt (fun u _ => by unfold E2.rd; rw [E2.at_empty]; exact .undef) t ht
  show VR g ρ (E2.rd t _) _
  have he : (xs.toArray ++ Array.replicate (nt - xs.toArray.size) undef).getD t undef = if 0 ≤ t ∧ t < 0 + xs.length then xs.getD (t - 0) undef else undef := by
    rw [Array.getD_eq_getD_getElem?, Array.getElem?_append]
    by_cases h : t < xs.length
    · rw [if_pos (by simpa using h), if_pos (by omega)]
      simp
    · rw [if_neg (by simpa using h), if_neg (by omega), Array.getElem?_replicate]
      split <;> rfl
  show VR g ρ _ ((xs.toArray ++ Array.replicate (nt - xs.toArray.size) undef).getD t undef)
  rw [he]
  exact this

/-! ## Results -/
noncomputable def resF (P : Program) (tmps : Array Value) (w : World) (r : ResultVar) : Value :=
  match (match r with
    | .tmp t => (pure (tmps.getD t undef) : Sem Value)
    | .cell a t => do loadVar t (← asAddr (tmps.getD a undef))).run P w with
  | .ok v _ => v
  | _ => undef

theorem results_inv (hE : ER g ρ nt e a) (hW : WR g ρ base s w) : ∀ {rs : List ResultVar} {rl : ResL}, compRes P nt rs = some rl → ∀ {k : V → RO} {r : RO}, results rl e s k = r → r.good →
    ∃ l, VL g ρ l (rs.map (resF P a.tmps w)) ∧ (∀ x ∈ rs, (match x with
      | .tmp t => (pure (a.tmps.getD t undef) : Sem Value)
      | .cell b t => do loadVar t (← asAddr (a.tmps.getD b undef))).run P w = .ok (resF P a.tmps w x) w) ∧ k l = r
  | [], rl, hc, k, r, h, hr => by
    simp [compRes] at hc
    subst hc
    exact ⟨.nil, .nil, (fun x hx => by cases hx), h⟩
  | .tmp t :: rs, rl, hc, k, r, h, hr => by
    simp only [compRes] at hc
    split at hc
    · rename_i ht
      have ht : @LT.lt Nat _ t nt := ht
      cases hrest : compRes P nt rs with
      | none => rw [hrest] at hc; cases hc
      | some rl' =>
        rw [hrest] at hc
        injection hc with hc
        subst hc
        obtain ⟨l, h1, h2, h3⟩ := results_inv hE hW hrest (show results rl' e s (fun t' => k (.cons (E2.at (D.dig (t / 16)) (D.dig (t % 16)) e) t')) = r from h) hr
        have hrun : (pure (a.tmps.getD t undef) : Sem Value).run P w = .ok (a.tmps.getD t undef) w := rfl
        have hF : resF P a.tmps w (.tmp t) = a.tmps.getD t undef := rfl
        refine ⟨.cons _ l, .cons (by rw [hF]; exact hE.2.2 t ht) h1, fun x hx => ?_, h3⟩
        rcases List.mem_cons.1 hx with rfl | hx
        · rw [hF]; rfl
        · exact h2 x hx
    · cases hc
  | .cell b t :: rs, rl, hc, k, r, h, hr => by
    simp only [compRes] at hc
    split at hc
    · rename_i hb
      have hb : @LT.lt Nat _ b nt := hb
      have hbv := hE.2.2 b hb
      split at hc
      · rename_i n hag hsz
        cases hrest : compRes P nt rs with
        | none => rw [hrest] at hc; cases hc
        | some rl' =>
          rw [hrest] at hc
          injection hc with hc
          subst hc
          have h : withPtr (E2.at (D.dig (b / 16)) (D.dig (b % 16)) e) (fun f v o => loadN (n + 1) f v o s fun c => results rl' e s fun t' => k (.cons (.agg c) t')) = r := h
          obtain ⟨f, i, off, hv, h⟩ := withPtr_inv h hr
          rw [hv] at hbv
          generalize hax : a.tmps.getD b undef = y at hbv
          cases hbv with | ptr hg hoff =>
          obtain ⟨cs, ys, hvl, hl, hcc, hcell, h⟩ := loadN_inv hW hg hoff h hr
          obtain ⟨l, h1, h2, h3⟩ := results_inv hE hW hrest h hr
          have hload := run_loadCells_list (P := P) w (Addr.mk _ _ none) ys (fun j y hj => by rw [addr_add]; exact hcell j y hj)
          rw [hl] at hload
          have hrun : (do loadVar t (← asAddr (a.tmps.getD b undef)) : Sem Value).run P w = .ok (.agg ys.toArray) w := by
            rw [hax]
            simp [asAddr, loadVar, run_isAgg hag, run_sizeOf hsz, hload]
          have hF : resF P a.tmps w (.cell b t) = .agg ys.toArray := by
            show (match (do loadVar t (← asAddr (a.tmps.getD b undef)) : Sem Value).run P w with | .ok v _ => v | _ => undef) = _
            rw [hrun]
          refine ⟨.cons (.agg cs) l, .cons (by rw [hF]; exact .agg hvl hcc) h1, fun x hx => ?_, h3⟩
          rcases List.mem_cons.1 hx with rfl | hx
          · rw [hF]; exact hrun
          · exact h2 x hx
      · rename_i hag hsz
        cases hrest : compRes P nt rs with
        | none => rw [hrest] at hc; cases hc
        | some rl' =>
          rw [hrest] at hc
          injection hc with hc
          subst hc
          have h : withPtr (E2.at (D.dig (b / 16)) (D.dig (b % 16)) e) (fun f v o => load1 f v o s fun c => results rl' e s fun t' => k (.cons c t')) = r := h
          obtain ⟨f, i, off, hv, h⟩ := withPtr_inv h hr
          rw [hv] at hbv
          generalize hax : a.tmps.getD b undef = y at hbv
          cases hbv with | ptr hg hoff =>
          obtain ⟨c, y, hcell, hvr, _, h⟩ := load1_inv hW hg hoff h hr
          obtain ⟨l, h1, h2, h3⟩ := results_inv hE hW hrest h hr
          have hrun : (do loadVar t (← asAddr (a.tmps.getD b undef)) : Sem Value).run P w = .ok y w := by
            rw [hax]
            simp [asAddr, loadVar, run_isAgg hag, hcell]
          have hF : resF P a.tmps w (.cell b t) = y := by
            show (match (do loadVar t (← asAddr (a.tmps.getD b undef)) : Sem Value).run P w with | .ok v _ => v | _ => undef) = _
            rw [hrun]
          refine ⟨.cons c l, .cons (by rw [hF]; exact hvr) h1, fun x hx => ?_, h3⟩
          rcases List.mem_cons.1 hx with rfl | hx
          · rw [hF]; exact hrun
          · exact h2 x hx
      · cases hc
    · cases hc

theorem endOf_sound (hE : ER g ρ nt e a) (hW : WR g ρ base s w) {fn : Func} {rl : ResL} (hc : compRes P nt fn.results.toList = some rl) {v : V} (h : endOf rl (fn.results.size == 1) e s = .ok v s') :
    s' = s ∧ ∃ x, (Go.results fn a.tmps).run P w = .ok x w ∧ VR g ρ v x := by
  unfold endOf at h
  generalize hr : results rl e s (fun l => Bool.rec (motive := fun _ => RO) (.ok (.tup l) s) (.ok (V.hd l) s) (fn.results.size == 1)) = r at h
  cases r with
  | bad x => exact absurd (show RC.bad x = .ok v s' from h) (by simp)
  | call f as s1 => exact absurd (show RC.bad 120 = .ok v s' from h) (by simp)
  | ok v1 s1 =>
    have h : RC.ok v1 s1 = .ok v s' := h
    injection h with h1 h2
    subst h1 h2
    obtain ⟨l, hl, hall, hk⟩ := results_inv hE hW hc hr trivial
    have hm := run_mapM_array (P := P) (w := w) (l := fn.results) (F := resF P a.tmps w) (f := fun x => match x with
      | .tmp t => (pure (a.tmps.getD t undef) : Sem Value)
      | .cell b t => do loadVar t (← asAddr (a.tmps.getD b undef))) hall
    have hrun : (Go.results fn a.tmps).run P w = .ok (if h : (fn.results.map (resF P a.tmps w)).size = 1 then (fn.results.map (resF P a.tmps w))[0] else .tuple (fn.results.map (resF P a.tmps w))) w := by
      unfold Go.results
      rw [Sem.run_bind]
      erw [hm]
      rfl
    cases hs : fn.results.size == 1 with
    | true =>
      rw [hs] at hk
      have hk : RO.ok (V.hd l) s = .ok v1 s1 := hk
      injection hk with hk1 hk2
      subst hk1 hk2
      refine ⟨rfl, _, hrun, ?_⟩
      have hs1 : (fn.results.map (resF P a.tmps w)).size = 1 := by simpa using hs
      rw [dif_pos hs1]
      obtain ⟨y, hy⟩ := Array.size_eq_one_iff.1 hs1
      have hlist : fn.results.toList.map (resF P a.tmps w) = [y] := by rw [← Array.toList_map, hy]
      rw [hlist] at hl
      cases hl with | cons hx ht =>
      simp only [hy]
      exact hx
    | false =>
      rw [hs] at hk
      have hk : RO.ok (.tup l) s = .ok v1 s1 := hk
      injection hk with hk1 hk2
      subst hk1 hk2
      refine ⟨rfl, _, hrun, ?_⟩
      have hs1 : ¬ (fn.results.map (resF P a.tmps w)).size = 1 := by simpa using hs
      rw [dif_neg hs1]
      have := VR.tup hl
      have harr : (fn.results.toList.map (resF P a.tmps w)).toArray = fn.results.map (resF P a.tmps w) := by rw [← Array.toList_map]
      rw [harr] at this
      exact this
end
end Go.Ev

namespace Go.Ev
set_option linter.unusedVariables false

theorem F3.at_put (k k' : K) (x : Fun) (t : F3) : F3.at k (F3.put k' x t) = if k.a = k'.a ∧ k.b = k'.b ∧ k.c = k'.c then x else F3.at k t := by
  simp only [F3.at, F3.put, F3.get_set]
  by_cases hc : k.c = k'.c <;> simp [hc, F2.get_set]
  by_cases hb : k.b = k'.b <;> simp [hb, F1.get_set]
theorem F3.at_empty (k : K) : F3.at k F3.empty = .none := by
  simp [F3.at, F3.empty, F3.get_all, F2.get_all, F1.get_all]

theorem ofNat_same {f n : Nat} (hf : f < 4096) (hn : n < 4096) : ((K.ofNat f).a = (K.ofNat n).a ∧ (K.ofNat f).b = (K.ofNat n).b ∧ (K.ofNat f).c = (K.ofNat n).c) ↔ f = n := by
  constructor
  · rintro ⟨h1, h2, h3⟩
    have h1 : f % 16 = n % 16 := D.dig_inj (by omega) (by omega) h1
    have h2 : f / 16 % 16 = n / 16 % 16 := D.dig_inj (by omega) (by omega) h2
    have h3 : f / 256 % 16 = n / 256 % 16 := D.dig_inj (by omega) (by omega) h3
    omega
  · rintro rfl
    exact ⟨rfl, rfl, rfl⟩

section
variable {P : Program} {gs : Nat → Bool} {ρ : Rho} {base : Nat}

theorem compAll_at {f : Nat} (hf : f < 4096) : ∀ {l : List Func} {n : Nat} {t : F3}, n + l.length ≤ 4096 →
    F3.at (K.ofNat f) (compAll P gs n l t) = if h : n ≤ f ∧ f < n + l.length then compFun P gs (l[f - n]'(by omega)) else F3.at (K.ofNat f) t
  | [], n, t, h => by
    rw [dif_neg (by rintro ⟨h1, h2⟩; simp only [List.length_nil] at h2; omega)]
    rfl
  | fn :: l, n, t, h => by
    have h : n + (l.length + 1) ≤ 4096 := h
    simp only [compAll]
    rw [compAll_at hf (by omega), F3.at_put]
    simp only [ofNat_same hf (show n < 4096 by omega)]
    by_cases h1 : n + 1 ≤ f ∧ f < n + 1 + l.length
    · rw [dif_pos h1, dif_pos (by simp only [List.length_cons]; omega)]
      congr 1
      rw [List.getElem_cons, dif_neg (by omega)]
      congr 1
    · rw [dif_neg h1]
      by_cases hfn : f = n
      · rw [if_pos hfn, dif_pos (by simp only [List.length_cons]; omega)]
        congr 1
        rw [List.getElem_cons, dif_pos (by omega)]
      · rw [if_neg hfn, dif_neg (by simp only [List.length_cons]; omega)]

theorem table_at {f : Nat} (hf : f < 4096) (hs : P.funcs.size ≤ 4096) {b : C} {r : ResL} {one : Bool} {nt : Nat} (h : F3.at (K.ofNat f) (table P gs) = .some b r one nt) : ∃ fn, P.funcs[f]? = some fn ∧ compFun P gs fn = .some b r one nt := by
  unfold table at h
  rw [compAll_at hf (by simpa using hs)] at h
  split at h
  · rename_i hh
    have hlt : f < P.funcs.size := by have := hh.2; simp only [Array.length_toList] at this; omega
    refine ⟨P.funcs[f], Array.getElem?_eq_getElem hlt, ?_⟩
    simpa using h
  · rw [F3.at_empty] at h
    cases h

theorem compFun_spec {fn : Func} {b : C} {r : ResL} {one : Bool} {nt : Nat} (h : compFun P gs fn = .some b r one nt) :
    fn.ntmps ≤ 256 ∧ fn.name ≠ "runtime.NumGoroutine" ∧ nt = fn.ntmps ∧ one = (fn.results.size == 1) ∧ ∃ c, fn.body = some c ∧ b = compC P gs fn.ntmps c ∧ compRes P fn.ntmps fn.results.toList = some r := by
  unfold compFun at h
  split at h
  · rename_i hn
    split at h
    · rename_i c r' hb hr
      injection h with h1 h2 h3 h4
      subst h1 h2 h3 h4
      exact ⟨hn.1, hn.2, rfl, rfl, c, hb, rfl, hr⟩
    · cases h
  · cases h

/-- calls known ahead are as they are said to be -/
def OrcOK (P : Program) (gs : Nat → Bool) (ρ : Rho) (base : Nat) : Orc → Prop
  | .nil => True
  | .more f as ans rest => GoodFn P f ∧ (∀ (s : St) (g : G) (w : World) (xs : List Value), GlobR gs g → WR g ρ base s w → VL g ρ as xs →
      Calls P f xs.toArray w fun en w' => ∃ x g', en = .returned x ∧ Step g ρ base s w g' s w' ∧ VR g' ρ ans x) ∧ OrcOK P gs ρ base rest
  | .place f ms rest => (∀ (i m : Nat), m ∈ ms → i % 4 = 3 → symM i = m → GoodFn P f ∧ ∀ (s : St) (g : G) (w : World) (xs : List Value), GlobR gs g → WR g ρ base s w → VL g ρ (.cons (.sym i) (.cons (.int .i64 (m : Int)) .nil)) xs →
      Calls P f xs.toArray w fun en w' => ∃ x g', en = .returned x ∧ Step g ρ base s w g' s w' ∧ VR g' ρ (.int .i64 (symLo i : Nat)) x) ∧ OrcOK P gs ρ base rest
  | .idx f rest => (GoodFn P f ∧ ∀ (s1 s2 : ByteArray), 2 ≤ s2.size → s1.size ≤ 4294967280 → ∀ (s : St) (g : G) (w : World), GlobR gs g → WR g ρ base s w →
      Calls P f #[.string s1, .string s2] w fun en w' => en = .returned (.int .i64 (Lib.index s1.data.toList s2.data.toList)) ∧ w' = w) ∧ OrcOK P gs ρ base rest

theorem placeAns_inv {ms : List Nat} {args : V} {yes : V → RC} {no r : RC} (h : placeAns ms args yes no = r) : r = no ∨ ∃ i m, args = .cons (.sym i) (.cons (.int .i64 (Int.ofNat m)) .nil) ∧ m ∈ ms ∧ i % 4 = 3 ∧ symM i = m ∧ r = yes (.int .i64 (Int.ofNat (symLo i))) := by
  unfold placeAns at h
  split at h
  · rename_i i k m
    cases hb : band (Nat.beq (Nat.mod i 4) 3) (band (Nat.beq (symM i) m) (band (Nat.beq (kcode k) 3) (List.elem m ms))) with
    | false => rw [hb] at h; exact .inl h.symm
    | true =>
      rw [hb] at h
      obtain ⟨h1, hb⟩ := band_iff.1 hb
      obtain ⟨h2, hb⟩ := band_iff.1 hb
      obtain ⟨h3, h4⟩ := band_iff.1 hb
      have hk : k = .i64 := kcode_inj (show kcode k = kcode .i64 from beq_iff.1 h3)
      subst hk
      exact .inr ⟨i, m, rfl, List.mem_of_elem_eq_true h4, beq_iff.1 h1, beq_iff.1 h2, h.symm⟩
  · exact .inl h.symm

theorem idxAns_inv {args : V} {yes : V → RC} {no r : RC} (h : idxAns args yes no = r) : r = no ∨ ∃ l1 d1 l2 d2, args = .cons (.str l1 d1) (.cons (.str l2 d2) .nil) ∧ 2 ≤ l2 ∧ l1 ≤ 4294967280 ∧ r = yes (.int .i64 (indexStr l2 d2 (Nat.sub (Nat.succ l1) l2) d1 0)) := by
  unfold idxAns at h
  split at h
  · rename_i l1 d1 l2 d2
    cases hb : band (Nat.ble 2 l2) (Nat.ble l1 4294967280) with
    | false => rw [hb] at h; exact .inl h.symm
    | true =>
      rw [hb] at h
      obtain ⟨h1, h2⟩ := band_iff.1 hb
      exact .inr ⟨l1, d1, l2, d2, rfl, ble_iff.1 h1, ble_iff.1 h2, h.symm⟩
  · exact .inl h.symm

theorem find_inv {f : Nat} {args : V} {yes : V → RC} {no r : RC} : ∀ {o : Orc}, OrcOK P gs ρ base o → Orc.find o f args yes no = r → r = no ∨ ∃ ans, r = yes ans ∧ GoodFn P f ∧ ∀ (s : St) (g : G) (w : World) (xs : List Value), GlobR gs g → WR g ρ base s w → VL g ρ args xs →
      Calls P f xs.toArray w fun en w' => ∃ x g', en = .returned x ∧ Step g ρ base s w g' s w' ∧ VR g' ρ ans x
  | .nil, _, h => .inl h.symm
  | .more f' as ans rest, hO, h => by
    have h1 : Bool.rec (motive := fun _ => RC) (Orc.find rest f args yes no) (Bool.rec (motive := fun _ => RC) (Orc.find rest f args yes no) (yes ans) (same args as)) (Nat.beq f f') = r := h
    clear h
    cases hb : Nat.beq f f' with
    | false => rw [hb] at h1; exact find_inv hO.2.2 h1
    | true =>
      rw [hb] at h1
      have h2 : Bool.rec (motive := fun _ => RC) (Orc.find rest f args yes no) (yes ans) (same args as) = r := h1
      clear h1
      cases hs : same args as with
      | false => rw [hs] at h2; exact find_inv hO.2.2 h2
      | true =>
        rw [hs] at h2
        have h3 : yes ans = r := h2
        clear h2
        have hff := beq_iff.1 hb
        have haa := same_eq hs
        subst hff haa
        exact .inr ⟨ans, h3.symm, hO.1, hO.2.1⟩
  | .place f' ms rest, hO, h => by
    have h1 : Bool.rec (motive := fun _ => RC) (Orc.find rest f args yes no) (placeAns ms args yes (Orc.find rest f args yes no)) (Nat.beq f f') = r := h
    clear h
    cases hb : Nat.beq f f' with
    | false => rw [hb] at h1; exact find_inv hO.2 h1
    | true =>
      rw [hb] at h1
      have hff := beq_iff.1 hb
      subst hff
      rcases placeAns_inv (show placeAns ms args yes (Orc.find rest f args yes no) = r from h1) with h2 | ⟨i, m, h2, h3, h4, h5, h6⟩
      · exact find_inv hO.2 h2.symm
      · subst h2
        obtain ⟨h7, h8⟩ := hO.1 i m h3 h4 h5
        exact .inr ⟨_, h6, h7, h8⟩
  | .idx f' rest, hO, h => by
    have h1 : Bool.rec (motive := fun _ => RC) (Orc.find rest f args yes no) (idxAns args yes (Orc.find rest f args yes no)) (Nat.beq f f') = r := h
    clear h
    cases hb : Nat.beq f f' with
    | false => rw [hb] at h1; exact find_inv hO.2 h1
    | true =>
      rw [hb] at h1
      have hff := beq_iff.1 hb
      subst hff
      rcases idxAns_inv (show idxAns args yes (Orc.find rest f args yes no) = r from h1) with h2 | ⟨l1, d1, l2, d2, h2, h3, h4, h5⟩
      · exact find_inv hO.2 h2.symm
      · subst h2
        obtain ⟨h6, h7⟩ := hO.1
        refine .inr ⟨_, h5, h6, fun s g w xs hG hW hxs => ?_⟩
        cases hxs with | cons hx hxs =>
        cases hxs with | cons hy hxs =>
        cases hxs
        cases hx with | str s1 =>
        cases hy with | str s2 =>
        have e1 : s1.size = s1.data.toList.length := Lib.size_eq s1
        have e2 : s2.size = s2.data.toList.length := Lib.size_eq s2
        refine (h7 s1 s2 (by omega) (by omega) s g w hG hW).mono fun en w' hh => ?_
        obtain ⟨rfl, rfl⟩ := hh
        refine ⟨_, g, rfl, .refl hW, ?_⟩
        have hk : indexStr s2.data.toList.length (encList s2.data.toList) (Nat.sub (Nat.succ s1.data.toList.length) s2.data.toList.length) (encList s1.data.toList) 0 = _ := indexStr_eq s2.data.toList (by omega) _ s1.data.toList 0 rfl
        have he : (if Lib.index s1.data.toList s2.data.toList = -1 then -1 else ((0 : Nat) : Int) + Lib.index s1.data.toList s2.data.toList) = Lib.index s1.data.toList s2.data.toList := by
          split
          · rename_i h; exact h.symm
          · simp
        rw [hk, he]
        exact .int .i64 _

theorem run_sound {orc : Orc} (hO : OrcOK P gs ρ base orc) (hs : P.funcs.size ≤ 4096) : ∀ fuel, CallSound P gs ρ base (run (table P gs) orc fuel)
  | 0 => fun f args s v s' h => absurd (show RC.bad 121 = .ok v s' from h) (by simp)
  | fuel + 1 => by
    intro f args s v s' h
    have h : Orc.find orc f args (fun v => .ok v s)
      (Fun.rec (motive := fun _ => RC) (.bad (Nat.add 1000 f))
        (fun body res one nt => Bool.rec (motive := fun _ => RC) (.bad 124) (R.rec (motive := fun _ => RC) (fun e s => endOf res one e s) (fun _ _ _ => .bad 122) (fun _ _ _ => .bad 123) (fun e s => endOf res one e s) (fun w => .bad w)
          (evC (run (table P gs) orc fuel) body (putArgs args 0 E2.empty) s)) (band (Nat.ble f 4095) (bnot (V.has (Nat.succ nt) args)))) (F3.at (K.ofNat f) (table P gs))) = .ok v s' := h
    rcases find_inv hO h with h1 | ⟨ans, h1, hgood, hcalls⟩
    · cases hat : F3.at (K.ofNat f) (table P gs) with
      | none => rw [hat] at h1; exact absurd (show RC.ok v s' = .bad (Nat.add 1000 f) from h1) (by simp)
      | some body res one nt =>
        rw [hat] at h1
        have h2 : RC.ok v s' = Bool.rec (motive := fun _ => RC) (.bad 124) (R.rec (motive := fun _ => RC) (fun e s => endOf res one e s) (fun _ _ _ => .bad 122) (fun _ _ _ => .bad 123) (fun e s => endOf res one e s) (fun w => .bad w)
          (evC (run (table P gs) orc fuel) body (putArgs args 0 E2.empty) s)) (band (Nat.ble f 4095) (bnot (V.has (Nat.succ nt) args))) := h1
        clear h1
        cases hb : band (Nat.ble f 4095) (bnot (V.has (Nat.succ nt) args)) with
        | false => rw [hb] at h2; exact absurd (show RC.ok v s' = .bad 124 from h2) (by simp)
        | true =>
          rw [hb] at h2
          obtain ⟨hb1, hb2⟩ := band_iff.1 hb
          have hflt : f < 4096 := Nat.lt_succ_of_le (ble_iff.1 hb1)
          obtain ⟨fn, hfn, hcf⟩ := table_at hflt hs hat
          obtain ⟨hn256, hname, rfl, hone, c, hbody, rfl, hres⟩ := compFun_spec hcf
          refine ⟨⟨fn, hfn, by rw [hbody]; simp, hname⟩, fun g w xs hG hW hxs => ?_⟩
          have hlen : xs.length ≤ fn.ntmps := by
            rcases Nat.lt_or_ge fn.ntmps xs.length with hh | hh
            · have := VL.has_of hxs (n := fn.ntmps + 1) hh
              have hb2 : bnot (V.has (fn.ntmps + 1) args) = true := hb2
              rw [this] at hb2
              cases hb2
            · exact hh
          have hE0 := ER.enter hxs hlen hn256
          refine calls_of_wp hfn hbody ?_
          have h1 : RC.ok v s' = R.rec (motive := fun _ => RC) (fun e s => endOf res one e s) (fun _ _ _ => .bad 122) (fun _ _ _ => .bad 123) (fun e s => endOf res one e s) (fun w => .bad w)
            (evC (run (table P gs) orc fuel) (compC P gs fn.ntmps c) (putArgs args 0 E2.empty) s) := h2
          have done : ∀ {e1 : E2} {s1 : St} {a1 : Act} {w1 : World} {g1 : G}, RC.ok v s' = endOf res one e1 s1 → a1.defers = [] → Step g ρ base s w g1 s1 w1 → ER g1 ρ fn.ntmps e1 a1 →
              a1.defers = [] ∧ ∃ y, (Go.results fn a1.tmps).run P w1 = .ok y w1 ∧ ∃ x g', Ending.returned y = .returned x ∧ Step g ρ base s w g' s' w1 ∧ VR g' ρ v x := by
            intro e1 s1 a1 w1 g1 he hd hS hE1
            rw [hone] at he
            obtain ⟨hs1, y, hy, hv⟩ := endOf_sound hE1 hS.wr hres he.symm
            subst hs1
            exact ⟨hd, y, hy, y, g1, rfl, hS, hv⟩
          cases hev : evC (run (table P gs) orc fuel) (compC P gs fn.ntmps c) (putArgs args 0 E2.empty) s with
          | norm e1 s1 =>
            rw [hev] at h1
            refine wp_mono (evC_sound (op_sound P gs ρ base) (fresh_sound P gs ρ) (run_sound hO hs fuel) c hev trivial hG hE0 hW) ?_
            rintro ex a1 w1 ⟨rfl, hd, g1, hS, hE1⟩
            exact done h1 hd hS hE1
          | ret e1 s1 =>
            rw [hev] at h1
            refine wp_mono (evC_sound (op_sound P gs ρ base) (fresh_sound P gs ρ) (run_sound hO hs fuel) c hev trivial hG hE0 hW) ?_
            rintro ex a1 w1 ⟨rfl, hd, g1, hS, hE1⟩
            exact done h1 hd hS hE1
          | exit id e1 s1 => rw [hev] at h1; exact absurd (show RC.ok v s' = .bad 122 from h1) (by simp)
          | goto l e1 s1 => rw [hev] at h1; exact absurd (show RC.ok v s' = .bad 123 from h1) (by simp)
          | bad x => rw [hev] at h1; exact absurd (show RC.ok v s' = .bad x from h1) (by simp)
    · injection h1 with h2 h3
      subst h2 h3
      exact ⟨hgood, fun g w xs hG hW hxs => hcalls s' g w xs hG hW hxs⟩
end
end Go.Ev

namespace Go.Ev
set_option linter.unusedVariables false

/-! ## Names of open numbers -/
theorem symLo_mk {tag lo m w : Nat} (ht : tag < 4) (hl : lo < 65536) : symLo (symMk tag lo m w) = lo := by
  show (tag + 4 * lo + 262144 * m + 17179869184 * w) / 4 % 65536 = lo
  omega
theorem symM_mk {tag lo m w : Nat} (ht : tag < 4) (hl : lo < 65536) (hm : m < 65536) : symM (symMk tag lo m w) = m := by
  show (tag + 4 * lo + 262144 * m + 17179869184 * w) / 262144 % 65536 = m
  omega
theorem symW_mk {tag lo m w : Nat} (ht : tag < 4) (hl : lo < 65536) (hm : m < 65536) : symW (symMk tag lo m w) = w := by
  show (tag + 4 * lo + 262144 * m + 17179869184 * w) / 17179869184 = w
  omega
theorem symTag_mk {tag lo m w : Nat} (ht : tag < 4) : symMk tag lo m w % 4 = tag := by
  show (tag + 4 * lo + 262144 * m + 17179869184 * w) % 4 = tag
  omega

/-! ## Values that lead nowhere -/
/-- no pointer; open numbers of the shared ones alone -/
noncomputable def flatV : V → Bool
  | .undef | .bool _ | .int _ _ | .str _ _ | .nilp | .nils | .nilm | .nilf | .nili | .nil => true
  | .sym i => Nat.beq (symW i) 99
  | .opq _ => true
  | .iface _ x => flatV x
  | .agg x => flatV x
  | .tup x => flatV x
  | .cons h t => flatV h && flatV t
  | _ => false

mutual
theorem VR.flat {g g' : G} {ρ ρ' : Rho} (hs : ∀ i, symW i = 99 → ρ'.f i = ρ.f i) (hv : ρ'.v = ρ.v) : ∀ {v : V} {x : Value}, VR g ρ v x → flatV v = true → VR g' ρ' v x
  | _, _, .undef, _ => .undef
  | _, _, .bool b, _ => .bool b
  | _, _, .int k n, _ => .int k n
  | _, _, .str s, _ => .str s
  | _, _, .nilp, _ => .nilp
  | _, _, .ptr h ho, hf => by cases hf
  | _, _, .nils, _ => .nils
  | _, _, .sl h ho hcap hex hlen hfit ha, hf => by cases hf
  | _, _, .nilm, _ => .nilm
  | _, _, .map h, hf => by cases hf
  | _, _, .nilf, _ => .nilf
  | _, _, .fn ha hb, hf => by cases hf
  | _, _, .nili, _ => .nili
  | _, _, .iface h, hf => .iface (VR.flat hs hv h hf)
  | _, _, .agg h hc, hf => .agg (VL.flat hs hv h hf) hc
  | _, _, .tup h, hf => .tup (VL.flat hs hv h hf)
  | _, _, .opq i h, _ => .opq i (by rw [hv]; exact h)
  | _, _, .sym i h, hf => by
    have e := hs i (beq_iff.1 hf)
    rw [← e] at h ⊢
    exact .sym i h
theorem VL.flat {g g' : G} {ρ ρ' : Rho} (hs : ∀ i, symW i = 99 → ρ'.f i = ρ.f i) (hv : ρ'.v = ρ.v) : ∀ {l : V} {xs : List Value}, VL g ρ l xs → flatV l = true → VL g' ρ' l xs
  | _, _, .nil, _ => .nil
  | _, _, .cons h ht, hf => by
    have hf : (flatV _ && flatV _) = true := hf
    rw [Bool.and_eq_true] at hf
    exact .cons (VR.flat hs hv h hf.1) (VL.flat hs hv ht hf.2)
end

theorem flatV_hd {l : V} (h : flatV l = true) : flatV (V.hd l) = true := by
  cases l <;> first | rfl | (simp only [flatV, Bool.and_eq_true] at h; exact h.1)
theorem flatV_tl {l : V} (h : flatV l = true) : flatV (V.tl l) = true := by
  cases l <;> first | rfl | (simp only [flatV, Bool.and_eq_true] at h; exact h.2)
theorem flatV_nth {l : V} (h : flatV l = true) : ∀ n, flatV (V.nth n l) = true
  | 0 => flatV_hd h
  | n + 1 => flatV_nth (flatV_tl h) n
theorem flatV_elem {ch : V} (h : flatV ch = true) (e : Nat) : flatV (V.elem e ch) = true := flatV_nth (flatV_nth h _) _

/-! ## The package-level variables that are known -/
noncomputable def flatVer : Ver → Bool
  | .none => true
  | .more i _ ch rest => Nat.beq i 0 && (flatV ch && flatVer rest)
noncomputable def flatObj : Obj → Bool
  | .cells _ _ ro _ _ vs => ro && flatVer vs
  | _ => false
noncomputable def laidH : List (Nat × Obj) → H4
  | [] => H4.empty
  | (i, x) :: l => H4.put (gkey i) x (laidH l)
/-- of which none stands twice -/
noncomputable def laidOK : List (Nat × Obj) → Bool
  | [] => true
  | (i, x) :: l => Nat.blt i 4096 && (flatObj x && (l.all (fun y => !K.beq (gkey i) (gkey y.1)) && laidOK l))
noncomputable def gsOf (L : List (Nat × Obj)) (i : Nat) : Bool := L.any fun y => Nat.beq y.1 i
noncomputable def famOf (L : List (Nat × Obj)) (k : K) : Option Obj := (L.find? fun y => K.beq (gkey y.1) k).map (·.2)
noncomputable def startOf (L : List (Nat × Obj)) : St := ⟨laidH L, ⟨.x0, .x0, .x0, .x0⟩, 1⟩

theorem laidH_at : ∀ {L : List (Nat × Obj)} {k : K}, H4.at k (laidH L) = (famOf L k).getD .none
  | [], k => H4.at_empty k
  | (i, x) :: l, k => by
    show H4.at k (H4.put (gkey i) x (laidH l)) = _
    rw [H4.at_put, laidH_at (L := l)]
    unfold famOf
    rw [List.find?_cons]
    by_cases h : k = gkey i
    · subst h
      rw [if_pos rfl, (K.beq_iff _ _).2 rfl]
      rfl
    · rw [if_neg h]
      have : K.beq (gkey i) k = false := by
        cases hb : K.beq (gkey i) k with
        | false => rfl
        | true => exact absurd ((K.beq_iff _ _).1 hb).symm h
      simp only [this]

theorem famOf_flat {L : List (Nat × Obj)} (h : laidOK L = true) {k : K} {x : Obj} (hk : famOf L k = some x) : flatObj x = true := by
  induction L with
  | nil => cases hk
  | cons y l ih =>
    obtain ⟨i, z⟩ := y
    simp only [laidOK, Bool.and_eq_true] at h
    unfold famOf at hk
    rw [List.find?_cons] at hk
    cases hb : K.beq (gkey i) k with
    | true =>
      simp only [hb, Option.map_some, Option.some.injEq] at hk
      subst hk
      exact h.2.1
    | false =>
      simp only [hb] at hk
      exact ih h.2.2.2 hk

theorem flatVer_has {v n : Nat} {ch : V} : ∀ {vs : Ver}, flatVer vs = true → Ver.has v n ch vs → v = 0 ∧ flatV ch = true
  | .none, _, h => h.elim
  | .more i m c rest, hf, h => by
    simp only [flatVer, Bool.and_eq_true] at hf
    rcases h with ⟨h1, h2, h3⟩ | h
    · subst h1 h2 h3
      exact ⟨beq_iff.1 hf.1, hf.2.1⟩
    · exact flatVer_has hf.2.2 h

theorem famOf_ro {L : List (Nat × Obj)} (h : laidOK L = true) {k : K} {x : Obj} (hk : famOf L k = some x) : ∃ elem sz a b vs, x = .cells elem sz true a b vs ∧ flatVer vs = true := by
  have := famOf_flat h hk
  cases x with
  | cells elem sz ro a b vs =>
    simp only [flatObj, Bool.and_eq_true] at this
    obtain ⟨h1, h2⟩ := this
    subst h1
    exact ⟨elem, sz, a, b, vs, rfl, h2⟩
  | _ => cases this

theorem gsOf_fam {L : List (Nat × Obj)} {i : Nat} (h : gsOf L i = true) : (famOf L (gkey i)).isSome = true := by
  unfold gsOf at h
  rw [List.any_eq_true] at h
  obtain ⟨y, hy, hi⟩ := h
  have hi := beq_iff.1 hi
  unfold famOf
  rw [Option.isSome_map, List.find?_isSome]
  exact ⟨y, hy, by rw [hi]; exact (K.beq_iff _ _).2 rfl⟩

/-! ## A call from a fresh start -/
section
variable {P : Program} {L0 : List (Nat × Obj)} {ρ ρ0 : Rho} {base : Nat}

/-- the known variables alone, in whatever world -/
noncomputable def gFresh (L0 : List (Nat × Obj)) (g : G) : G := fun f v => if v = 0 ∧ (famOf L0 f).isSome = true then g f v else none

theorem gFresh_le (L0 : List (Nat × Obj)) (g : G) : G.le (gFresh L0 g) g := by
  intro f v L h
  unfold gFresh at h
  split at h
  · exact h
  · cases h

theorem wr_fresh {g : G} {s : St} {w : World} (hL : laidOK L0 = true) (hf : ρ.fam = famOf L0) (hf0 : ρ0.fam = famOf L0) (hs : ∀ i, symW i = 99 → ρ0.f i = ρ.f i) (hsv : ρ0.v = ρ.v) (hW : WR g ρ base s w) :
    WR (gFresh L0 g) ρ0 w.heap.size (startOf L0) w := by
  have hle := gFresh_le L0 g
  refine ⟨?_, ?_, ?_, ?_, Nat.le_refl _, ?_, ?_⟩
  · intro f v hv
    have hv : 1 ≤ v := hv
    unfold gFresh
    rw [if_neg]
    rintro ⟨h, _⟩
    omega
  · intro f v f' v' L L' h h' hb
    exact hW.inj (hle _ _ _ h) (hle _ _ _ h') hb
  · intro f v L h
    exact hW.lt (hle _ _ _ h)
  · intro f v L h
    have hg := hle _ _ _ h
    unfold gFresh at h
    split at h
    · rename_i hc
      obtain ⟨hv, hsome⟩ := hc
      subst hv
      obtain ⟨x, hx⟩ := Option.isSome_iff_exists.1 hsome
      have h0 := hW.obj hg
      rw [(hW.ro (by rw [hf]; exact hx)).1] at h0
      obtain ⟨elem, sz, a, b, vs, rfl, hfl⟩ := famOf_ro hL hx
      show ObjR _ ρ0 _ 0 L w (H4.at f (laidH L0))
      rw [laidH_at, hx]
      obtain ⟨h1, h2, h3, c, fz, h4, h5, h6, h7⟩ := h0
      refine ⟨fun h => (by cases h), h2, h3, c, fz, h4, h5, h6, ?_⟩
      intro n ch hv
      obtain ⟨h8, h9⟩ := h7 n ch hv
      refine ⟨h8, ?_⟩
      intro e he hk
      obtain ⟨k1, xs, k2, k3, k4, k5⟩ := h9 e he hk
      exact ⟨k1, xs, VL.flat hs hsv k2 (flatV_elem (flatVer_has hfl hv).2 e), k3, k4, k5⟩
    · cases h
  · intro f elem sz ro a b vs v n ch hobj hv
    have hobj : H4.at f (laidH L0) = .cells elem sz ro a b vs := hobj
    rw [laidH_at] at hobj
    cases hx : famOf L0 f with
    | none => rw [hx] at hobj; cases hobj
    | some x =>
      rw [hx] at hobj
      have hobj : x = .cells elem sz ro a b vs := hobj
      obtain ⟨elem', sz', a', b', vs', he, hfl⟩ := famOf_ro hL hx
      rw [he] at hobj
      injection hobj with _ _ _ _ _ e6
      subst e6
      rw [(flatVer_has hfl hv).1]
      exact Nat.one_pos
  · intro k x hk
    rw [hf0] at hk
    obtain ⟨elem, sz, a, b, vs, h1, _⟩ := famOf_ro hL hk
    refine ⟨?_, elem, sz, a, b, vs, h1⟩
    show H4.at k (laidH L0) = x
    rw [laidH_at, hk]
    rfl

theorem glob_fresh {g : G} (hG : GlobR (gsOf L0) g) : GlobR (gsOf L0) (gFresh L0 g) := by
  intro i hi
  obtain ⟨csz, h⟩ := hG i hi
  refine ⟨csz, ?_⟩
  unfold gFresh
  rw [if_pos ⟨rfl, gsOf_fam hi⟩]
  exact h

/-- what is known of the old families stays where all old blocks stay -/
theorem step_kept {g g0 : G} {s : St} {w w' : World} (hW : WR g ρ base s w) (hk : Keep g0 w.heap.size w w') : Step g ρ base s w g s w' := by
  have hb : ∀ b, b < w.heap.size → w'.heap[b]? = w.heap[b]? := fun b hb => hk.blk b hb (.inl hb)
  refine ⟨.refl g w, ⟨hk.size, fun b h _ => hb b h, hk.os, hk.output, hk.tape⟩, ⟨hW.fresh, hW.inj, fun h => Nat.lt_of_lt_of_le (hW.lt h) hk.size, ?_, Nat.le_trans hW.base hk.size, hW.ids, hW.ro⟩, Nat.le_refl _, fun _ _ _ h _ => h⟩
  intro f v L h
  exact ObjR.mono (fun _ _ _ h => h) (hb _ (hW.lt h)) (hW.obj h)

/-- a call's answer, reckoned from a fresh start: for whatever stands in memory -/
theorem fresh_call (hL : laidOK L0 = true) (hf : ρ.fam = famOf L0) (hf0 : ρ0.fam = famOf L0) (hs : ∀ i, symW i = 99 → ρ0.f i = ρ.f i) (hsv : ρ0.v = ρ.v) {call : Nat → V → St → RC} (hC : ∀ base, CallSound P (gsOf L0) ρ0 base call)
    {f : Nat} {args ans : V} {s1 : St} (hrun : call f args (startOf L0) = .ok ans s1) (hans : flatV ans = true) {g : G} {s : St} {w : World} {xs : List Value} (hG : GlobR (gsOf L0) g) (hW : WR g ρ base s w)
    (hxs : VL (gFresh L0 g) ρ0 args xs) : GoodFn P f ∧ Calls P f xs.toArray w fun en w' => ∃ x g', en = .returned x ∧ Step g ρ base s w g' s w' ∧ VR g' ρ ans x := by
  obtain ⟨hgood, hcall⟩ := hC w.heap.size f args (startOf L0) ans s1 hrun
  refine ⟨hgood, (hcall (gFresh L0 g) w xs (glob_fresh hG) (wr_fresh hL hf hf0 hs hsv hW) hxs).mono fun en w' h => ?_⟩
  obtain ⟨x, g', he, hstep, hv⟩ := h
  exact ⟨x, g, he, step_kept hW hstep.keep, hv.flat (fun i hi => (hs i hi).symm) hsv.symm hans⟩
end
end Go.Ev

namespace Go.Ev
open Go.RowKit
set_option linter.unusedVariables false

/-! ## Remainders of open numbers -/
noncomputable def RC.isInt (n : Nat) (r : RC) : Bool := match r with
  | .ok (.int k (.ofNat m)) _ => Nat.beq (kcode k) 3 && Nat.beq m n
  | _ => false
theorem isInt_inv {n : Nat} {r : RC} (h : RC.isInt n r = true) : ∃ s, r = .ok (.int .i64 (Int.ofNat n)) s := by
  unfold RC.isInt at h
  split at h
  · rename_i k m s
    rw [Bool.and_eq_true] at h
    have hk : k = .i64 := kcode_inj (show kcode k = kcode .i64 from beq_iff.1 h.1)
    have hm := beq_iff.1 h.2
    subst hk hm
    exact ⟨s, rfl⟩
  · cases h
theorem isTrue_inv {r : RC} (h : RC.isTrue r = true) : ∃ s, r = .ok (.bool true) s := by
  cases r with
  | bad w => cases h
  | ok v s =>
    cases v with
    | bool b =>
      have h : b = true := h
      subst h
      exact ⟨s, rfl⟩
    | _ => cases h

noncomputable def placeArgs (lo m : Nat) : V := .cons (.sym (symMk 2 lo m 0)) (.cons (.int .i64 (Int.ofNat m)) .nil)
/-- does f take remainders by m? -/
noncomputable def placeChk (T : F3) (fuel f : Nat) (s0 : St) (m : Nat) : Bool :=
  Nat.ble 1 m && (Nat.ble m 32767 && (List.range m).all fun j => RC.isInt j (run T .nil fuel f (placeArgs (j + m) m) s0) && (Nat.beq j 0 || RC.isInt j (run T .nil fuel f (placeArgs j m) s0)))

theorem tmod_cases (v : Int) {m : Nat} (hm : 1 ≤ m) {j : Nat} (h : v % (m : Int) = (j : Int)) : j < m ∧ (v.tmod (m : Int) = j ∨ (j ≠ 0 ∧ v.tmod (m : Int) = (j : Int) - m)) := by
  have hpos : (0 : Int) < m := by omega
  have hlt := Int.emod_lt_of_pos v hpos
  have hj : j < m := by omega
  refine ⟨hj, ?_⟩
  rw [Int.tmod_eq_emod]
  split
  · left; rw [h]; simp
  · rename_i hc
    right
    refine ⟨?_, ?_⟩
    · intro h0
      subst h0
      exact hc (.inr (Int.dvd_of_emod_eq_zero h))
    · rw [h]
      simp

section
variable {P : Program} {L0 : List (Nat × Obj)} {ρ : Rho} {base : Nat}

theorem place_ok (hs : P.funcs.size ≤ 4096) (hL : laidOK L0 = true) (hf : ρ.fam = famOf L0) {f fuel m : Nat} (hchk : placeChk (table P (gsOf L0)) fuel f (startOf L0) m = true) {i : Nat} (hi : i % 4 = 3) (him : symM i = m)
    {s : St} {g : G} {w : World} {xs : List Value} (hG : GlobR (gsOf L0) g) (hW : WR g ρ base s w) (hxs : VL g ρ (.cons (.sym i) (.cons (.int .i64 (m : Int)) .nil)) xs) :
    GoodFn P f ∧ Calls P f xs.toArray w fun en w' => ∃ x g', en = .returned x ∧ Step g ρ base s w g' s w' ∧ VR g' ρ (.int .i64 (symLo i : Nat)) x := by
  simp only [placeChk, Bool.and_eq_true] at hchk
  obtain ⟨hm1, hm2, hall⟩ := hchk
  have hm1 : 1 ≤ m := ble_iff.1 hm1
  have hm2 : m ≤ 32767 := ble_iff.1 hm2
  cases hxs with | cons h1 h2 =>
  cases h1 with | sym _ hfact =>
  cases h2 with | cons h3 h4 =>
  cases h3
  cases h4
  obtain ⟨hr, _, _, h3⟩ := hfact
  have h3 := h3 hi
  rw [him] at h3
  obtain ⟨hj, ht⟩ := tmod_cases _ hm1 h3
  rw [List.all_eq_true] at hall
  have hboth := hall (symLo i) (List.mem_range.2 hj)
  rw [Bool.and_eq_true] at hboth
  -- whichever remainder it is
  have key : ∀ (lo : Nat), lo < 65536 → Int.tmod (ρ.f i) (m : Int) = (lo : Int) - m → RC.isInt (symLo i) (run (table P (gsOf L0)) .nil fuel f (placeArgs lo m) (startOf L0)) = true →
      GoodFn P f ∧ Calls P f #[.int .i64 (ρ.f i), .int .i64 (m : Int)] w fun en w' => ∃ x g', en = .returned x ∧ Step g ρ base s w g' s w' ∧ VR g' ρ (.int .i64 (symLo i : Nat)) x := by
    intro lo hlo htm hrun
    obtain ⟨s1, hrun⟩ := isInt_inv hrun
    have hw0 : symW (symMk 2 lo m 0) = 0 := symW_mk (by decide) hlo (by omega)
    refine fresh_call (ρ0 := ⟨fun k => if symW k = 99 then ρ.f k else ρ.f i, famOf L0, ρ.v⟩) hL hf rfl (fun k hk => if_pos hk) rfl (fun base => run_sound (orc := .nil) trivial hs fuel) hrun rfl hG hW (xs := [.int .i64 (ρ.f i), .int .i64 (m : Int)]) ?_
    refine .cons ?_ (.cons (.int _ _) .nil)
    have hfac : SymFact (symMk 2 lo m 0) (ρ.f i) := by
      refine ⟨hr, fun h => ?_, fun _ => ?_, fun h => ?_⟩
      · rw [symTag_mk (by decide)] at h; cases h
      · rw [symM_mk (by decide) hlo (by omega), symLo_mk (by decide) hlo]; exact htm
      · rw [symTag_mk (by decide)] at h; cases h
    have hv : (if symW (symMk 2 lo m 0) = 99 then ρ.f (symMk 2 lo m 0) else ρ.f i) = ρ.f i := by rw [if_neg (by rw [hw0]; decide)]
    have := VR.sym (g := gFresh L0 g) (ρ := ⟨fun k => if symW k = 99 then ρ.f k else ρ.f i, famOf L0, ρ.v⟩) (symMk 2 lo m 0) (by show SymFact _ (if _ then _ else _); rw [hv]; exact hfac)
    have hv' : (Rho.mk (fun k => if symW k = 99 then ρ.f k else ρ.f i) (famOf L0) ρ.v).f (symMk 2 lo m 0) = ρ.f i := hv
    rw [hv'] at this
    exact this
  rcases ht with ht | ⟨hne, ht⟩
  · exact key (symLo i + m) (by omega) (by rw [ht]; omega) hboth.1
  · refine key (symLo i) (by omega) ht ?_
    have h5 := hboth.2
    rw [Bool.or_eq_true] at h5
    rcases h5 with h5 | h5
    · exact absurd (beq_iff.1 h5) hne
    · exact h5

theorem orc_place (hs : P.funcs.size ≤ 4096) (hL : laidOK L0 = true) (hf : ρ.fam = famOf L0) {f fuel : Nat} {ms : List Nat} (hchk : ms.all (placeChk (table P (gsOf L0)) fuel f (startOf L0)) = true) {rest : Orc} (hrest : OrcOK P (gsOf L0) ρ base rest)
    (hgood : GoodFn P f) : OrcOK P (gsOf L0) ρ base (.place f ms rest) := by
  refine ⟨fun i m hm hi him => ⟨hgood, fun s g w xs hG hW hxs => ?_⟩, hrest⟩
  exact (place_ok hs hL hf (List.all_eq_true.1 hchk m hm) hi him hG hW hxs).2

/-- a function without arguments that is known to say true -/
theorem orc_true {o : Orc} (hs : P.funcs.size ≤ 4096) (hL : laidOK L0 = true) (hf : ρ.fam = famOf L0) {f fuel : Nat} (ho : ∀ base, OrcOK P (gsOf L0) ρ base o) (hchk : RC.isTrue (run (table P (gsOf L0)) o fuel f .nil (startOf L0)) = true)
    {rest : Orc} (hrest : OrcOK P (gsOf L0) ρ base rest) : OrcOK P (gsOf L0) ρ base (.more f .nil (.bool true) rest) := by
  obtain ⟨s1, hrun⟩ := isTrue_inv hchk
  have hC : ∀ base, CallSound P (gsOf L0) ρ base (run (table P (gsOf L0)) o fuel) := fun base => run_sound (ho base) hs fuel
  refine ⟨(hC 0 f .nil (startOf L0) _ s1 hrun).1, fun s g w xs hG hW hxs => ?_, hrest⟩
  cases hxs
  exact (fresh_call hL hf hf (fun _ _ => rfl) rfl hC hrun rfl hG hW .nil).2

/-! ## The start -/
noncomputable def cszOf (w : World) (i : Nat) : Nat := match w.heap[i]? with
  | some (.cells c _ _) => c.size
  | _ => 0
noncomputable def gInit (L0 : List (Nat × Obj)) (w : World) : G := fun f v => if v = 0 then (L0.find? fun y => K.beq (gkey y.1) f).map fun y => ⟨y.1, 0, cszOf w y.1⟩ else none
/-- the known variables hold what is said -/
def InitOK (ρ : Rho) (L0 : List (Nat × Obj)) (w : World) : Prop := ∀ i x, (i, x) ∈ L0 → i < w.heap.size ∧ ObjR (fun _ _ => none) ρ w.heap.size 0 ⟨i, 0, cszOf w i⟩ w x

theorem wr_init {w : World} (hL : laidOK L0 = true) (hf : ρ.fam = famOf L0) (hI : InitOK ρ L0 w) : WR (gInit L0 w) ρ w.heap.size (startOf L0) w ∧ GlobR (gsOf L0) (gInit L0 w) := by
  have inv : ∀ {f v L}, gInit L0 w f v = some L → v = 0 ∧ ∃ i x, (i, x) ∈ L0 ∧ gkey i = f ∧ L = ⟨i, 0, cszOf w i⟩ ∧ famOf L0 f = some x := by
    intro f v L h
    unfold gInit at h
    split at h
    · rename_i hv
      obtain ⟨y, h1, h2⟩ := Option.map_eq_some_iff.1 h
      have hy := List.mem_of_find?_eq_some h1
      have hk := List.find?_some h1
      exact ⟨hv, y.1, y.2, hy, (K.beq_iff _ _).1 hk, h2.symm, by unfold famOf; rw [h1]; rfl⟩
    · cases h
  refine ⟨⟨?_, ?_, ?_, ?_, Nat.le_refl _, ?_, ?_⟩, ?_⟩
  · intro f v hv
    have hv : 1 ≤ v := hv
    unfold gInit
    rw [if_neg (by omega)]
  · intro f v f' v' L L' h h' hb
    obtain ⟨_, i, x, _, h2, h3, _⟩ := inv h
    obtain ⟨_, i', x', _, h2', h3', _⟩ := inv h'
    subst h3 h3'
    have hb : i = i' := hb
    subst hb
    exact ⟨h2.symm.trans h2', rfl, rfl⟩
  · intro f v L h
    obtain ⟨_, i, x, h1, _, h3, _⟩ := inv h
    subst h3
    exact (hI i x h1).1
  · intro f v L h
    obtain ⟨hv, i, x, h1, h2, h3, h4⟩ := inv h
    subst hv h3
    show ObjR _ ρ _ 0 _ w (H4.at f (laidH L0))
    rw [laidH_at, h4]
    exact ObjR.mono (fun _ _ _ h => by cases h) rfl (hI i x h1).2
  · intro f elem sz ro a b vs v n ch hobj hv
    have hobj : H4.at f (laidH L0) = .cells elem sz ro a b vs := hobj
    rw [laidH_at] at hobj
    cases hx : famOf L0 f with
    | none => rw [hx] at hobj; cases hobj
    | some x =>
      rw [hx] at hobj
      have hobj : x = .cells elem sz ro a b vs := hobj
      obtain ⟨elem', sz', a', b', vs', he, hfl⟩ := famOf_ro hL hx
      rw [he] at hobj
      injection hobj with _ _ _ _ _ e6
      subst e6
      rw [(flatVer_has hfl hv).1]
      exact Nat.one_pos
  · intro k x hk
    rw [hf] at hk
    obtain ⟨elem, sz, a, b, vs, h1, _⟩ := famOf_ro hL hk
    refine ⟨?_, elem, sz, a, b, vs, h1⟩
    show H4.at k (laidH L0) = x
    rw [laidH_at, hk]
    rfl
  · intro i hi
    have hs := gsOf_fam hi
    unfold famOf at hs
    rw [Option.isSome_map] at hs
    obtain ⟨y, hy⟩ := Option.isSome_iff_exists.1 hs
    have hk : gkey y.1 = gkey i := (K.beq_iff _ _).1 (List.find?_some (p := fun (z : Nat × Obj) => K.beq (gkey z.1) (gkey i)) hy)
    refine ⟨cszOf w y.1, ?_⟩
    unfold gInit
    rw [if_pos rfl, hy]
    have hlt : y.1 < 4096 := by
      have : ∀ {L : List (Nat × Obj)} {y}, laidOK L = true → y ∈ L → y.1 < 4096 := by
        intro L
        induction L with
        | nil => intro y _ h; cases h
        | cons z l ih =>
          intro y h hy
          obtain ⟨i, x⟩ := z
          simp only [laidOK, Bool.and_eq_true] at h
          rcases List.mem_cons.1 hy with rfl | hy
          · exact Nat.le_of_ble_eq_true h.1
          · exact ih h.2.2.2 hy
      exact this hL (List.mem_of_find?_eq_some hy)
    have hilt : i < 4096 := by
      unfold gsOf at hi
      rw [List.any_eq_true] at hi
      obtain ⟨z, hz, hzi⟩ := hi
      have hzi := beq_iff.1 hzi
      have : ∀ {L : List (Nat × Obj)} {y}, laidOK L = true → y ∈ L → y.1 < 4096 := by
        intro L
        induction L with
        | nil => intro y _ h; cases h
        | cons z l ih =>
          intro y h hy
          obtain ⟨i, x⟩ := z
          simp only [laidOK, Bool.and_eq_true] at h
          rcases List.mem_cons.1 hy with rfl | hy
          · exact Nat.le_of_ble_eq_true h.1
          · exact ih h.2.2.2 hy
      rw [← hzi]
      exact this hL hz
    have he : y.1 = i := by
      have h0 : gkey y.1 = gkey i := hk
      have h1 : (gkey y.1).a = (gkey i).a := by rw [h0]
      have h2 : (gkey y.1).b = (gkey i).b := by rw [h0]
      have h3 : (gkey y.1).c = (gkey i).c := by rw [h0]
      have e1 : y.1 % 16 = i % 16 := D.dig_inj (by omega) (by omega) h1
      have e2 : y.1 / 16 % 16 = i / 16 % 16 := D.dig_inj (by omega) (by omega) h2
      have e3 : y.1 / 256 % 16 = i / 256 % 16 := D.dig_inj (by omega) (by omega) h3
      omega
    simp only [Option.map_some, he]

/-! ## A variable of the library's own that holds some number (bytealg.MaxLen) -/
/-- its number: an open one, shared -/
noncomputable def maxSym : Nat := symMk 0 0 0 99
noncomputable def maxObj (t : Nat) : Obj := .cells t 1 true 0 0 (.more 0 1 (V.putElems (.cons (.cons (.sym maxSym) .nil) .nil) 0 .nil) .none)

theorem maxFact {m : Int} (h : -9223372036854775808 ≤ m ∧ m < 9223372036854775808) : SymFact maxSym m := by
  refine ⟨h, fun h => ?_, fun h => ?_, fun h => ?_⟩ <;> (unfold maxSym at h; rw [symTag_mk (by decide)] at h; cases h)

/-- one variable is as it is said to be -/
def InitAt (ρ : Rho) (w : World) (i : Nat) (x : Obj) : Prop := i < w.heap.size ∧ ObjR (fun _ _ => none) ρ w.heap.size 0 ⟨i, 0, cszOf w i⟩ w x
theorem init_nil {w : World} : InitOK ρ [] w := fun _ _ h => by cases h
theorem init_cons {w : World} {i : Nat} {x : Obj} {l : List (Nat × Obj)} (h : InitAt ρ w i x) (hl : InitOK ρ l w) : InitOK ρ ((i, x) :: l) w := by
  intro j y hy
  rcases List.mem_cons.1 hy with he | hy
  · injection he with h1 h2
    subst h1 h2
    exact h
  · exact hl j y hy
/-- a variable of one cell, of which is known what its cell reads as -/
theorem init_cell {w : World} {i t : Nat} {c : V} {x : Value} {cs : Array Value} (hh : w.heap[i]? = some (.cells cs t (0, 0))) (hs : cs.size = 1) (hm : cs[0]? = some x) (hx : VR (fun _ _ => none) ρ c x) (hc : x.oneCell' = true) :
    InitAt ρ w i (.cells t 1 true 0 0 (.more 0 1 (V.putElems (.cons (.cons c .nil) .nil) 0 .nil) .none)) := by
  have hlt : i < w.heap.size := (Array.getElem?_eq_some_iff.1 hh).1
  refine ⟨hlt, fun h => (by cases h), Nat.dvd_zero _, Nat.one_pos, cs, (0, 0), hh, by unfold cszOf; rw [hh], ⟨Nat.le_refl 0, fun i h1 h2 => absurd h2 (Nat.not_lt_zero _)⟩, ?_⟩
  intro n ch hv
  rcases hv with ⟨_, h2, h3⟩ | hv
  · subst h2 h3
    have hc1 : cszOf w i = 1 := by unfold cszOf; rw [hh]; exact hs
    refine ⟨by show 1 ≤ 0 + cszOf w i; omega, ?_⟩
    refine RowR.put (n := 0) (e0 := 0) (RowR.nil') (m := 1) (ys := [x]) ?_ (Nat.zero_le _) (Nat.zero_le _) (by omega) ?_
    · exact ELs.cons (xs := [x]) (ys := []) (.cons hx .nil) rfl (by simpa using hc) .nil
    · intro j hj
      have hj : j < 1 := hj
      obtain rfl : j = 0 := by omega
      exact hm
  · exact hv.elim
theorem init_max {w : World} {gi t : Nat} {m : Int} {cs : Array Value} (hh : w.heap[gi]? = some (.cells cs t (0, 0))) (hs : cs.size = 1) (hm : cs[0]? = some (.int .i64 m)) (hr : -9223372036854775808 ≤ m ∧ m < 9223372036854775808) (hf : ρ.f maxSym = m) :
    InitAt ρ w gi (maxObj t) := by
  refine init_cell hh hs hm ?_ rfl
  have := VR.sym (g := fun _ _ => none) (ρ := ρ) maxSym (by rw [hf]; exact maxFact hr)
  rw [hf] at this
  exact this
/-- a variable whose value is never looked into -/
noncomputable def opqObj (t i : Nat) : Obj := .cells t 1 true 0 0 (.more 0 1 (V.putElems (.cons (.cons (.opq i) .nil) .nil) 0 .nil) .none)
theorem init_opq {w : World} {gi t k u : Nat} {x : Value} {cs : Array Value} (hh : w.heap[gi]? = some (.cells cs t (0, 0))) (hs : cs.size = 1) (hm : cs[0]? = some (.iface u x)) (hv : ρ.v k = .iface u x) : InitAt ρ w gi (opqObj t k) :=
  init_cell hh hs hm (.opq k hv) rfl

/-- the world's shape says that such a variable holds some number -/
theorem shaped_max {w : World} {gi t : Nat} {zero : Array Value} (h : w.ShapedOpen P) (hg : gi < P.globals.size) (h0 : ((begin P (fun _ _ => 0) default).world.heap[gi]?).bind Go.Obj.row? = some (zero, t)) (hz : zero.size = 1)
    (hb : P.buildable t = true) (hc : P.cellTypes P.depth t = some [t]) (hu : P.underlying t = some (.int .i64)) :
    ∃ (cs : Array Value) (m : Int), w.heap[gi]? = some (.cells cs t (0, 0)) ∧ cs.size = 1 ∧ cs[0]? = some (.int .i64 m) ∧ (-9223372036854775808 ≤ m ∧ m < 9223372036854775808) := by
  obtain ⟨cs, hh, hs, hr⟩ := h.1 gi zero t hg h0
  obtain ⟨ts, hts, _, hall⟩ := hr hb
  rw [hc] at hts
  cases hts
  have h1 : 0 < cs.size := by omega
  have hget : cs[0]? = some cs[0] := by simp [h1]
  obtain ⟨u, hu', hok⟩ := hall 0 cs[0] hget
  have : u = t := by simpa using hu'.symm
  subst this
  unfold Cell.ok at hok
  rw [hu] at hok
  cases hv : cs[0] <;> rw [hv] at hok <;> simp at hok
  case int k' n =>
    obtain ⟨rfl, hn⟩ := hok
    refine ⟨cs, n, hh, by omega, by rw [hget, hv], ?_⟩
    have hn : IntKind.i64.min ≤ n ∧ n ≤ IntKind.i64.max := hn
    rw [show IntKind.i64.min = -9223372036854775808 from rfl, show IntKind.i64.max = 9223372036854775807 from rfl] at hn
    omega

theorem trod_iface {w : World} {fuel t : Nat} {cs : List Value} {nm : String} {d : DataW Unit} {p : List MemPlace} {ms : Array (String × TypeId)} (h : DataW.trod (fun _ => ()) P w 0 (fun _ => true) false fuel t cs = some (.iface nm d, p))
    (hu : P.underlying t = some (.interface ms)) : ∃ u x, cs = [.iface u x] := by
  cases fuel with
  | zero => cases h
  | succ n =>
    unfold DataW.trod at h
    rw [hu] at h
    match cs, h with
    | [.nilIface], h => injection h with h; injection h with h _; cases h
    | [.iface u v], _ => exact ⟨_, _, rfl⟩

theorem laidVars_mem {w : World} {n : String} {d : DataW Unit} : ∀ {l : List (String × DataW Unit)} {ps : List MemPlace}, DataW.LaidVars P w l ps → (n, d) ∈ l →
    ∃ g t cs fuel p, P.globalNamed n = some g ∧ (P.globals[g]?).map (·.type) = some t ∧ w.var? P n = some cs ∧ DataW.trod (fun _ => ()) P w 0 (fun _ => true) false fuel t cs.toList = some (d, p)
  | [], _, _, hm => by cases hm
  | (n', d') :: l, ps, h, hm => by
    obtain ⟨g, t, cs, fuel, p, q, h1, h2, h3, h4, h5, _⟩ := h
    rcases List.mem_cons.1 hm with he | hm
    · injection he with e1 e2
      subst e1 e2
      exact ⟨g, t, cs, fuel, p, h1, h2, h3, h4⟩
    · exact laidVars_mem h5 hm

/-- a laid variable of an interface type: its cell holds one value -/
theorem laid_opq {l : List (String × DataW Unit)} {w : World} {n nm : String} {d : DataW Unit} {g t t' : Nat} {ms : Array (String × TypeId)} {zero : Array Value} (h : laidMetH P l w) (hh : (l.filter fun x => x.2.handleName?.isSome) = []) (hmem : (n, .iface nm d) ∈ l)
    (hg : P.globalNamed n = some g) (ht : (P.globals[g]?).map (·.type) = some t) (hu : P.underlying t = some (.interface ms)) (hsh : w.ShapedOpen P) (hlt : g < P.globals.size)
    (h0 : ((begin P (fun _ _ => 0) default).world.heap[g]?).bind Go.Obj.row? = some (zero, t')) :
    ∃ (cs : Array Value) (u : TypeId) (x : Value), w.heap[g]? = some (.cells cs t' (0, 0)) ∧ cs.size = 1 ∧ cs[0]? = some (.iface u x) := by
  unfold laidMetH at h
  rw [hh] at h
  obtain ⟨ps, hl, _⟩ := h
  obtain ⟨g1, t1, cs1, fuel, p, h1, h2, h3, h4⟩ := laidVars_mem hl hmem
  obtain rfl := Option.some.inj (hg.symm.trans h1)
  obtain rfl := Option.some.inj (ht.symm.trans h2)
  obtain ⟨cs, hc, _, _⟩ := hsh.1 g zero t' hlt h0
  have hcs : cs1 = cs := by
    unfold World.var? at h3
    rw [hg, Option.bind_some, hc] at h3
    exact (Option.some.inj h3).symm
  subst hcs
  obtain ⟨u, x, hx⟩ := trod_iface h4 hu
  refine ⟨cs1, u, x, hc, ?_, ?_⟩
  · rw [← Array.length_toList, hx]; rfl
  · rw [← Array.getElem?_toList, hx]; rfl

theorem cell_max {gi t : Nat} {gs : Nat → Bool} {g : G} {s : St} {w : World} (hfam : ρ.fam (gkey gi) = some (maxObj t)) (hgi : gs gi = true) (hG : GlobR gs g) (hW : WR g ρ base s w) : w.cell? ⟨gi, 0, none⟩ = some (.int .i64 (ρ.f maxSym)) := by
  obtain ⟨csz, hg⟩ := hG gi hgi
  have hobj := (hW.ro hfam).1
  obtain ⟨_, _, _, c, fz, hc, hcs, _, hn, hrow⟩ := hW.row hg hobj (v := 0) (n := 1) (.inl ⟨rfl, rfl, rfl⟩)
  have he : V.elem 0 (V.putElems (.cons (.cons (.sym maxSym) .nil) .nil) 0 .nil) = .cons (.sym maxSym) .nil := rfl
  obtain ⟨_, xs, h1, h2, h3, h4⟩ := hrow 0 (Nat.zero_le _) (by rw [he]; intro h; cases h)
  rw [he] at h1
  cases h1 with | cons h5 h6 =>
  cases h6
  cases h5
  rw [cell_of hc]
  exact h4 0 Nat.one_pos

theorem orc_idx {gi t f : Nat} {gs : Nat → Bool} (hgood : GoodFn P f) (hfam : ρ.fam (gkey gi) = some (maxObj t)) (hgi : gs gi = true)
    (hcon : ∀ (s1 s2 : ByteArray) (m : Int) (w : World), s1.size < 4294967281 → w.cell? ⟨gi, 0, none⟩ = some (.int .i64 m) →
      Calls P f #[.string s1, .string s2] w fun en w' => en = .returned (.int .i64 (Lib.index s1.data.toList s2.data.toList)) ∧ w' = w)
    {rest : Orc} (hrest : OrcOK P gs ρ base rest) : OrcOK P gs ρ base (.idx f rest) :=
  ⟨⟨hgood, fun s1 s2 _ h2 s g w hG hW => hcon s1 s2 _ w (by omega) (cell_max hfam hgi hG hW)⟩, hrest⟩

/-- THE LAW's CALL: what the evaluator says of it -/
theorem law_calls (hs : P.funcs.size ≤ 4096) (hL : laidOK L0 = true) (hf : ρ.fam = famOf L0) {w : World} (hI : InitOK ρ L0 w) {orc : Orc} (hO : OrcOK P (gsOf L0) ρ w.heap.size orc) {f fuel : Nat} {args : V} {xs : List Value}
    (hrun : RC.isTrue (run (table P (gsOf L0)) orc fuel f args (startOf L0)) = true) (hxs : VL (gInit L0 w) ρ args xs) :
    Calls P f xs.toArray w fun en w' => en = .returned (.bool true) ∧ Below w.heap.size w w' := by
  obtain ⟨s1, hrun⟩ := isTrue_inv hrun
  obtain ⟨hW, hG⟩ := wr_init hL hf hI
  refine ((run_sound hO hs fuel f args (startOf L0) _ s1 hrun).2 _ w xs hG hW hxs).mono fun en w' h => ?_
  obtain ⟨x, g', he, hstep, hv⟩ := h
  cases hv
  exact ⟨he, hstep.keep.os, hstep.keep.tape, hstep.keep.output, hstep.keep.size, fun k hk => hstep.keep.blk k hk (.inl hk)⟩

/-! ## A law's arguments -/
/-- the w-th argument: of its remainder by m is known that it is j -/
noncomputable def modArg (m w j : Nat) : V := .sym (symMk 3 j m w)
/-- of its last three bits -/
noncomputable def lowArg (w j : Nat) : V := .sym (symMk 1 j 0 w)
/-- of none -/
noncomputable def anyArg (w : Nat) : V := .sym (symMk 0 0 0 w)
/-- the open numbers: the arguments as they are -/
noncomputable def rhoOf (L0 : List (Nat × Obj)) (vs : List Int) (ov : Nat → Value := fun _ => .nilIface) : Rho := ⟨fun i => vs.getD (symW i) 0, famOf L0, ov⟩

theorem vr_mod {L0 : List (Nat × Obj)} {vs : List Int} {ov : Nat → Value} {g : G} {v : Int} {m w : Nat} (hr : -9223372036854775808 ≤ v ∧ v < 9223372036854775808) (hm : 0 < m ∧ m < 65536) (hw : vs.getD w 0 = v) :
    (v % (m : Int)).toNat < m ∧ VR g (rhoOf L0 vs ov) (modArg m w (v % (m : Int)).toNat) (.int .i64 v) := by
  have h0 := Int.emod_nonneg v (show (m : Int) ≠ 0 by omega)
  have h1 := Int.emod_lt_of_pos v (show (0 : Int) < (m : Int) by omega)
  have hlt : (v % (m : Int)).toNat < m := by omega
  refine ⟨hlt, ?_⟩
  have hf : (rhoOf L0 vs ov).f (symMk 3 (v % (m : Int)).toNat m w) = v := by
    show vs.getD (symW _) 0 = v
    rw [symW_mk (by decide) (by omega) (by omega)]
    exact hw
  have := VR.sym (g := g) (ρ := rhoOf L0 vs ov) (symMk 3 (v % (m : Int)).toNat m w) (by
    rw [hf]
    refine ⟨hr, fun h => ?_, fun h => ?_, fun _ => ?_⟩
    · rw [symTag_mk (by decide)] at h; cases h
    · rw [symTag_mk (by decide)] at h; cases h
    · rw [symM_mk (by decide) (by omega) (by omega), symLo_mk (by decide) (by omega)]; omega)
  rw [hf] at this
  exact this

theorem vr_low {L0 : List (Nat × Obj)} {vs : List Int} {ov : Nat → Value} {g : G} {v : Int} {w : Nat} (hr : -9223372036854775808 ≤ v ∧ v < 9223372036854775808) (hw : vs.getD w 0 = v) :
    (v % 8).toNat < 8 ∧ VR g (rhoOf L0 vs ov) (lowArg w (v % 8).toNat) (.int .i64 v) := by
  have h0 := Int.emod_nonneg v (show (8 : Int) ≠ 0 by omega)
  have h1 := Int.emod_lt_of_pos v (show (0 : Int) < 8 by omega)
  have hlt : (v % 8).toNat < 8 := by omega
  refine ⟨hlt, ?_⟩
  have hf : (rhoOf L0 vs ov).f (symMk 1 (v % 8).toNat 0 w) = v := by
    show vs.getD (symW _) 0 = v
    rw [symW_mk (by decide) (by omega) (by omega)]
    exact hw
  have := VR.sym (g := g) (ρ := rhoOf L0 vs ov) (symMk 1 (v % 8).toNat 0 w) (by
    rw [hf]
    refine ⟨hr, fun _ => ?_, fun h => ?_, fun h => ?_⟩
    · rw [symLo_mk (by decide) (by omega)]; omega
    · rw [symTag_mk (by decide)] at h; cases h
    · rw [symTag_mk (by decide)] at h; cases h)
  rw [hf] at this
  exact this

theorem vr_any {L0 : List (Nat × Obj)} {vs : List Int} {ov : Nat → Value} {g : G} {v : Int} {w : Nat} (hr : -9223372036854775808 ≤ v ∧ v < 9223372036854775808) (hw : vs.getD w 0 = v) :
    VR g (rhoOf L0 vs ov) (anyArg w) (.int .i64 v) := by
  have hf : (rhoOf L0 vs ov).f (symMk 0 0 0 w) = v := by
    show vs.getD (symW _) 0 = v
    rw [symW_mk (by decide) (by omega) (by omega)]
    exact hw
  have := VR.sym (g := g) (ρ := rhoOf L0 vs ov) (symMk 0 0 0 w) (by
    rw [hf]
    refine ⟨hr, fun h => ?_, fun h => ?_, fun h => ?_⟩ <;> (rw [symTag_mk (by decide)] at h; cases h))
  rw [hf] at this
  exact this

theorem wf_range {n : Int} (h : (Lit.int .i64 n).wf = true) : -9223372036854775808 ≤ n ∧ n < 9223372036854775808 := by
  have h : (decide (IntKind.i64.min ≤ n) && decide (n ≤ IntKind.i64.max)) = true := h
  rw [Bool.and_eq_true, decide_eq_true_eq, decide_eq_true_eq, show IntKind.i64.min = -9223372036854775808 from rfl, show IntKind.i64.max = 9223372036854775807 from rfl] at h
  omega

theorem all_range {p : Nat → Bool} {m j : Nat} (h : (List.range m).all p = true) (hj : j < m) : p j = true := List.all_eq_true.1 h j (List.mem_range.2 hj)

/-! ## A table's cells, for the witness -/
mutual
def cellsD : DataW Unit → List Value
  | .lit (.int k n) => [.int k n]
  | .lit (.bool b) => [.bool b]
  | .lit (.string b) => [.string ⟨b.toArray⟩]
  | .agg l => cellsDs l
  | _ => []
def cellsDs : List (DataW Unit) → List Value
  | [] => []
  | d :: l => cellsD d ++ cellsDs l
end
/-- of a slice: the cells of its elements; how many elements -/
def rowD : DataW Unit → List Value × Nat
  | .slice l _ => (cellsDs l, l.length)
  | _ => ([], 0)
def putCells (h : Array Go.Obj) (i : Nat) (cs : List Value) : Array Go.Obj := h.modify i fun
  | .cells _ t frozen => .cells cs.toArray t frozen
  | o => o

theorem goodFn_of {f : Nat} (h : (P.funcs[f]?).any (fun fn => fn.body.isSome && fn.name != "runtime.NumGoroutine") = true) : GoodFn P f := by
  cases hf : P.funcs[f]? with
  | none => rw [hf] at h; cases h
  | some fn =>
    rw [hf] at h
    simp only [Option.any_some, Bool.and_eq_true] at h
    refine ⟨fn, hf, fun hb => ?_, by simpa using h.2⟩
    rw [hb] at h
    cases h.1
end
end Go.Ev
