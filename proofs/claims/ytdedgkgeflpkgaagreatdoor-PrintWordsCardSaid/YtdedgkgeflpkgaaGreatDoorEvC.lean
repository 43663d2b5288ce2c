/- A reckoner for the model's code, part three: regions, code, calls, the start; what it reckons true is returned, on every schedule, and nothing that was there turns. Conditions: none. -/
import Derived.Test.YtdedgkgeflpkgaaGreatDoorEvB
import Derived.Orders
import Derived.Scope
import Derived.Below
import GoSem.ClaimJoined
namespace Go.Ev
set_option linter.unusedVariables false

/-! ## Regions, code, calls -/
section
variable {P : Program} {gs : Nat → Bool} {ρ : Rho} {base : Nat}

/-- a function with a body, that the model knows by no other way -/
def GoodFn (P : Program) (f : Nat) : Prop := ∃ fn, P.funcs[f]? = some fn ∧ fn.body ≠ none ∧ fn.name ≠ "runtime.NumGoroutine"

/-- every operation that is compiled does what its evaluation says -/
def OpSound (P : Program) (gs : Nat → Bool) (ρ : Rho) (base : Nat) : Prop :=
  ∀ (nt : Nat) (o : Oper) (iop : IOp), compOp P gs nt o.op = some iop → ∀ (g : G) (e : E2) (s : St) (a : Act) (w : World), GlobR gs g → ER g ρ nt e a → WR g ρ base s w →
    (∀ v s', evOp iop e s = .ok v s' → OpOK P g ρ base s w a o v s') ∧
    (∀ f args s', evOp iop e s = .call f args s' → s' = s ∧ ∃ xs : List Value, VL g ρ args xs ∧ (GoodFn P f → (execOp a.eval o).run P w = .ok (.enter f xs.toArray) w))

/-- calls that the evaluator answers are so -/
def CallSound (P : Program) (gs : Nat → Bool) (ρ : Rho) (base : Nat) (call : Nat → V → St → RC) : Prop :=
  ∀ (f : Nat) (args : V) (s : St) (v : V) (s' : St), call f args s = .ok v s' → GoodFn P f ∧ ∀ (g : G) (w : World) (xs : List Value), GlobR gs g → WR g ρ base s w → VL g ρ args xs →
    Calls P f xs.toArray w fun en w' => ∃ x g', en = .returned x ∧ Step g ρ base s w g' s' w' ∧ VR g' ρ v x

theorem gd_wanted {g : G} {nt : Nat} {e : E2} {a : Act} (hE : ER g ρ nt e a) {ops : Array Oper} {o : Oper} {d : Gd} (hd : compGd ops nt o.guard = some d) :
    Region.wanted o (yielded ops a.tmps) = Gd.ok d e := by
  unfold compGd at hd
  unfold Region.wanted
  cases hg : o.guard with
  | none => rw [hg] at hd; injection hd with hd; subst hd; rfl
  | some jw =>
    obtain ⟨j, want⟩ := jw
    rw [hg] at hd
    dsimp only at hd ⊢
    cases hj : (ops[j]?).bind (·.dst) with
    | none => rw [hj] at hd; cases hd
    | some t =>
      rw [hj] at hd
      dsimp only at hd
      split at hd
      · rename_i ht
        have ht : @LT.lt Nat _ t nt := ht
        injection hd with hd
        subst hd
        have hv := hE.2.2 t ht
        have hsz : t < a.tmps.size := by rw [hE.1]; exact ht
        have hget : a.tmps[t]? = some (a.tmps.getD t undef) := by
          rw [Array.getD_eq_getD_getElem?, Array.getElem?_eq_getElem hsz]; rfl
        unfold yielded
        rw [hj, Option.bind_some, hget]
        rw [Gd.ok_yes]
        generalize a.tmps.getD t undef = x at hv
        generalize E2.at (D.dig (t / 16)) (D.dig (t % 16)) e = y at hv
        cases hv <;> first
          | rfl
          | (rename_i b; cases b <;> cases want <;> rfl)
      · cases hd

theorem evOps_cons (call : Nat → V → St → RC) (op : IOp) (f : E2 → St → RO) (d : Dst) (gd : Gd) (l : OpL) (e : E2) (s : St) :
    evOps call (.cons op f d gd l) e s = Bool.rec (motive := fun _ => R) (evOps call l (d.put .undef e) s)
      (RO.rec (motive := fun _ => R) (fun v s' => evOps call l (d.put v e) s')
        (fun f as s' => RC.rec (motive := fun _ => R) (fun v s'' => evOps call l (d.put v e) s'') (fun w => .bad w) (call f as s')) (fun w => .bad w) (f e s)) (Gd.ok gd e) := rfl

theorem put_defers (a : Act) (d : Option Tmp) (v : Value) : (a.put d v).defers = a.defers := by cases d <;> rfl

theorem evOps_sound (hO : OpSound P gs ρ base) {call : Nat → V → St → RC} (hC : CallSound P gs ρ base call) {ops : Array Oper} {nt : Nat} {Q : Exit → Act → World → Prop} :
    ∀ (os : List Oper) (is : List Nat), is.map (fun i => ops[i]?) = os.map some → ∀ {e e' : E2} {s s' : St} {g : G} {a : Act} {w : World}, evOps call (compOps P gs ops nt os) e s = .norm e' s' → GlobR gs g → ER g ρ nt e a → WR g ρ base s w →
      (∀ a' w' g', Step g ρ base s w g' s' w' → ER g' ρ nt e' a' → a'.defers = a.defers → Q .normal a' w') → wpOps P ops Q is a w
  | [], is, his, e, e', s, s', g, a, w, h, hG, hE, hW, hQ => by
    have : is = [] := by cases is <;> simp at his <;> rfl
    subst this
    have h : R.norm e s = .norm e' s' := h
    injection h with h1 h2
    subst h1 h2
    exact hQ a w g (.refl hW) hE rfl
  | o :: os, is, his, e, e', s, s', g, a, w, h, hG, hE, hW, hQ => by
    cases is with
    | nil => simp at his
    | cons i is =>
      simp only [List.map_cons, List.cons.injEq] at his
      obtain ⟨hi, his⟩ := his
      simp only [compOps] at h
      cases hop : compOp P gs nt o.op with
      | none => simp only [hop] at h; exact absurd (show R.bad _ = .norm e' s' from h) (by simp)
      | some iop =>
        cases hds : compDst nt o.dst with
        | none => simp only [hop, hds] at h; exact absurd (show R.bad _ = .norm e' s' from h) (by simp)
        | some d =>
          cases hgd : compGd ops nt o.guard with
          | none => simp only [hop, hds, hgd] at h; exact absurd (show R.bad _ = .norm e' s' from h) (by simp)
          | some gd =>
            simp only [hop, hds, hgd, runOf_eq] at h
            rw [evOps_cons] at h
            simp only [wpOps, hi, gd_wanted hE hgd]
            cases hb : Gd.ok gd e with
            | false =>
              rw [hb] at h
              have h : evOps call (compOps P gs ops nt os) (d.put .undef e) s = .norm e' s' := h
              simp only [Bool.false_eq_true, if_false]
              exact evOps_sound hO hC os is his h hG (hE.put .undef hds) hW fun a' w' g' h1 h2 h3 => hQ a' w' g' h1 h2 (h3.trans (put_defers _ _ _))
            | true =>
              rw [hb] at h
              simp only [if_true]
              left
              obtain ⟨hok, hcall⟩ := hO nt o iop hop g e s a w hG hE hW
              cases hev : evOp iop e s with
              | bad x => rw [hev] at h; exact absurd (show R.bad x = .norm e' s' from h) (by simp)
              | ok v s1 =>
                rw [hev] at h
                have h : evOps call (compOps P gs ops nt os) (d.put v e) s1 = .norm e' s' := h
                obtain ⟨x, w1, g1, hrun, hstep, hv⟩ := hok v s1 hev
                have hnext := evOps_sound hO hC (Q := Q) os is his h (hG.mono hstep.ext.le) ((hE.mono hstep.ext.le).put hv hds) hstep.wr fun a' w' g' h1 h2 h3 => hQ a' w' g' (hstep.trans h1) h2 (h3.trans (put_defers _ _ _))
                unfold Oper.wp
                rcases hrun with hrun | ⟨hx, hrun⟩
                · rw [hrun]; exact hnext
                · rw [hrun]; subst hx; exact hnext
              | call f args s1 =>
                rw [hev] at h
                obtain ⟨hs1, xs, hxs, hrun⟩ := hcall f args s1 hev
                subst hs1
                have h : RC.rec (motive := fun _ => R) (fun v s'' => evOps call (compOps P gs ops nt os) (d.put v e) s'') (fun w => .bad w) (call f args s1) = .norm e' s' := h
                cases hcl : call f args s1 with
                | bad x => rw [hcl] at h; exact absurd (show R.bad x = .norm e' s' from h) (by simp)
                | ok v s2 =>
                  rw [hcl] at h
                  have h : evOps call (compOps P gs ops nt os) (d.put v e) s2 = .norm e' s' := h
                  have hcalls := (hC f args s1 v s2 hcl).2 g w xs hG hW hxs
                  unfold Oper.wp
                  rw [hrun (hC f args s1 v s2 hcl).1]
                  refine Calls.mono hcalls ?_
                  rintro en w1 ⟨x, g1, rfl, hstep, hv⟩
                  exact evOps_sound hO hC (Q := Q) os is his h (hG.mono hstep.ext.le) ((hE.mono hstep.ext.le).put hv hds) hstep.wr fun a' w' g' h1 h2 h3 => hQ a' w' g' (hstep.trans h1) h2 (h3.trans (put_defers _ _ _))

end
end Go.Ev

namespace Go.Ev
set_option linter.unusedVariables false

/-! ## Rows that are made at any time -/
def Fresh (P : Program) (g : G) (ρ : Rho) (a : Act) (o : Oper) (v : V) (s s' : St) : Prop :=
  ∃ (elem sz n : Nat) (ch : V) (c : Array Value) (mk : K → Nat → V) (X : Nat → Value), s.h.at s.nk = .none ∧
    s' = ⟨H4.put s.nk (.cells elem sz false 0 0 (.more s.nx n ch .none)) s.h, K.succ s.nk, s.nx + 1⟩ ∧ v = mk s.nk s.nx ∧ 0 < sz ∧ n ≤ c.size ∧ RowR g ρ sz 0 n ch c ∧
    (∀ w, (execOp a.eval o).run P w = .ok (.value (X w.heap.size)) (w.alloc (.cells c elem))) ∧
    ∀ (g' : G) k ver b, g' k ver = some ⟨b, 0, c.size⟩ → VR g' ρ (mk k ver) (X b)

section
variable {P : Program} {gs : Nat → Bool} {g : G} {ρ : Rho} {base nt : Nat} {e : E2} {s s' : St} {a : Act} {w : World} {o : Oper}
variable (hG : GlobR gs g) (hE : ER g ρ nt e a)
include hG hE

theorem op_newF {t : TypeId} {n : Nat} {z : Value} {zc v : V} (ho : o.op = .alloc t) (hn : sizeT P t = some (n + 1)) (hz : (P.info? t).bind (·.zero) = some z) (hzc : ofCells z.cells.toList = some zc)
    (hlen : V.lenIs (n + 1) zc = true) (h : evOp (.new t (n + 1) zc) e s = .ok v s') : Fresh P g ρ a o v s s' := by
  have _ := hG
  have _ := hE
  have h : alloc t (n + 1) (n + 1) (.cons (.cons zc .nil) .nil) s (fun f v s' => .ok (.ptr f v 0) s') = .ok v s' := h
  obtain ⟨hnone, h⟩ := alloc_inv h trivial
  injection h with h1 h2
  subst h1 h2
  obtain ⟨hv, hc⟩ := ofCells_VL (g := g) (ρ := ρ) hzc
  have hl := hv.lenIs hlen
  refine ⟨t, n + 1, n + 1, .cons (.cons zc .nil) .nil, z.cells, fun k v => .ptr k v 0, fun b => .pointer (some ⟨b, 0, none⟩), hnone, rfl, rfl, Nat.succ_pos n, by rw [← hl]; simp, ?_, ?_, ?_⟩
  · have := RowR.single hv hl hc
    simpa using this
  · intro w
    simp [execOp, ho, Instr.alloc, run_zero hz, newVar, newRow]
  · intro g' k ver b hg
    exact .ptr (L := ⟨b, 0, _⟩) hg (Nat.le_refl 0)

theorem op_mkSlF {t el : TypeId} {es len : Nat} {z : Value} {zc : V} {parts : Array (Nat × Operand)} {ps : PartL} {v : V} (ho : o.op = .buildSlice t len parts) (ht : P.underlying t = some (.slice el))
    (hn : sizeT P el = some (es + 1)) (hz : (P.info? el).bind (·.zero) = some z) (hzc : ofCells z.cells.toList = some zc) (hzl : V.lenIs (es + 1) zc = true) (hfit : ¬ len * (es + 1) > 2 ^ 24)
    (hps : compParts P gs nt (fun i => some (i, es + 1)) parts.toList = some ps)
    (h : evOp (.mkSl el (es + 1) len zc ps) e s = .ok v s') : Fresh P g ρ a o v s s' := by
  obtain ⟨hv, hc⟩ := ofCells_VL (g := g) (ρ := ρ) hzc
  have hl := hv.lenIs hzl
  have hrow0 : RowR g ρ (es + 1) 0 (len * (es + 1)) (V.putElems (V.rep len zc) 0 .nil) ((Array.range (len * (es + 1))).map fun i => z.cells.toList.toArray[i % (es + 1)]!) :=
    RowR.zeros hv hc hl len _ fun e r he hr => zeros_get hl (Nat.succ_pos _) he hr
  obtain ⟨z', c', g1, g2, g3, g4⟩ := fillElems_sound (P := P) (es := es + 1) hG hE (Nat.succ_pos es) (r := .ok v s') trivial hps hrow0 (by simp)
    (show fillElems ps (es + 1) len e (V.putElems (V.rep len zc) 0 .nil) (fun ch => alloc el (es + 1) (Nat.mul len (es + 1)) ch s fun f v s' => .ok (.sl f v 0 len len true (es + 1)) s') = .ok v s' from h)
  obtain ⟨hnone, h1⟩ := alloc_inv g4 trivial
  injection h1 with h2 h3
  subst h2 h3
  refine ⟨el, es + 1, len * (es + 1), z', c', fun k v => .sl k v 0 len len true (es + 1), fun b => .slice (some ⟨b, 0, none⟩) len len, hnone, rfl, rfl, Nat.succ_pos es, by omega, g1, ?_, ?_⟩
  · intro w
    have hzs : z.cells.size = es + 1 := by rw [← hl]; simp
    have hcells : ((Array.range (len * (es + 1))).map fun i => (if len * (es + 1) = 0 then #[] else z.cells)[i % (if len * (es + 1) = 0 then (#[] : Array Value) else z.cells).size]!) = (Array.range (len * (es + 1))).map fun i => z.cells.toList.toArray[i % (es + 1)]! := by
      by_cases h0 : len * (es + 1) = 0
      · rw [h0]; simp
      · simp only [if_neg h0, hzs]
    have hfill : Instr.fill (fun i => some (i * (es + 1), es + 1)) ((Array.range (len * (es + 1))).map fun i => (if len * (es + 1) = 0 then #[] else z.cells)[i % (if len * (es + 1) = 0 then (#[] : Array Value) else z.cells).size]!) (parts.map fun x => (x.1, a.eval x.2)).toList = some c' := by
      rw [hcells, Array.toList_map]
      exact g3
    have hb : (Instr.buildSlice t len (parts.map fun (i, x) => (i, a.eval x))).run P w = .ok (.slice (some ⟨w.heap.size, 0, none⟩) len len) (w.alloc (.cells c' el)) := by
      simp only [Instr.buildSlice, Sem.run_bind, run_und ht, Result.andThen_ok, run_sizeOf hn, Sem.run_ite, if_neg hfit, Sem.run_pure, run_zero hz]
      by_cases h0 : len * (es + 1) = 0
      · simp only [if_pos h0] at hfill ⊢
        rw [hfill]
        simp [newRow]
      · simp only [if_neg h0] at hfill ⊢
        rw [hfill]
        simp [newRow]
    simp [execOp, ho, hb]
  · intro g' k ver b hg
    exact .sl (L := ⟨b, 0, c'.size⟩) hg (Nat.le_refl 0) (Nat.le_refl _) (fun _ => rfl) (Nat.le_refl _) (by simp only [g2]; omega) (.inr rfl)
end

/-- a row that lies ahead in the evaluator's memory, and nowhere in the real one -/
theorem WR.ahead {g : G} {ρ : Rho} {base : Nat} {s : St} {w : World} (hW : WR g ρ base s w) (hnone : s.h.at s.nk = .none) (ob : Obj) (nk' : K)
    (hids : ∀ {elem sz ro a b vs v n ch}, ob = .cells elem sz ro a b vs → Ver.has v n ch vs → v = s.nx) :
    WR g ρ base ⟨H4.put s.nk ob s.h, nk', s.nx + 1⟩ w := by
  refine ⟨fun f v h => hW.fresh f v (Nat.le_of_succ_le h), hW.inj, hW.lt, ?_, hW.base, ?_, hW.ro_put (by rw [hnone]; intro _ _ _ _ _ h; cases h)⟩
  · intro f v L hg
    have ho := hW.obj hg
    have hne : f ≠ s.nk := fun h => by rw [h, hnone] at ho; exact ho
    show ObjR g ρ base v L w (H4.at f (H4.put s.nk ob s.h))
    rw [H4.at_put, if_neg hne]
    exact ho
  · intro f elem sz ro a b vs v n ch he hv
    have he : H4.at f (H4.put s.nk ob s.h) = .cells elem sz ro a b vs := he
    rw [H4.at_put] at he
    split at he
    · show v < s.nx + 1
      rw [hids he hv]
      exact Nat.lt_succ_self _
    · exact Nat.lt_succ_of_lt (hW.ids he hv)

/-- it is made -/
theorem Step.adopt {g0 g : G} {ρ : Rho} {base : Nat} {s0 s : St} {w0 w : World} (hS : Step g0 ρ base s0 w0 g s w) {k : K} {v : Nat} {elem sz n : Nat} {ch : V} (hob : s.h.at k = .cells elem sz false 0 0 (.more v n ch .none))
    (hg : g k v = none) (hv : s0.nx ≤ v) {c : Array Value} (hz : 0 < sz) (hn : n ≤ c.size) (hrow : RowR g ρ sz 0 n ch c) :
    Step g0 ρ base s0 w0 (G.add g k v ⟨w.heap.size, 0, c.size⟩) s (w.alloc (.cells c elem)) ∧ G.le g (G.add g k v ⟨w.heap.size, 0, c.size⟩) := by
  have hW := hS.wr
  have hle := G.le_add (L := ⟨w.heap.size, 0, c.size⟩) hg
  have hinv : ∀ {f v' L}, G.add g k v ⟨w.heap.size, 0, c.size⟩ f v' = some L → (f = k ∧ v' = v ∧ L = ⟨w.heap.size, 0, c.size⟩) ∨ g f v' = some L := by
    intro f v' L h
    unfold G.add at h
    by_cases he : f = k ∧ v' = v
    · rw [if_pos he] at h
      injection h with h
      exact .inl ⟨he.1, he.2, h.symm⟩
    · rw [if_neg he] at h
      exact .inr h
  have hold : ∀ b, b < w.heap.size → (w.alloc (.cells c elem)).heap[b]? = w.heap[b]? := by
    intro b hb
    simp only [World.alloc, Array.getElem?_push, if_neg (Nat.ne_of_lt hb)]
  have hsz : (w.alloc (.cells c elem)).heap.size = w.heap.size + 1 := by simp
  have hvlt : v < s.nx := hW.ids hob (.inl ⟨rfl, rfl, rfl⟩)
  refine ⟨⟨⟨fun f v' L h => hle _ _ _ (hS.ext.le _ _ _ h), ?_⟩, ⟨Nat.le_trans hS.keep.size (by rw [hsz]; omega), ?_, hS.keep.os, hS.keep.output, hS.keep.tape⟩, ⟨?_, ?_, ?_, ?_, Nat.le_trans hW.base (by rw [hsz]; omega), hW.ids, hW.ro⟩, hS.nx, ?_⟩, hle⟩
  · intro f v' L h hlt
    rcases hinv h with ⟨_, _, rfl⟩ | h
    · exact absurd hlt (Nat.not_lt.2 hS.keep.size)
    · exact hS.ext.new f v' L h hlt
  · intro b hb hor
    rw [hold b (Nat.lt_of_lt_of_le hb hS.keep.size)]
    exact hS.keep.blk b hb hor
  · intro f v' h
    unfold G.add
    rw [if_neg (by rintro ⟨_, rfl⟩; omega)]
    exact hW.fresh f v' h
  · intro f v1 f' v1' L L' h h' hb
    rcases hinv h with ⟨e1, _, e3⟩ | h1
    · rcases hinv h' with ⟨f1, _, f3⟩ | h1'
      · rw [e1, f1, e3, f3]; exact ⟨rfl, rfl, rfl⟩
      · exact absurd (hW.lt h1') (by rw [← hb, e3]; exact Nat.lt_irrefl _)
    · rcases hinv h' with ⟨_, _, f3⟩ | h1'
      · exact absurd (hW.lt h1) (by rw [hb, f3]; exact Nat.lt_irrefl _)
      · exact hW.inj h1 h1' hb
  · intro f v' L h
    rw [hsz]
    rcases hinv h with ⟨_, _, rfl⟩ | h1
    · exact Nat.lt_succ_self _
    · exact Nat.lt_succ_of_lt (hW.lt h1)
  · intro f v' L h
    rcases hinv h with ⟨rfl, rfl, rfl⟩ | h
    · rw [hob]
      refine ⟨fun _ => hW.base, Nat.dvd_zero _, hz, c, (0, 0), by simp only [World.alloc, Array.getElem?_push_size], rfl, ⟨Nat.le_refl 0, fun i h1 h2 => absurd h2 (Nat.not_lt_zero _)⟩, ?_⟩
      intro n' ch' hv
      rcases hv with ⟨_, h2, h3⟩ | hv
      · subst h2 h3
        exact ⟨by simpa using hn, hrow.mono hle⟩
      · exact hv.elim
    · exact (hW.obj h).mono hle (hold _ (hW.lt h))
  · intro f v' L h hlt
    rcases hinv h with ⟨_, rfl, _⟩ | h
    · omega
    · exact hS.old f v' L h hlt
end Go.Ev

namespace Go.Ev
set_option linter.unusedVariables false


/-- what is said of a region whose order is drawn: who is ahead of whom, what each operation yields, in which states it may be met -/
structure DD where
  B : Nat → List Nat
  cls : Nat → Nat
  val : Nat → V
  env : Nat → E2
  node : Nat → Bool
  has : Nat → Nat → Bool
  T : Nat → St
  key : Nat → K
  ver : Nat → Nat

def DD.compat (D : DD) (n i : Nat) : Prop :=
  (∀ j ∈ D.B i, D.cls j = 1 → D.has n j = true) ∧ (∀ j, D.cls j = 1 → i ∈ D.B j → D.has n j = false) ∧ (D.cls i = 1 → D.has n i = false)

def FreshSound (P : Program) (gs : Nat → Bool) (ρ : Rho) : Prop :=
  ∀ (nt : Nat) (o : Oper) (iop : IOp), compOp P gs nt o.op = some iop → isFresh iop = true → ∀ (g : G) (e : E2) (s s' : St) (a : Act) (v : V), GlobR gs g → ER g ρ nt e a →
    evOp iop e s = .ok v s' → Fresh P g ρ a o v s s'

def Sub (ρ : Rho) (base : Nat) (s s' : St) : Prop := s.nx ≤ s'.nx ∧ ∀ g w, WR g ρ base s w → WR g ρ base s' w
theorem Sub.refl (ρ : Rho) (base : Nat) (s : St) : Sub ρ base s s := ⟨Nat.le_refl _, fun _ _ h => h⟩
theorem Sub.trans {ρ : Rho} {base : Nat} {s s1 s2 : St} (h : Sub ρ base s s1) (h1 : Sub ρ base s1 s2) : Sub ρ base s s2 :=
  ⟨Nat.le_trans h.1 h1.1, fun g w hw => h1.2 g w (h.2 g w hw)⟩
theorem Step.sub {g g' : G} {ρ : Rho} {base : Nat} {s s1 s2 : St} {w w' : World} (h : Step g ρ base s w g' s1 w') (hs : Sub ρ base s1 s2) : Step g ρ base s w g' s2 w' :=
  ⟨h.ext, h.keep, hs.2 _ _ h.wr, Nat.le_trans h.nx hs.1, h.old⟩

section
variable {P : Program} {gs : Nat → Bool} {ρ : Rho} {base nt : Nat} {ops : Array Oper} {call : Nat → V → St → RC} {e0 efin : E2} {s0 sfin : St} {D : DD}

structure DrawOK (P : Program) (gs : Nat → Bool) (ρ : Rho) (base nt : Nat) (ops : Array Oper) (call : Nat → V → St → RC) (e0 : E2) (s0 : St) (efin : E2) (sfin : St) (D : DD) : Prop where
  anc : ∀ (i : Nat) (o : Oper), ops[i]? = some o → ∀ x ∈ D.B i, ∃ e ∈ o.after, Region.binds .any e = true ∧ (x = e.on ∨ x ∈ D.B e.on)
  out : ∀ j, ops.size ≤ j → D.cls j ≠ 1
  dst1 : ∀ (i j : Nat) (oi oj : Oper) (t : Nat), ops[i]? = some oi → ops[j]? = some oj → oi.dst = some t → oj.dst = some t → i = j
  look : ∀ (i : Nat) (o : Oper), ops[i]? = some o → ∀ t, t < nt → t ∈ o.looksAt ops →
    (∃ (j : Nat) (oj : Oper), ops[j]? = some oj ∧ oj.dst = some t ∧ j ∈ D.B i ∧ E2.rd t (D.env i) = D.val j) ∨ ((∀ (j : Nat) (oj : Oper), ops[j]? = some oj → oj.dst = some t → i ∈ D.B j) ∧ E2.rd t (D.env i) = E2.rd t e0)
  nolook : ∀ (i : Nat) (o : Oper), ops[i]? = some o → ∀ t, t < nt → t ∉ o.looksAt ops → E2.rd t (D.env i) = E2.rd t e0
  keys : ∀ i j, i < ops.size → j < ops.size → D.cls i = 2 → D.cls j = 2 → D.key i = D.key j → i = j
  vers : ∀ i n, i < ops.size → D.cls i = 2 → D.node n = true → D.ver i < (D.T n).nx
  vers0 : ∀ i, i < ops.size → D.cls i = 2 → s0.nx ≤ D.ver i
  node0 : D.node 0 = true ∧ (∀ j, D.cls j = 1 → D.has 0 j = false) ∧ Sub ρ base s0 (D.T 0)
  op : ∀ (i : Nat) (o : Oper), ops[i]? = some o → ∃ iop d gd, compOp P gs nt o.op = some iop ∧ compDst nt o.dst = some d ∧ compGd ops nt o.guard = some gd ∧ ∀ n, D.node n = true → D.compat n i →
    (D.cls i = 0 ∧ Gd.ok gd (D.env i) = false ∧ D.val i = .undef) ∨
    (D.cls i = 0 ∧ Gd.ok gd (D.env i) = true ∧ evOp iop (D.env i) (D.T n) = .ok (D.val i) (D.T n)) ∨
    (D.cls i = 1 ∧ ∃ n' s', D.node n' = true ∧ (∀ j, D.has n' j = (D.has n j || j == i)) ∧ Sub ρ base s' (D.T n') ∧
      ((Gd.ok gd (D.env i) = false ∧ D.val i = .undef ∧ s' = D.T n) ∨ (Gd.ok gd (D.env i) = true ∧ evOp iop (D.env i) (D.T n) = .ok (D.val i) s') ∨
        (Gd.ok gd (D.env i) = true ∧ ∃ f as s1, evOp iop (D.env i) (D.T n) = .call f as s1 ∧ call f as s1 = .ok (D.val i) s'))) ∨
    (D.cls i = 2 ∧ Gd.ok gd (D.env i) = true ∧ isFresh iop = true ∧ ∃ sA sA', evOp iop (D.env i) sA = .ok (D.val i) sA' ∧ sA.nk = D.key i ∧ sA.nx = D.ver i ∧
      (D.T n).h.at (D.key i) = sA'.h.at (D.key i))
  fin : ∀ n, D.node n = true → (∀ i, i < ops.size → D.cls i = 1 → D.has n i = true) → Sub ρ base (D.T n) sfin
  efin1 : ∀ t, t < nt → ∀ (i : Nat) (o : Oper), ops[i]? = some o → o.dst = some t → E2.rd t efin = D.val i
  efin0 : ∀ t, t < nt → (∀ (i : Nat) (o : Oper), ops[i]? = some o → o.dst ≠ some t) → E2.rd t efin = E2.rd t e0

/-- where a run of the region stands -/
structure DInv (gs : Nat → Bool) (ρ : Rho) (base nt : Nat) (ops : Array Oper) (D : DD) (e0 : E2) (s0 : St) (g0 : G) (w0 : World) (dfs : List Deferred) (n : Nat) (g : G) (L : Array Bool) (a : Act) (w : World) : Prop where
  node : D.node n = true
  size : L.size = ops.size
  closed : ∀ (i : Nat) (o : Oper), ops[i]? = some o → L.getD i false = true → ∀ x ∈ D.B i, L.getD x false = true
  eff : ∀ i, i < ops.size → D.cls i = 1 → L.getD i false = D.has n i
  step : Step g0 ρ base s0 w0 g (D.T n) w
  defers : a.defers = dfs
  tsize : a.tmps.size = nt
  wrote : ∀ (i : Nat) (o : Oper) (t : Nat), ops[i]? = some o → L.getD i false = true → o.dst = some t → t < nt → VR g ρ (D.val i) (a.tmps.getD t undef)
  kept : ∀ t, t < nt → (∀ (i : Nat) (o : Oper), ops[i]? = some o → L.getD i false = true → o.dst ≠ some t) → VR g ρ (E2.rd t e0) (a.tmps.getD t undef)
  away : ∀ i, i < ops.size → D.cls i = 2 → L.getD i false = false → g (D.key i) (D.ver i) = none

theorem binds_any {e : Edge} (md : Region.Mode) (h : Region.binds .any e = true) : Region.binds md e = true := by
  unfold Region.binds at h ⊢
  cases he : e.ground <;> simp [he] at h ⊢

theorem set_getD (L : Array Bool) (i j : Nat) (hi : i < L.size) : (L.setIfInBounds i true).getD j false = (L.getD j false || j == i) := by
  by_cases h : i = j
  · subst h
    simp [hi]
  · have h' : (j == i) = false := by simpa using Ne.symm h
    rw [h', Bool.or_false]
    simp [Array.getElem?_setIfInBounds_ne h]

variable {g0 g : G} {w0 w : World} {dfs : List Deferred} {n i : Nat} {L : Array Bool} {a : Act} {o : Oper}

theorem DInv.put (hK : DrawOK P gs ρ base nt ops call e0 s0 efin sfin D) (hI : DInv gs ρ base nt ops D e0 s0 g0 w0 dfs n g L a w) (ho : ops[i]? = some o) (hun : L.getD i false = false) (hB : ∀ x ∈ D.B i, L.getD x false = true)
    {g' : G} {n' : Nat} {w' : World} {x : Value} (hn : D.node n' = true) (hle : G.le g g') (hS : Step g0 ρ base s0 w0 g' (D.T n') w') (hhas : ∀ j, j < ops.size → D.cls j = 1 → D.has n' j = (D.has n j || j == i))
    (hx : VR g' ρ (D.val i) x) (haway : ∀ j, j < ops.size → D.cls j = 2 → L.getD j false = false → j ≠ i → g' (D.key j) (D.ver j) = none) :
    DInv gs ρ base nt ops D e0 s0 g0 w0 dfs n' g' (L.setIfInBounds i true) (a.put o.dst x) w' := by
  have hilt : i < ops.size := (Array.getElem?_eq_some_iff.1 ho).1
  have hset : ∀ j, (L.setIfInBounds i true).getD j false = (L.getD j false || j == i) := fun j => set_getD L i j (by rw [hI.size]; exact hilt)
  refine ⟨hn, by simpa using hI.size, ?_, ?_, hS, (put_defers _ _ _).trans hI.defers, ?_, ?_, ?_, ?_⟩
  · intro j oj hj hl y hy
    rw [hset] at hl ⊢
    by_cases hji : j = i
    · subst hji
      rw [hB y hy]; rfl
    · have hji' : (j == i) = false := by simpa using hji
      rw [hji', Bool.or_false] at hl
      rw [hI.closed j oj hj hl y hy]; rfl
  · intro j hj hc
    rw [hset, hhas j hj hc, hI.eff j hj hc]
  · rw [show (a.put o.dst x).tmps.size = a.tmps.size by unfold Act.put; cases o.dst <;> simp]; exact hI.tsize
  · intro j oj t hj hl hd ht
    rw [hset] at hl
    by_cases hji : j = i
    · subst hji
      rw [ho] at hj
      injection hj with hj
      subst hj
      rw [hd]
      simp only [Act.put]
      rw [Array.getD_eq_getD_getElem?, Array.getElem?_setIfInBounds_self_of_lt (by rw [hI.tsize]; exact ht)]
      exact hx
    · have hji' : (j == i) = false := by simpa using hji
      rw [hji', Bool.or_false] at hl
      have := (hI.wrote j oj t hj hl hd ht).mono hle
      cases hdo : o.dst with
      | none => exact this
      | some u =>
        have hne : u ≠ t := fun he => hji (hK.dst1 j i oj o t hj ho hd (he ▸ hdo))
        simp only [Act.put]
        rw [Array.getD_eq_getD_getElem?, Array.getElem?_setIfInBounds_ne hne, ← Array.getD_eq_getD_getElem?]
        exact this
  · intro t ht hno
    have h1 : o.dst ≠ some t := hno i o ho (by rw [hset]; simp)
    have := (hI.kept t ht fun j oj hj hl => hno j oj hj (by rw [hset, hl]; rfl)).mono hle
    cases hdo : o.dst with
    | none => exact this
    | some u =>
      have hne : u ≠ t := fun he => h1 (he ▸ hdo)
      simp only [Act.put]
      rw [Array.getD_eq_getD_getElem?, Array.getElem?_setIfInBounds_ne hne, ← Array.getD_eq_getD_getElem?]
      exact this
  · intro j hj hc hl
    rw [hset, Bool.or_eq_false_iff] at hl
    exact haway j hj hc hl.1 (by simpa using hl.2)

theorem compOp_noselect {nt : Nat} {iop : IOp} (h : compOp P gs nt o.op = some iop) (cs : Array SelectCase) (b : Bool) : o.op ≠ .select cs b := by
  intro he
  rw [he] at h
  cases h

theorem draw_op (hO : OpSound P gs ρ base) (hF : FreshSound P gs ρ) (hC : CallSound P gs ρ base call) (hK : DrawOK P gs ρ base nt ops call e0 s0 efin sfin D) {a0 : Act} (hE0 : ER g0 ρ nt e0 a0) (hG0 : GlobR gs g0)
    {md : Region.Mode} {Q : Exit → Act → World → Prop} (hI : DInv gs ρ base nt ops D e0 s0 g0 w0 dfs n g L a w) (hi : i ∈ Region.ready md ops L) {K : Act → World → Prop}
    (hk : ∀ n' g' a' w', DInv gs ρ base nt ops D e0 s0 g0 w0 dfs n' g' (L.setIfInBounds i true) a' w' → K a' w') : wpOp P ops Q i K a w := by
  obtain ⟨hun', o, ho, hall⟩ := mem_ready.1 hi
  have hilt : i < ops.size := (Array.getElem?_eq_some_iff.1 ho).1
  have hun : L.getD i false = false := by
    have : i < L.size := by rw [hI.size]; exact hilt
    simp [this] at hun' ⊢
    exact hun'
  have hlt : ∀ {x}, L.getD x false = true → x < ops.size := by
    intro x hx
    rw [← hI.size]
    rcases Nat.lt_or_ge x L.size with h | h
    · exact h
    · simp [Array.getElem?_eq_none h] at hx
  have hB : ∀ x ∈ D.B i, L.getD x false = true := by
    intro x hx
    obtain ⟨e, he, hb, hor⟩ := hK.anc i o ho x hx
    have hl := hall e he (binds_any md hb)
    rcases hor with rfl | hx'
    · exact hl
    · have := hlt hl
      exact hI.closed e.on _ (Array.getElem?_eq_getElem this) hl x hx'
  have hcompat : D.compat n i := by
    refine ⟨fun j hj hc => ?_, fun j hc hj => ?_, fun hc => ?_⟩
    · rw [← hI.eff j (hlt (hB j hj)) hc]; exact hB j hj
    · rcases Nat.lt_or_ge j ops.size with hjl | hjl
      · rw [← hI.eff j hjl hc]
        cases hl : L.getD j false with
        | false => rfl
        | true =>
          have := hI.closed j _ (Array.getElem?_eq_getElem hjl) hl i hj
          rw [hun] at this
          cases this
      · exact absurd hc (hK.out j hjl)
    · rw [← hI.eff i hilt hc]; exact hun
  obtain ⟨iop, d, gd, hop, hds, hgd, hcase⟩ := hK.op i o ho
  have hcase := hcase n hI.node hcompat
  have hG : GlobR gs g := hG0.mono hI.step.ext.le
  -- the activation with the temporaries that are looked at
  let tm : Nat → Value := fun t => if t ∈ o.looksAt ops then a.tmps.getD t undef else a0.tmps.getD t undef
  let a' : Act := { a with tmps := (Array.range nt).map tm }
  have ha'get : ∀ t, t < nt → a'.tmps.getD t undef = tm t := by
    intro t ht
    show ((Array.range nt).map tm).getD t undef = _
    rw [Array.getD_eq_getD_getElem?, Array.getElem?_map, Array.getElem?_range, if_pos ht]
    rfl
  have hget : ∀ t, t ∈ o.looksAt ops → a'.tmps.getD t undef = a.tmps.getD t undef := by
    intro t ht
    by_cases hlt' : t < nt
    · rw [ha'get t hlt']
      show (if t ∈ o.looksAt ops then _ else _) = _
      rw [if_pos ht]
    · have hlt' : nt ≤ t := Nat.le_of_not_lt hlt'
      have h1 : a'.tmps[t]? = none := Array.getElem?_eq_none (by show ((Array.range nt).map tm).size ≤ t; simpa using hlt')
      have h2 : a.tmps[t]? = none := Array.getElem?_eq_none (by rw [hI.tsize]; exact hlt')
      rw [Array.getD_eq_getD_getElem?, Array.getD_eq_getD_getElem?, h1, h2]
  have hE' : ER g ρ nt (D.env i) a' := by
    refine ⟨by show ((Array.range nt).map tm).size = nt; simp, hE0.2.1, fun t ht => ?_⟩
    show VR g ρ (E2.rd t (D.env i)) _
    by_cases hlk : t ∈ o.looksAt ops
    · rw [hget t hlk]
      rcases hK.look i o ho t ht hlk with ⟨j, oj, hj, hd, hjB, he⟩ | ⟨hno, he⟩
      · rw [he]; exact hI.wrote j oj t hj (hB j hjB) hd ht
      · rw [he]
        refine hI.kept t ht fun j oj hj hlj hdj => ?_
        have := hI.closed j oj hj hlj i (hno j oj hj hdj)
        rw [hun] at this
        cases this
    · rw [ha'get t ht, hK.nolook i o ho t ht hlk]
      show VR g ρ _ (if t ∈ o.looksAt ops then _ else _)
      rw [if_neg hlk]
      exact (hE0.2.2 t ht).mono hI.step.ext.le
  have hexec : execOp a'.eval o = execOp a.eval o := by
    refine execOp_congr o (compOp_noselect hop) fun x hx => ?_
    cases x with
    | tmp t =>
      show a'.tmps.getD t undef = a.tmps.getD t undef
      exact hget t (List.mem_append_left _ (List.mem_filterMap.2 ⟨.tmp t, by simpa using hx, rfl⟩))
    | _ => rfl
  have hwant : Region.wanted o (yielded ops a.tmps) = Gd.ok gd (D.env i) := by
    rw [← gd_wanted hE' hgd]
    unfold Region.wanted
    cases hg : o.guard with
    | none => rfl
    | some jw =>
      obtain ⟨j, want⟩ := jw
      have : yielded ops a.tmps j = yielded ops a'.tmps j := by
        unfold yielded
        cases hj : (ops[j]?).bind (·.dst) with
        | none => rfl
        | some t =>
          have hmem : t ∈ o.looksAt ops := List.mem_append_right _ (by simp [hg, hj])
          have htl : t < nt := by
            simp only [compGd, hg, hj] at hgd
            split at hgd
            · assumption
            · cases hgd
          have h1 : a'.tmps[t]? = some (a'.tmps.getD t undef) := by
            have : t < a'.tmps.size := by show t < ((Array.range nt).map tm).size; simpa using htl
            rw [Array.getD_eq_getD_getElem?, Array.getElem?_eq_getElem this]; rfl
          have h2 : a.tmps[t]? = some (a.tmps.getD t undef) := by
            have : t < a.tmps.size := by rw [hI.tsize]; exact htl
            rw [Array.getD_eq_getD_getElem?, Array.getElem?_eq_getElem this]; rfl
          simp only [Option.bind_some, h1, h2, hget t hmem]
      simp only [this]
  have hloc : ∀ j, j < ops.size → D.cls j = 2 → L.getD j false = false → g (D.key j) (D.ver j) = none := hI.away
  unfold wpOp
  simp only [ho]
  rw [hwant]
  rcases hcase with ⟨hc, hgf, hv⟩ | ⟨hc, hgt, hev⟩ | ⟨hc, n', s', hn', hhas, hsub, hwhat⟩ | ⟨hc, hgt, hfr, sA, sA', hev, hkey, hver, hobj⟩
  · rw [hgf]
    simp only [Bool.false_eq_true, if_false]
    refine hk n g _ w (hI.put hK ho hun hB hI.node (fun _ _ _ h => h) hI.step ?_ ?_ fun j hj hc' hl _ => hloc j hj hc' hl)
    · intro j hj hcj
      have : (j == i) = false := by
        apply beq_false_of_ne
        rintro rfl
        rw [hc] at hcj
        cases hcj
      rw [this, Bool.or_false]
    · rw [hv]; exact .undef
  · rw [hgt]
    simp only [if_true]
    left
    obtain ⟨x, w1, g1, hrun, hstep, hx⟩ := (hO nt o iop hop g (D.env i) (D.T n) a' w hG hE' hI.step.wr).1 _ _ hev
    rw [hexec] at hrun
    have hnext : K (a.put o.dst x) w1 := by
      refine hk n g1 _ w1 (hI.put hK ho hun hB hI.node hstep.ext.le (hI.step.trans hstep) ?_ hx ?_)
      · intro j hj hcj
        have : (j == i) = false := by
          apply beq_false_of_ne
          rintro rfl
          rw [hc] at hcj
          cases hcj
        rw [this, Bool.or_false]
      · intro j hj hcj hl _
        cases hg1 : g1 (D.key j) (D.ver j) with
        | none => rfl
        | some L' =>
          have := hstep.old _ _ _ hg1 (hK.vers j n hj hcj hI.node)
          rw [hloc j hj hcj hl] at this
          cases this
    unfold Oper.wp
    rcases hrun with hrun | ⟨hxu, hrun⟩
    · rw [hrun]; exact hnext
    · rw [hrun]; subst hxu; exact hnext
  · have hkey' : ∀ {g1 : G} {w1 : World}, Step g ρ base (D.T n) w g1 s' w1 → ∀ j, j < ops.size → D.cls j = 2 → L.getD j false = false → j ≠ i → g1 (D.key j) (D.ver j) = none := by
      intro g1 w1 hstep j hj hcj hl _
      cases hg1 : g1 (D.key j) (D.ver j) with
      | none => rfl
      | some L' =>
        have := hstep.old _ _ _ hg1 (hK.vers j n hj hcj hI.node)
        rw [hloc j hj hcj hl] at this
        cases this
    rcases hwhat with ⟨hgf, hv, hs⟩ | ⟨hgt, hev⟩ | ⟨hgt, f, as, s1, hev, hcl⟩
    · rw [hgf]
      simp only [Bool.false_eq_true, if_false]
      subst hs
      exact hk n' g _ w (hI.put hK ho hun hB hn' (fun _ _ _ h => h) (hI.step.sub hsub) (fun j _ _ => hhas j) (by rw [hv]; exact .undef) fun j hj hc' hl _ => hloc j hj hc' hl)
    · rw [hgt]
      simp only [if_true]
      left
      obtain ⟨x, w1, g1, hrun, hstep, hx⟩ := (hO nt o iop hop g (D.env i) (D.T n) a' w hG hE' hI.step.wr).1 _ _ hev
      rw [hexec] at hrun
      have hnext : K (a.put o.dst x) w1 := hk n' g1 _ w1 (hI.put hK ho hun hB hn' hstep.ext.le ((hI.step.trans hstep).sub hsub) (fun j _ _ => hhas j) hx (hkey' hstep))
      unfold Oper.wp
      rcases hrun with hrun | ⟨hxu, hrun⟩
      · rw [hrun]; exact hnext
      · rw [hrun]; subst hxu; exact hnext
    · rw [hgt]
      simp only [if_true]
      left
      obtain ⟨hs1, xs, hxs, hrun⟩ := (hO nt o iop hop g (D.env i) (D.T n) a' w hG hE' hI.step.wr).2 _ _ _ hev
      subst hs1
      rw [hexec] at hrun
      have hcalls := (hC f as (D.T n) (D.val i) s' hcl).2 g w xs hG hI.step.wr hxs
      unfold Oper.wp
      rw [hrun (hC f as (D.T n) (D.val i) s' hcl).1]
      refine Calls.mono hcalls ?_
      rintro en w1 ⟨x, g1, rfl, hstep, hx⟩
      exact hk n' g1 _ w1 (hI.put hK ho hun hB hn' hstep.ext.le ((hI.step.trans hstep).sub hsub) (fun j _ _ => hhas j) hx (hkey' hstep))
  · rw [hgt]
    simp only [if_true]
    left
    obtain ⟨elem, sz, m, ch, c, mk, X, hnone, hs', hv, hz, hm, hrow, hrun, hvr⟩ := hF nt o iop hop hfr g (D.env i) sA sA' a' (D.val i) hG hE' hev
    rw [hexec] at hrun
    have hob : (D.T n).h.at (D.key i) = .cells elem sz false 0 0 (.more (D.ver i) m ch .none) := by
      rw [hobj, hs', ← hkey, ← hver]
      show H4.at sA.nk (H4.put sA.nk _ sA.h) = _
      rw [H4.at_put, if_pos rfl]
    have hgn := hloc i hilt hc hun
    obtain ⟨hS, hle⟩ := hI.step.adopt hob hgn (hK.vers0 i hilt hc) hz hm hrow
    unfold Oper.wp
    rw [hrun w]
    refine hk n _ _ _ (hI.put hK ho hun hB hI.node hle hS ?_ ?_ ?_)
    · intro j hj hcj
      have : (j == i) = false := by
        apply beq_false_of_ne
        rintro rfl
        rw [hc] at hcj
        cases hcj
      rw [this, Bool.or_false]
    · rw [hv, hkey, hver]
      exact hvr _ _ _ _ (G.add_same _ _ _ _)
    · intro j hj hcj hl hji
      unfold G.add
      rw [if_neg]
      · exact hloc j hj hcj hl
      · rintro ⟨h1, _⟩
        exact hji (hK.keys j i hj hilt hcj hc h1)

theorem all_listed {md : Region.Mode} (rank : Nat → Nat) (hr : ∀ (i : Nat) (o : Oper), ops[i]? = some o → ∀ e ∈ o.after, Region.binds md e = true → rank e.on < rank i ∧ e.on < ops.size)
    (hs : L.size = ops.size) (h : Region.ready md ops L = []) : ∀ i, i < ops.size → L.getD i false = true := by
  have key : ∀ k i, i < ops.size → rank i = k → L.getD i false = true := by
    intro k
    induction k using Nat.strongRecOn with
    | _ k ih =>
      intro i hi hk
      cases hl : L.getD i false with
      | true => rfl
      | false =>
        exfalso
        have hi' : i < L.size := by rw [hs]; exact hi
        have : i ∈ Region.ready md ops L := mem_ready.2 ⟨by simp [hi'] at hl ⊢; exact hl, _, Array.getElem?_eq_getElem hi, fun e he hb => by
          obtain ⟨h1, h2⟩ := hr i _ (Array.getElem?_eq_getElem hi) e he hb
          exact ih (rank e.on) (hk ▸ h1) e.on h2 rfl⟩
        rw [h] at this
        cases this
  exact fun i hi => key _ i hi rfl

theorem draw_any (hO : OpSound P gs ρ base) (hF : FreshSound P gs ρ) (hC : CallSound P gs ρ base call) (hK : DrawOK P gs ρ base nt ops call e0 s0 efin sfin D) {a0 : Act} (hE0 : ER g0 ρ nt e0 a0) (hG0 : GlobR gs g0)
    {md : Region.Mode} (rank : Nat → Nat) (hr : ∀ (i : Nat) (o : Oper), ops[i]? = some o → ∀ e ∈ o.after, Region.binds md e = true → rank e.on < rank i ∧ e.on < ops.size) {Q : Exit → Act → World → Prop}
    (hQ : ∀ g' a' w', Step g0 ρ base s0 w0 g' sfin w' → ER g' ρ nt efin a' → a'.defers = dfs → Q .normal a' w') :
    ∀ (fuel : Nat) {n : Nat} {g : G} {L : Array Bool} {a : Act} {w : World}, (List.range ops.size).countP (fun i => !L.getD i false) ≤ fuel → DInv gs ρ base nt ops D e0 s0 g0 w0 dfs n g L a w → wpAny P md ops Q fuel L a w := by
  have done : ∀ {n : Nat} {g : G} {L : Array Bool} {a : Act} {w : World}, DInv gs ρ base nt ops D e0 s0 g0 w0 dfs n g L a w → (∀ i, i < ops.size → L.getD i false = true) → Q .normal a w := by
    intro n g L a w hI hall
    refine hQ g a w (hI.step.sub (hK.fin n hI.node fun i hi hc => by rw [← hI.eff i hi hc]; exact hall i hi)) ⟨hI.tsize, hE0.2.1, fun t ht => ?_⟩ hI.defers
    show VR g ρ (E2.rd t efin) _
    by_cases hex : ∃ (i : Nat) (o : Oper), ops[i]? = some o ∧ o.dst = some t
    · obtain ⟨i, o, ho, hd⟩ := hex
      rw [hK.efin1 t ht i o ho hd]
      exact hI.wrote i o t ho (hall i (Array.getElem?_eq_some_iff.1 ho).1) hd ht
    · rw [hK.efin0 t ht fun i o ho hd => hex ⟨i, o, ho, hd⟩]
      exact hI.kept t ht fun i o ho _ hd => hex ⟨i, o, ho, hd⟩
  intro fuel
  induction fuel with
  | zero =>
    intro n g L a w hcount hI
    have hall : ∀ i, i < ops.size → L.getD i false = true := by
      intro i hi
      have h0 : (List.range ops.size).countP (fun i => !L.getD i false) = 0 := Nat.le_zero.1 hcount
      rw [List.countP_eq_zero] at h0
      have := h0 i (List.mem_range.2 hi)
      simpa using this
    refine ⟨?_, done hI hall⟩
    apply List.eq_nil_iff_forall_not_mem.2
    intro i hi
    obtain ⟨h1, o, ho, _⟩ := mem_ready.1 hi
    have hilt : i < ops.size := (Array.getElem?_eq_some_iff.1 ho).1
    have h2 := hall i hilt
    have : i < L.size := by rw [hI.size]; exact hilt
    simp [this] at h1 h2
    rw [h1] at h2
    cases h2
  | succ fuel ih =>
    intro n g L a w hcount hI
    refine ⟨fun h => done hI (all_listed rank hr hI.size h), fun i hi => ?_⟩
    refine draw_op hO hF hC hK hE0 hG0 hI hi fun n' g' a' w' hI' => ih ?_ hI'
    obtain ⟨hun', o, ho, _⟩ := mem_ready.1 hi
    have hilt : i < ops.size := (Array.getElem?_eq_some_iff.1 ho).1
    have hiL : i < L.size := by rw [hI.size]; exact hilt
    have hun : L.getD i false = false := by simp [hiL] at hun' ⊢; exact hun'
    have hlt : (List.range ops.size).countP (fun j => !(L.setIfInBounds i true).getD j false) < (List.range ops.size).countP (fun j => !L.getD j false) := by
      rw [List.countP_eq_length_filter, List.countP_eq_length_filter]
      have hsub : ((List.range ops.size).filter fun j => !(L.setIfInBounds i true).getD j false) = ((List.range ops.size).filter fun j => !L.getD j false).filter (fun j => j != i) := by
        rw [List.filter_filter]
        apply List.filter_congr
        intro j _
        rw [set_getD L i j hiL]
        cases L.getD j false <;> simp [bne]
      rw [hsub]
      have hm : i ∈ (List.range ops.size).filter fun j => !L.getD j false := List.mem_filter.2 ⟨List.mem_range.2 hilt, by rw [hun]; rfl⟩
      exact List.length_filter_lt_length_iff_exists.2 ⟨i, hm, by simp⟩
    omega
end
end Go.Ev

namespace Go.Ev
set_option linter.unusedVariables false

/-! ## Sameness -/
theorem same_eq : ∀ {a b : V}, same a b = true → a = b := by
  intro a
  induction a with
  | nil | undef | nilp | nils | nilm | nilf | nili => intro b h; cases b <;> first | rfl | (simp [same] at h)
  | cons x t ihx iht =>
    intro b h
    cases b <;> first | (simp [same] at h; done) | skip
    simp only [same, Bool.and_eq_true] at h
    rw [ihx h.1, iht h.2]
  | int k n =>
    intro b h
    cases b <;> first | (simp [same] at h; done) | skip
    simp only [same, Bool.and_eq_true, beq_iff, ieq_iff] at h
    rw [kcode_inj h.1, h.2]
  | bool c =>
    intro b h
    cases b <;> first | (simp [same] at h; done) | skip
    simp only [same, beq_iff_eq] at h
    rw [h]
  | str l d =>
    intro b h
    cases b <;> first | (simp [same] at h; done) | skip
    simp only [same, Bool.and_eq_true, beq_iff] at h
    rw [h.1, h.2]
  | ptr f v o =>
    intro b h
    cases b <;> first | (simp [same] at h; done) | skip
    simp only [same, Bool.and_eq_true, beq_iff, K.beq_iff] at h
    rw [h.1, h.2.1, h.2.2]
  | sl f v o len cap ex es =>
    intro b h
    cases b <;> first | (simp [same] at h; done) | skip
    simp only [same, Bool.and_eq_true, beq_iff, K.beq_iff, beq_iff_eq] at h
    obtain ⟨h1, h2, h3, h4, h5, h6, h7⟩ := h
    rw [h1, h2, h3, h4, h5, h6, h7]
  | map f v =>
    intro b h
    cases b <;> first | (simp [same] at h; done) | skip
    simp only [same, Bool.and_eq_true, beq_iff, K.beq_iff] at h
    rw [h.1, h.2]
  | iface t x ih =>
    intro b h
    cases b <;> first | (simp [same] at h; done) | skip
    simp only [same, Bool.and_eq_true, beq_iff] at h
    rw [h.1, ih h.2]
  | agg x ih =>
    intro b h
    cases b <;> first | (simp [same] at h; done) | skip
    simp only [same] at h
    rw [ih h]
  | tup x ih =>
    intro b h
    cases b <;> first | (simp [same] at h; done) | skip
    simp only [same] at h
    rw [ih h]
  | sym i =>
    intro b h
    cases b <;> first | (simp [same] at h; done) | skip
    simp only [same, beq_iff] at h
    rw [h]
  | fn F x y ihx ihy =>
    intro b h
    cases F <;> first | (cases b <;> simp [same] at h; done) | skip
    cases b <;> first | (simp [same] at h; done) | skip
    rename_i f F' x' y'
    cases F' <;> first | (simp [same] at h; done) | skip
    simp only [same, Bool.and_eq_true, beq_iff] at h
    rw [h.1, ihx h.2.1, ihy h.2.2]

theorem Ver.same_eq : ∀ {a b : Ver}, Ver.same a b = true → a = b := by
  intro a
  induction a with
  | none => intro b h; cases b <;> first | rfl | (simp [Ver.same] at h)
  | more i n c r ih =>
    intro b h
    cases b <;> first | (simp [Ver.same] at h; done) | skip
    simp only [Ver.same, Bool.and_eq_true, beq_iff] at h
    rw [h.1, h.2.1, Ev.same_eq h.2.2.1, ih h.2.2.2]

theorem Obj.same_eq {a b : Obj} (h : Obj.same a b = true) : a = b := by
  cases a <;> cases b <;> first | (simp [Obj.same] at h; done) | skip
  simp only [Obj.same, Bool.and_eq_true, beq_iff, beq_iff_eq] at h
  obtain ⟨h1, h2, h3, h4, h5, h6⟩ := h
  rw [h1, h2, h3, h4, h5, Ver.same_eq h6]

/-! ## Slots -/
theorem rd_wr {t u : Nat} (ht : t < 256) (hu : u < 256) (v : V) (e : E2) : E2.rd t (E2.wr u v e) = if t = u then v else E2.rd t e := by
  unfold E2.rd E2.wr
  rw [E2.at_put]
  by_cases h : t = u
  · subst h; rw [if_pos ⟨rfl, rfl⟩, if_pos rfl]
  · rw [if_neg h, if_neg]
    rintro ⟨h1, h2⟩
    have h1 : t / 16 = u / 16 := D.dig_inj (by omega) (by omega) h1
    have h2 : t % 16 = u % 16 := D.dig_inj (by omega) (by omega) h2
    omega

theorem envOf_none {vs e0 : E2} {t : Nat} (ht : t < 256) : ∀ {l : List (Nat × Nat)}, (∀ q ∈ l, q.1 < 256) → (∀ q ∈ l, q.1 ≠ t) → E2.rd t (envOf vs e0 l) = E2.rd t e0
  | [], _, _ => rfl
  | (u, w) :: l, h1, h2 => by
    show E2.rd t (E2.wr u _ _) = _
    rw [rd_wr ht (h1 _ (List.mem_cons_self ..)), if_neg (fun h => h2 _ (List.mem_cons_self ..) h.symm)]
    exact envOf_none ht (fun q hq => h1 q (List.mem_cons_of_mem _ hq)) (fun q hq => h2 q (List.mem_cons_of_mem _ hq))

theorem envOf_some {vs e0 : E2} {t j : Nat} (ht : t < 256) : ∀ {l : List (Nat × Nat)}, (∀ q ∈ l, q.1 < 256) → (∀ q ∈ l, q.1 = t → q.2 = j) → (t, j) ∈ l → E2.rd t (envOf vs e0 l) = E2.rd j vs
  | (u, w) :: l, h1, h2, h3 => by
    show E2.rd t (E2.wr u _ _) = _
    rw [rd_wr ht (h1 _ (List.mem_cons_self ..))]
    by_cases h : t = u
    · rw [if_pos h, show w = j from h2 (u, w) (List.mem_cons_self ..) h.symm]
    · rw [if_neg h]
      refine envOf_some ht (fun q hq => h1 q (List.mem_cons_of_mem _ hq)) (fun q hq => h2 q (List.mem_cons_of_mem _ hq)) ?_
      rcases List.mem_cons.1 h3 with h3 | h3
      · injection h3 with h3 _; exact absurd h3 h
      · exact h3

theorem envOf_congr {vs vs' e0 : E2} : ∀ {l : List (Nat × Nat)}, (∀ q ∈ l, E2.rd q.2 vs = E2.rd q.2 vs') → envOf vs e0 l = envOf vs' e0 l
  | [], _ => rfl
  | (u, w) :: l, h => by
    show E2.wr u (E2.rd w vs) (envOf vs e0 l) = E2.wr u (E2.rd w vs') (envOf vs' e0 l)
    rw [h (u, w) (List.mem_cons_self ..), envOf_congr fun q hq => h q (List.mem_cons_of_mem _ hq)]

/-! ## What reads alone -/
def KP (s : St) : RO → Prop
  | .ok _ s' => s' = s
  | .call _ _ _ => False
  | .bad _ => True

section
variable {s : St}
theorem KP.ok (v : V) : KP s (.ok v s) := rfl
theorem KP.bad (w : Nat) : KP s (.bad w) := trivial
theorem KP.okNat (k : IntKind) (n : Nat) : KP s (okNat k n s) := by cases n <;> rfl
theorem KP.okInt (k : IntKind) (n : Int) : KP s (okInt k n s) := by cases n with | ofNat m => exact KP.okNat k m | negSucc m => exact rfl
theorem KP.okBool (b : Bool) : KP s (okBool b s) := by cases b <;> rfl
theorem KP.okStr (l d : Nat) : KP s (okStr l d s) := by
  cases l with
  | zero => rfl
  | succ l => cases d <;> rfl
theorem KP.bool {b : Bool} {x y : RO} (hx : KP s x) (hy : KP s y) : KP s (Bool.rec (motive := fun _ => RO) x y b) := by cases b <;> assumption
theorem KP.ite {b : Bool} {x y : RO} (hx : KP s x) (hy : KP s y) : KP s (RO.ite b x y) := KP.bool hy hx
theorem KP.OV {x : RO} {f : V → RO} {o : OV} (hx : KP s x) (hf : ∀ v, KP s (f v)) : KP s (OV.rec (motive := fun _ => RO) x f o) := by cases o; exact hx; exact hf _
theorem KP.int {k : IntKind → Int → RO} {v : V} (h : ∀ a b, KP s (k a b)) : KP s (withInt v k) := by unfold withInt; cases V.int? v; trivial; exact h _ _
theorem KP.nat {k : Nat → RO} {v : V} (h : ∀ a, KP s (k a)) : KP s (withNat v k) := by
  unfold withNat
  cases V.int? v with
  | no => trivial
  | yes k' n => cases n; exact h _; trivial
theorem KP.wbool {v : V} {x y : RO} (hx : KP s x) (hy : KP s y) : KP s (withBool v x y) := by
  unfold withBool
  cases V.bool? v with
  | no => trivial
  | yes b => exact KP.bool hy hx
theorem KP.ptr {k : K → Nat → Nat → RO} {v : V} (h : ∀ a b c, KP s (k a b c)) : KP s (withPtr v k) := by unfold withPtr; cases V.ptr? v; trivial; exact h _ _ _
theorem KP.byte {k : Nat → RO} {v : V} (h : ∀ a, KP s (k a)) : KP s (withByte v k) := by
  refine KP.int fun kd a => KP.ite ?_ (KP.bad _)
  cases a with
  | ofNat m => exact KP.ite (h _) (KP.bad _)
  | negSucc m => trivial
theorem KP.i64 {k : Nat → RO} {v : V} (h : ∀ a, KP s (k a)) : KP s (withI64 v k) := by
  refine KP.int fun kd a => KP.ite ?_ (KP.bad _)
  cases a with
  | ofNat m => exact h _
  | negSucc m => trivial
theorem KP.str {k : Nat → Nat → RO} {v : V} (h : ∀ a b, KP s (k a b)) : KP s (withStr v k) := by unfold withStr; cases V.str? v; trivial; exact h _ _
theorem KP.wb {k : Bool → RO} {v : V} (h : ∀ a, KP s (k a)) : KP s (withB v k) := by unfold withB; cases V.bool? v; trivial; exact h _
theorem KP.row {f : K} {v : Nat} {k : Nat → Nat → V → RO} (h : ∀ a b c, KP s (k a b c)) : KP s (row f v s k) := by
  unfold Ev.row
  cases Obj.cells? (H4.at f s.h) with
  | no => trivial
  | yes e sz ro a b vs =>
    show KP s (OW.rec (motive := fun _ => RO) (.bad 23) (fun n ch => k sz n ch) (Ver.find v vs))
    cases Ver.find v vs; trivial; exact h _ _ _
theorem KP.load1 {f : K} {v o : Nat} {k : V → RO} (h : ∀ a, KP s (k a)) : KP s (load1 f v o s k) := by
  unfold Ev.load1
  exact KP.row fun a b c => KP.bool (h _) (KP.bad _)
theorem KP.loadN {size : Nat} {f : K} {v o : Nat} {k : V → RO} (h : ∀ a, KP s (k a)) : KP s (loadN size f v o s k) := by
  unfold Ev.loadN
  exact KP.row fun a b c => KP.bool (KP.bool (KP.bad _) (h _)) (KP.bool (KP.bad _) (h _))
theorem KP.onat {x : OpdO} {e : E2} {d : Nat} {k : Nat → RO} (h : ∀ a, KP s (k a)) : KP s (OpdO.nat x e d k) := by
  unfold OpdO.nat
  cases x
  · exact h _
  · exact KP.nat h
theorem KP.bits (f : Nat → Nat → Nat) (k : IntKind) (a b : Int) : KP s (bitsOp f k a b s) := by
  unfold bitsOp
  cases a with
  | negSucc m => trivial
  | ofNat m =>
    cases b with
    | negSucc n => trivial
    | ofNat n => exact KP.ite (KP.okNat _ _) (KP.bad _)
theorem KP.intBin (op : BinOp) (k : IntKind) (a b : Int) : KP s (intBin op k a b s) := by
  cases op <;> first
    | exact KP.bits _ _ _ _
    | exact KP.okInt _ _
    | exact KP.okBool _
    | exact KP.bad _
    | exact KP.bool (KP.okInt _ _) (KP.bad _)
theorem KP.strBin (op : BinOp) (a b c d : Nat) : KP s (strBin op a b c d s) := by
  cases op <;> first
    | exact KP.okBool _
    | exact KP.bad _
    | exact KP.bool (KP.bad _) (KP.okStr _ _)
theorem KP.evBin (op : BinOp) (x y : V) : KP s (evBin op x y s) := by
  unfold Ev.evBin
  cases V.int? x with
  | no =>
    show KP s (evBinS op x y s)
    unfold evBinS
    split
    · unfold symBin
      refine KP.int fun k b => KP.ite ?_ (KP.bad _)
      cases b with
      | negSucc m => trivial
      | ofNat m =>
        dsimp only
        split
        · exact KP.ite (KP.okNat _ _) (KP.bad _)
        · exact KP.ite (KP.okInt _ _) (KP.bad _)
        · trivial
    · exact KP.str fun _ _ => KP.str fun _ _ => KP.strBin _ _ _ _ _
  | yes k a => exact KP.int fun _ _ => KP.bool (KP.bad _) (KP.intBin _ _ _ _)
theorem KP.okCode (neg : Bool) (c : Nat) : KP s (okCode neg c s) := KP.bool (KP.bool (KP.bad _) (KP.okBool _)) (KP.okBool _)
theorem KP.fill {k : V → RO} {e : E2} (h : ∀ a, KP s (k a)) : ∀ {ps : PartL} {z : V}, KP s (fillParts ps e z k) := by
  intro ps
  induction ps with
  | nil => intro z; exact h _
  | cons off size x rest ih => intro z; exact KP.bool (KP.OV (KP.bad _) fun cs => KP.ite ih (KP.bad _)) (KP.ite ih (KP.bad _))

theorem evOp_KP {op : IOp} (hf : isFloat op = true) (e : E2) (s : St) : KP s (evOp op e s) := by
  cases op
  case mv x => exact KP.ok _
  case pick c a b => exact KP.wbool (KP.ok _) (KP.ok _)
  case build z ps => exact KP.fill fun _ => KP.ok _
  case ld1 x => exact KP.ptr fun _ _ _ => KP.load1 fun _ => KP.ok _
  case ldN sz x => exact KP.ptr fun _ _ _ => KP.loadN fun _ => KP.ok _
  case chk x => exact KP.bool (KP.bad _) (KP.ok _)
  case bin op x y => exact KP.evBin _ _ _
  case shift left x y =>
    refine KP.int fun k a => KP.nat fun n => KP.ite ?_ (KP.bad _)
    cases a with
    | ofNat m => exact KP.bool (KP.okNat _ _) (KP.okInt _ _)
    | negSucc m => trivial
  case eq neg x y => exact KP.okCode _ _
  case eqB neg x y => exact KP.wb fun _ => KP.wb fun _ => KP.okBool _
  case eqNil neg kind x => exact KP.bool (KP.bool (KP.bad _) (KP.okBool _)) (KP.okBool _)
  case neg x => exact KP.int fun _ _ => KP.okInt _ _
  case not x => exact KP.wbool (KP.ok _) (KP.ok _)
  case cvI k x => exact KP.int fun _ _ => KP.okInt _ _
  case mkIf t x => exact KP.ok _
  case mkFn fn a b => exact KP.ok _
  case slice es x lo hi mx =>
    show KP s (evSlice es _ lo hi mx e s)
    unfold evSlice
    cases V.sl? (Opd.val x e) with
    | no => trivial
    | nils => exact KP.onat fun _ => KP.onat fun _ => KP.onat fun _ => KP.ite (KP.ok _) (KP.bad _)
    | yes f v o len cap ex es' => exact KP.onat fun _ => KP.onat fun _ => KP.onat fun _ => KP.ite (KP.ok _) (KP.bad _)
  case cut x lo hi => exact KP.str fun _ _ => KP.onat fun _ => KP.onat fun _ => KP.ite (KP.okStr _ _) (KP.bad _)
  case fld off x => exact KP.ptr fun _ _ _ => KP.ok _
  case part1 off x => exact KP.OV (KP.bad _) fun _ => KP.ite (KP.ok _) (KP.bad _)
  case partN off size x => exact KP.OV (KP.bad _) fun _ => KP.ite (KP.ok _) (KP.bad _)
  case ixA es x i =>
    show KP s (OL.rec (motive := fun _ => RO) _ _ _ (V.sl? (Opd.val x e)))
    cases V.sl? (Opd.val x e) with
    | no => trivial
    | nils => trivial
    | yes f v o len cap ex es' => exact KP.nat fun _ => KP.ite (KP.ok _) (KP.bad _)
  case ixArr len es x i => exact KP.ptr fun _ _ _ => KP.nat fun _ => KP.ite (KP.ok _) (KP.bad _)
  case ixS x i => exact KP.str fun _ _ => KP.nat fun _ => KP.ite (KP.okNat _ _) (KP.bad _)
  case ixV1 len x i => exact KP.OV (KP.bad _) fun _ => KP.nat fun _ => KP.ite (KP.ok _) (KP.bad _)
  case ixVN len es x i => exact KP.OV (KP.bad _) fun _ => KP.nat fun _ => KP.ite (KP.ok _) (KP.bad _)
  case ext i x => exact KP.OV (KP.bad _) fun _ => KP.ite (KP.ok _) (KP.bad _)
  case lenS x => exact KP.str fun _ _ => KP.okNat _ _
  case lenL x =>
    show KP s (OL.rec (motive := fun _ => RO) _ _ _ (V.sl? (Opd.val x e)))
    cases V.sl? (Opd.val x e) with
    | no => trivial
    | nils => exact KP.okNat _ _
    | yes f v o len cap ex es' => exact KP.okNat _ _
  case minmax max x y => exact KP.int fun _ _ => KP.int fun _ _ => KP.bool (KP.bool (KP.ok _) (KP.ok _)) (KP.bool (KP.ok _) (KP.ok _))
  case same x => exact KP.ok _
  case sameS x => exact KP.str fun _ _ => KP.ok _
  case toUns x =>
    show KP s (evToUns _ s)
    unfold evToUns
    split
    · exact KP.ok _
    · exact KP.row fun _ _ _ => KP.ite (KP.ok _) (KP.bad _)
    · exact KP.bad _
  case fromUns u es x =>
    show KP s (evFromUns u es _ s)
    unfold evFromUns
    split
    · exact KP.ok _
    · rename_i f v o _
      cases Obj.cells? (H4.at f s.h) with
      | no => trivial
      | yes elem sz ro a b vs =>
        show KP s (OW.rec (motive := fun _ => RO) _ _ (Ver.find v vs))
        cases Ver.find v vs with
        | no => trivial
        | yes n ch => exact KP.ite (KP.ok _) (KP.bad _)
    · exact KP.bad _
  case sdata x =>
    show KP s (OL.rec (motive := fun _ => RO) _ _ _ (V.sl? (Opd.val x e)))
    cases V.sl? (Opd.val x e) with
    | no => trivial
    | nils => exact KP.ok _
    | yes f v o len cap ex es' => cases cap with
      | zero => trivial
      | succ cap => exact KP.ok _
  case capL x =>
    show KP s (OL.rec (motive := fun _ => RO) _ _ _ (V.sl? (Opd.val x e)))
    cases V.sl? (Opd.val x e) with
    | no => trivial
    | nils => exact KP.okNat _ _
    | yes f v o len cap ex es' => exact KP.ite (KP.okNat _ _) (KP.bad _)
  case xCount x c => exact KP.str fun _ _ => KP.byte fun _ => KP.okNat _ _
  case xIndexByte x c => exact KP.str fun _ _ => KP.byte fun _ => KP.okInt _ _
  all_goals (exact absurd hf (by simp [isFloat]))
end

/-- a row made ahead leaves all that was -/
theorem fresh_sub {op : IOp} (hf : isFresh op = true) {e : E2} {s s' : St} {v : V} (h : evOp op e s = .ok v s') (ρ : Rho) (base : Nat) : Sub ρ base s s' := by
  have key : ∀ {elem sz n : Nat} {ch : V} {mk : K → Nat → V}, alloc elem sz n ch s (fun f v s' => .ok (mk f v) s') = .ok v s' → Sub ρ base s s' := by
    intro elem sz n ch mk h
    obtain ⟨hnone, h1⟩ := alloc_inv h trivial
    injection h1 with h2 h3
    subst h3
    refine ⟨Nat.le_succ _, fun g w hW => hW.ahead hnone _ _ ?_⟩
    intro _ _ _ _ _ vs v n' ch' he hv
    injection he with _ _ _ _ _ e6
    subst e6
    rcases hv with ⟨h1, _, _⟩ | hv
    · exact h1.symm
    · exact hv.elim
  cases op
  case new elem sz z => exact key (mk := fun f v => .ptr f v 0) h
  case mkSl elem es len z ps =>
    have h : fillElems ps es len e (V.putElems (V.rep len z) 0 .nil) (fun ch => alloc elem es (Nat.mul len es) ch s fun f v s' => .ok (.sl f v 0 len len true es) s') = .ok v s' := h
    suffices hs : ∀ (ps : PartL) (z : V), fillElems ps es len e z (fun ch => alloc elem es (Nat.mul len es) ch s fun f v s' => .ok (.sl f v 0 len len true es) s') = .ok v s' → Sub ρ base s s' from hs _ _ h
    intro ps
    induction ps with
    | nil => intro z h; exact key (mk := fun f v => .sl f v 0 len len true es) h
    | cons off size x rest ih =>
      intro z h
      have h : Bool.rec (motive := fun _ => RO)
            (OV.rec (motive := fun _ => RO) (.bad 91) (fun cs => RO.ite (band (V.lenIs es cs) (Nat.ble (Nat.succ off) len)) (fillElems rest es len e (V.putElem off cs z) (fun ch => alloc elem es (Nat.mul len es) ch s fun f v s' => .ok (.sl f v 0 len len true es) s')) (.bad 91)) (V.agg? (x.val e)))
            (RO.ite (band (Nat.beq es 1) (Nat.ble (Nat.succ off) len)) (fillElems rest es len e (V.putElem off (.cons (x.val e) .nil) z) (fun ch => alloc elem es (Nat.mul len es) ch s fun f v s' => .ok (.sl f v 0 len len true es) s')) (.bad 91)) (isCell (x.val e)) = .ok v s' := h
      cases hc : isCell (x.val e) with
      | true =>
        rw [hc] at h
        exact ih _ (ite_inv h trivial).2
      | false =>
        rw [hc] at h
        obtain ⟨cs, _, h1⟩ := agg_inv h trivial
        exact ih _ (ite_inv h1 trivial).2
  all_goals (exact absurd hf (by simp [isFresh]))
end Go.Ev

namespace Go.Ev
set_option linter.unusedVariables false

/-! ## The walk through a drawn region -/
theorem guarded_inv {call : Nat → V → St → RC} {d : DEnt} {e : E2} {s s' : St} {v : V} (h : guarded call d e s = .ok v s') :
    (Gd.ok d.gd e = false ∧ v = .undef ∧ s' = s) ∨ (Gd.ok d.gd e = true ∧ evOp d.op e s = .ok v s') ∨ (Gd.ok d.gd e = true ∧ ∃ f as s1, evOp d.op e s = .call f as s1 ∧ call f as s1 = .ok v s') := by
  unfold guarded at h
  cases hg : Gd.ok d.gd e with
  | false =>
    rw [hg] at h
    have h : RC.ok .undef s = .ok v s' := h
    injection h with h1 h2
    exact .inl ⟨rfl, h1.symm, h2.symm⟩
  | true =>
    rw [hg] at h
    have h : evEff call d.op e s = .ok v s' := h
    unfold evEff at h
    cases ho : evOp d.op e s with
    | ok v1 s1 =>
      rw [ho] at h
      have h : RC.ok v1 s1 = .ok v s' := h
      injection h with h1 h2
      subst h1 h2
      exact .inr (.inl ⟨rfl, rfl⟩)
    | call f as s1 =>
      rw [ho] at h
      exact .inr (.inr ⟨rfl, f, as, s1, rfl, h⟩)
    | bad w =>
      rw [ho] at h
      have h : RC.bad w = .ok v s' := h
      cases h

def EffFact (call : Nat → V → St → RC) (e0 : E2) (d : DEnt) (vs : E2) (t s' : St) : Prop :=
  (Gd.ok d.gd (envOf vs e0 d.lk) = false ∧ E2.rd d.ix vs = .undef ∧ s' = t) ∨ (Gd.ok d.gd (envOf vs e0 d.lk) = true ∧ evOp d.op (envOf vs e0 d.lk) t = .ok (E2.rd d.ix vs) s') ∨
  (Gd.ok d.gd (envOf vs e0 d.lk) = true ∧ ∃ f as s1, evOp d.op (envOf vs e0 d.lk) t = .call f as s1 ∧ call f as s1 = .ok (E2.rd d.ix vs) s')

def entOrd : List DEnt → Prop
  | [] => True
  | d :: l => d.ix < 256 ∧ (∀ x ∈ l, x.ix ≠ d.ix) ∧ (∀ q ∈ d.lk, q.2 < 256 ∧ q.2 ≠ d.ix ∧ ∀ x ∈ l, x.ix ≠ q.2) ∧
    ((d.kind = 0 ∧ isFloat d.op = true) ∨ (d.kind = 2 ∧ isFresh d.op = true) ∨ d.kind = 1) ∧ (d.kind = 1 → ∀ x ∈ l, x.kind ≠ 2) ∧ entOrd l

noncomputable def isEff (d : DEnt) : Bool := Nat.beq d.kind 1

theorem ph1_spec {call : Nat → V → St → RC} {e0 : E2} (ρ : Rho) (base : Nat) : ∀ {l : List DEnt} {vs vs' : E2} {s : St} {ts : List St}, ph1 call e0 l vs s = .ok vs' ts → entOrd l →
    (∀ q, q < 256 → (∀ d ∈ l, d.ix ≠ q) → E2.rd q vs' = E2.rd q vs) ∧ (∃ t0 rest, ts = t0 :: rest ∧ Sub ρ base s t0 ∧ ((∀ x ∈ l, x.kind ≠ 2) → t0 = s)) ∧ ts.length = (l.filter isEff).length + 1 ∧
    ∀ (k : Nat) (d : DEnt), (l.filter isEff)[k]? = some d → ∃ t1 t2, ts[k]? = some t1 ∧ ts[k + 1]? = some t2 ∧ EffFact call e0 d vs' t1 t2
  | [], vs, vs', s, ts, h, _ => by
    simp only [ph1, PR.ok.injEq] at h
    obtain ⟨rfl, rfl⟩ := h
    exact ⟨fun _ _ _ => rfl, ⟨s, [], rfl, .refl _ _ _, fun _ => rfl⟩, rfl, fun k d hk => by simp at hk⟩
  | d :: l, vs, vs', s, ts, h, ho => by
    obtain ⟨hix, hne, hlk, hkind, hno2, ho'⟩ := ho
    have h : RC.rec (motive := fun _ => PR)
      (fun v s' => Bool.rec (motive := fun _ => PR) (ph1 call e0 l (E2.wr d.ix v vs) s') (PR.cons s (ph1 call e0 l (E2.wr d.ix v vs) s')) (Nat.beq d.kind 1))
      (fun w => .bad w) (guarded call d (envOf vs e0 d.lk) s) = .ok vs' ts := by simpa only [ph1] using h
    cases hgd : guarded call d (envOf vs e0 d.lk) s with
    | bad w => rw [hgd] at h; have h : PR.bad w = .ok vs' ts := h; cases h
    | ok v s1 =>
      rw [hgd] at h
      have h : Bool.rec (motive := fun _ => PR) (ph1 call e0 l (E2.wr d.ix v vs) s1) (PR.cons s (ph1 call e0 l (E2.wr d.ix v vs) s1)) (Nat.beq d.kind 1) = .ok vs' ts := h
      have hcases := guarded_inv hgd
      have common : ∀ {ts'}, ph1 call e0 l (E2.wr d.ix v vs) s1 = .ok vs' ts' → (∀ q, q < 256 → (∀ x ∈ d :: l, x.ix ≠ q) → E2.rd q vs' = E2.rd q vs) ∧ E2.rd d.ix vs' = v ∧ envOf vs e0 d.lk = envOf vs' e0 d.lk := by
        intro ts' hp
        obtain ⟨g1, _⟩ := ph1_spec ρ base hp ho'
        refine ⟨fun q hq hx => ?_, ?_, envOf_congr fun q hq => ?_⟩
        · rw [g1 q hq fun x hx' => hx x (List.mem_cons_of_mem _ hx'), rd_wr hq hix, if_neg (fun h => hx d (List.mem_cons_self ..) h.symm)]
        · rw [g1 d.ix hix hne, rd_wr hix hix, if_pos rfl]
        · obtain ⟨q1, q2, q3⟩ := hlk q hq
          rw [g1 q.2 q1 q3, rd_wr q1 hix, if_neg q2]
      cases hb : Nat.beq d.kind 1 with
      | false =>
        rw [hb] at h
        have h : ph1 call e0 l (E2.wr d.ix v vs) s1 = .ok vs' ts := h
        obtain ⟨c1, c2, c3⟩ := common h
        obtain ⟨g1, ⟨t0, rest, rfl, hsub, heq⟩, g3, g4⟩ := ph1_spec ρ base h ho'
        have hne1 : d.kind ≠ 1 := fun he => by rw [beq_iff.2 he] at hb; cases hb
        have hsub0 : Sub ρ base s s1 := by
          rcases hkind with ⟨_, hf⟩ | ⟨_, hf⟩ | hk
          · have hkp := evOp_KP hf (envOf vs e0 d.lk) s
            rcases hcases with ⟨_, _, rfl⟩ | ⟨_, he⟩ | ⟨_, f, as, s2, he, _⟩
            · exact .refl _ _ _
            · rw [he] at hkp
              have hkp : s1 = s := hkp
              rw [hkp]; exact .refl _ _ _
            · rw [he] at hkp; exact hkp.elim
          · rcases hcases with ⟨_, _, rfl⟩ | ⟨_, he⟩ | ⟨_, f, as, s2, he, _⟩
            · exact .refl _ _ _
            · exact fresh_sub hf he ρ base
            · exfalso
              have : ∀ {op : IOp}, isFresh op = true → ∀ {e : E2} {s : St} {f as s2}, evOp op e s = .call f as s2 → False := by
                intro op hf e s f as s2 h
                have al : ∀ {elem sz n : Nat} {ch : V} {mk : K → Nat → V}, alloc elem sz n ch s (fun f v s' => .ok (mk f v) s') = .call f as s2 → False := by
                  intro elem sz n ch mk h
                  obtain ⟨_, h1⟩ := alloc_inv h trivial
                  cases h1
                cases op
                case new elem sz z => exact al (mk := fun f v => .ptr f v 0) h
                case mkSl elem es len z ps =>
                  have h : fillElems ps es len e (V.putElems (V.rep len z) 0 .nil) (fun ch => alloc elem es (Nat.mul len es) ch s fun f v s' => .ok (.sl f v 0 len len true es) s') = .call f as s2 := h
                  suffices hs : ∀ (ps : PartL) (z : V), fillElems ps es len e z (fun ch => alloc elem es (Nat.mul len es) ch s fun f v s' => .ok (.sl f v 0 len len true es) s') = .call f as s2 → False from hs _ _ h
                  intro ps
                  induction ps with
                  | nil => intro z h; exact al (mk := fun f v => .sl f v 0 len len true es) h
                  | cons off size x rest ih =>
                    intro z h
                    have h : Bool.rec (motive := fun _ => RO)
                          (OV.rec (motive := fun _ => RO) (.bad 91) (fun cs => RO.ite (band (V.lenIs es cs) (Nat.ble (Nat.succ off) len)) (fillElems rest es len e (V.putElem off cs z) (fun ch => alloc elem es (Nat.mul len es) ch s fun f v s' => .ok (.sl f v 0 len len true es) s')) (.bad 91)) (V.agg? (x.val e)))
                          (RO.ite (band (Nat.beq es 1) (Nat.ble (Nat.succ off) len)) (fillElems rest es len e (V.putElem off (.cons (x.val e) .nil) z) (fun ch => alloc elem es (Nat.mul len es) ch s fun f v s' => .ok (.sl f v 0 len len true es) s')) (.bad 91)) (isCell (x.val e)) = .call f as s2 := h
                    cases hc : isCell (x.val e) with
                    | true =>
                      rw [hc] at h
                      exact ih _ (ite_inv h trivial).2
                    | false =>
                      rw [hc] at h
                      obtain ⟨cs, _, h1⟩ := agg_inv h trivial
                      exact ih _ (ite_inv h1 trivial).2
                all_goals (exact absurd hf (by simp [isFresh]))
              exact this hf he
          · exact absurd hk hne1
        have hfilt : (d :: l).filter isEff = l.filter isEff := by
          rw [List.filter_cons, if_neg (by unfold isEff; rw [hb]; simp)]
        rw [hfilt]
        refine ⟨c1, ⟨t0, rest, rfl, hsub0.trans hsub, fun hx => ?_⟩, g3, g4⟩
        rw [heq fun x hx' => hx x (List.mem_cons_of_mem _ hx')]
        rcases hkind with ⟨_, hf⟩ | ⟨h2, hf⟩ | hk
        · have hkp := evOp_KP hf (envOf vs e0 d.lk) s
          rcases hcases with ⟨_, _, h3⟩ | ⟨_, he⟩ | ⟨_, f, as, s2, he, _⟩
          · exact h3
          · rw [he] at hkp; exact hkp
          · rw [he] at hkp; exact hkp.elim
        · exact absurd h2 (hx d (List.mem_cons_self ..))
        · exact absurd hk hne1
      | true =>
        rw [hb] at h
        have h : PR.cons s (ph1 call e0 l (E2.wr d.ix v vs) s1) = .ok vs' ts := h
        cases hp : ph1 call e0 l (E2.wr d.ix v vs) s1 with
        | bad w => rw [hp] at h; have h : PR.bad w = .ok vs' ts := h; cases h
        | ok vs2 ts2 =>
          rw [hp] at h
          have h : PR.ok vs2 (s :: ts2) = .ok vs' ts := h
          injection h with h1 h2
          subst h1 h2
          obtain ⟨c1, c2, c3⟩ := common hp
          obtain ⟨g1, ⟨t0, rest, rfl, hsub, heq⟩, g3, g4⟩ := ph1_spec ρ base hp ho'
          have hfilt : (d :: l).filter isEff = d :: l.filter isEff := by
            rw [List.filter_cons, if_pos (by unfold isEff; rw [hb])]
          rw [hfilt]
          refine ⟨c1, ⟨s, t0 :: rest, rfl, .refl _ _ _, fun _ => rfl⟩, by simp only [List.length_cons] at g3 ⊢; omega, ?_⟩
          intro k x hk
          cases k with
          | zero =>
            injection (show some d = some x from hk) with hk
            subst hk
            refine ⟨s, t0, rfl, rfl, ?_⟩
            unfold EffFact
            rw [← c3, c2, heq (hno2 (beq_iff.1 hb))]
            exact hcases
          | succ k =>
            obtain ⟨t1, t2, e1, e2, e4⟩ := g4 k x hk
            exact ⟨t1, t2, e1, e2, e4⟩

theorem nodup_idx {α : Type} {x : α} : ∀ {l : List α} {i j : Nat}, l.Nodup → l[i]? = some x → l[j]? = some x → i = j
  | [], i, _, _, h, _ => by simp at h
  | a :: l, 0, 0, _, _, _ => rfl
  | a :: l, i + 1, j + 1, hn, hi, hj => by
    rw [nodup_idx (l := l) (List.nodup_cons.1 hn).2 hi hj]
  | a :: l, 0, j + 1, hn, hi, hj => by
    injection (show some a = some x from hi) with hi
    subst hi
    exact absurd (List.mem_of_getElem? (show l[j]? = some a from hj)) (List.nodup_cons.1 hn).1
  | a :: l, i + 1, 0, hn, hi, hj => by
    injection (show some a = some x from hj) with hj
    subst hj
    exact absurd (List.mem_of_getElem? (show l[i]? = some a from hi)) (List.nodup_cons.1 hn).1

theorem mem_take_idx {α : Type} {x : α} {l : List α} {n k : Nat} (hn : l.Nodup) (hk : l[k]? = some x) : x ∈ l.take n ↔ k < n := by
  constructor
  · intro h
    obtain ⟨j, hj⟩ := List.mem_iff_getElem?.1 h
    rw [List.getElem?_take] at hj
    split at hj
    · rename_i hlt
      rw [nodup_idx hn hk hj]
      exact hlt
    · cases hj
  · intro h
    exact List.mem_of_getElem? (i := k) (by rw [List.getElem?_take, if_pos h]; exact hk)
end Go.Ev

namespace Go.Ev
set_option linter.unusedVariables false

section
variable {P : Program} {gs : Nat → Bool} {ρ : Rho} {base nt : Nat} {ops : Array Oper} {p : Plan}

theorem blt_iff {a b : Nat} : Nat.blt a b = true ↔ a < b := ble_iff

theorem permOK_nodup : ∀ {l : List Nat}, permOK p ops nt l = true → l.Nodup
  | [], _ => List.nodup_nil
  | i :: l, h => by
    simp only [permOK, Bool.and_eq_true, Bool.not_eq_true', List.contains_eq_mem, decide_eq_false_iff_not] at h
    exact List.nodup_cons.2 ⟨h.1, permOK_nodup h.2.2.2⟩

theorem pairsOK_idx : ∀ {l : List Nat} {i j a b : Nat}, pairsOK p l = true → l[i]? = some a → l[j]? = some b → i < j → a ∈ p.B b ∨ (p.dia = true ∧ i + 2 = l.length)
  | [], i, j, a, b, _, h, _, _ => by simp at h
  | x :: l, 0, 0, a, b, _, _, _, h => absurd h (Nat.lt_irrefl _)
  | x :: l, 0, j + 1, a, b, h, hi, hj, _ => by
    injection (show some x = some a from hi) with hi
    subst hi
    simp only [pairsOK, Bool.and_eq_true, Bool.or_eq_true, List.all_eq_true] at h
    have hb := List.mem_of_getElem? (show l[j]? = some b from hj)
    rcases h.1 with h1 | h1
    · have := h1 b hb
      exact .inl (by simpa using this)
    · exact .inr ⟨h1.1, by have := beq_iff.1 h1.2; simp only [List.length_cons]; omega⟩
  | x :: l, i + 1, 0, a, b, _, _, _, h => absurd h (Nat.not_lt_zero _)
  | x :: l, i + 1, j + 1, a, b, h, hi, hj, hlt => by
    simp only [pairsOK, Bool.and_eq_true] at h
    rcases pairsOK_idx (l := l) h.2 hi hj (by omega) with h1 | ⟨h1, h2⟩
    · exact .inl h1
    · exact .inr ⟨h1, by simp only [List.length_cons]; omega⟩

theorem ent_spec {i : Nat} {d : DEnt} (h : entOf P gs ops nt p i = some d) : ∃ o iop dd gd, ops[i]? = some o ∧ compOp P gs nt o.op = some iop ∧ compDst nt o.dst = some dd ∧ compGd ops nt o.guard = some gd ∧
    ((p.cls i = 0 ∧ isFloat iop = true) ∨ (p.cls i = 2 ∧ isFresh iop = true) ∨ p.cls i = 1) ∧ d = ⟨i, iop, gd, lkOf p ops nt i o, p.cls i, bif Nat.beq (p.cls i) 1 then [] else p.nodesOf i⟩ := by
  unfold entOf at h
  cases ho : ops[i]? with
  | none => rw [ho] at h; cases h
  | some o =>
    rw [ho] at h
    dsimp only at h
    cases h1 : compOp P gs nt o.op with
    | none => rw [h1] at h; cases h
    | some iop =>
      cases h2 : compDst nt o.dst with
      | none => rw [h1, h2] at h; cases h
      | some dd =>
        cases h3 : compGd ops nt o.guard with
        | none => rw [h1, h2, h3] at h; cases h
        | some gd =>
          rw [h1, h2, h3] at h
          dsimp only at h
          split at h
          · rename_i hc
            injection h with h
            simp only [Bool.or_eq_true, Bool.and_eq_true, beq_iff] at hc
            exact ⟨o, iop, dd, gd, rfl, h1, h2, h3, hc, h.symm⟩
          · cases h

theorem ents_spec : ∀ {is : List Nat} {l : List DEnt}, entsOf P gs ops nt p is = some l → l.map (·.ix) = is ∧ (∀ d ∈ l, ∃ i ∈ is, entOf P gs ops nt p i = some d) ∧ (∀ i ∈ is, ∃ d ∈ l, entOf P gs ops nt p i = some d) ∧
    (l.filter isEff).map (·.ix) = is.filter (fun i => Nat.beq (p.cls i) 1)
  | [], l, h => by
    injection h with h
    subst h
    exact ⟨rfl, fun d hd => (by cases hd), fun i hi => (by cases hi), rfl⟩
  | i :: is, l, h => by
    simp only [entsOf] at h
    cases h1 : entOf P gs ops nt p i with
    | none => rw [h1] at h; cases h
    | some d =>
      cases h2 : entsOf P gs ops nt p is with
      | none => rw [h1, h2] at h; cases h
      | some l2 =>
        rw [h1, h2] at h
        injection h with h
        subst h
        obtain ⟨g1, g2, g3, g4⟩ := ents_spec h2
        obtain ⟨o, iop, dd, gd, e1, e2, e3, e4, e5, e6⟩ := ent_spec h1
        have hix : d.ix = i := by rw [e6]
        have hk : d.kind = p.cls i := by rw [e6]
        refine ⟨by rw [List.map_cons, g1, hix], ?_, ?_, ?_⟩
        · intro x hx
          rcases List.mem_cons.1 hx with rfl | hx
          · exact ⟨i, List.mem_cons_self .., h1⟩
          · obtain ⟨j, hj, hj2⟩ := g2 x hx
            exact ⟨j, List.mem_cons_of_mem _ hj, hj2⟩
        · intro j hj
          rcases List.mem_cons.1 hj with rfl | hj
          · exact ⟨d, List.mem_cons_self .., h1⟩
          · obtain ⟨x, hx, hx2⟩ := g3 j hj
            exact ⟨x, List.mem_cons_of_mem _ hx, hx2⟩
        · rw [List.filter_cons, List.filter_cons]
          unfold isEff at g4 ⊢
          rw [hk]
          split
          · rw [List.map_cons, g4, hix]
          · exact g4

theorem writer_spec {t j : Nat} (h : writer ops t = some j) : j < ops.size ∧ ∃ o, ops[j]? = some o ∧ o.dst = some t := by
  unfold writer at h
  have h1 := List.find?_some h
  have h2 := List.mem_range.1 (List.mem_of_find?_eq_some h)
  refine ⟨h2, ?_⟩
  unfold dstIs at h1
  cases ho : ops[j]? with
  | none => rw [ho] at h1; cases h1
  | some o => rw [ho] at h1; exact ⟨o, rfl, by simpa using h1⟩

theorem writer_none {t : Nat} (h : writer ops t = none) (j : Nat) (o : Oper) (ho : ops[j]? = some o) : o.dst ≠ some t := by
  unfold writer at h
  rw [List.find?_eq_none] at h
  have := h j (List.mem_range.2 (Array.getElem?_eq_some_iff.1 ho).1)
  unfold dstIs at this
  rw [ho] at this
  simpa using this

theorem lk_mem0 {o : Oper} {q : Nat × Nat} (h : q ∈ lkOf0 ops nt o) : q.1 < nt ∧ q.1 ∈ o.looksAt ops ∧ writer ops q.1 = some q.2 := by
  unfold lkOf0 at h
  obtain ⟨t, ht, he⟩ := List.mem_filterMap.1 h
  split at he
  · rename_i hlt
    have hlt := (blt_iff).1 hlt
    cases hw : writer ops t with
    | none => rw [hw] at he; cases he
    | some j =>
      rw [hw] at he
      injection he with he
      subst he
      exact ⟨hlt, ht, hw⟩
  · cases he

theorem lk_of0 {o : Oper} {t j : Nat} (ht : t ∈ o.looksAt ops) (hlt : t < nt) (hw : writer ops t = some j) : (t, j) ∈ lkOf0 ops nt o := by
  unfold lkOf0
  refine List.mem_filterMap.2 ⟨t, ht, ?_⟩
  rw [if_pos (blt_iff.2 hlt), hw]
  rfl

theorem lk_mem {i : Nat} {o : Oper} {q : Nat × Nat} (h : q ∈ lkOf p ops nt i o) : q.1 < nt ∧ q.1 ∈ o.looksAt ops ∧ writer ops q.1 = some q.2 ∧ i ∉ p.B q.2 := by
  obtain ⟨h1, h2⟩ := List.mem_filter.1 h
  obtain ⟨h3, h4, h5⟩ := lk_mem0 h1
  exact ⟨h3, h4, h5, by simpa using h2⟩

theorem lk_of {i : Nat} {o : Oper} {t j : Nat} (ht : t ∈ o.looksAt ops) (hlt : t < nt) (hw : writer ops t = some j) (hb : i ∉ p.B j) : (t, j) ∈ lkOf p ops nt i o :=
  List.mem_filter.2 ⟨lk_of0 ht hlt hw, by simpa using hb⟩

theorem fins_mem {q : Nat × Nat} (h : q ∈ finsOf ops nt) : q.1 < nt ∧ ∃ o, ops[q.2]? = some o ∧ o.dst = some q.1 := by
  unfold finsOf at h
  obtain ⟨i, hi, he⟩ := List.mem_filterMap.1 h
  cases ho : ops[i]? with
  | none => rw [ho] at he; cases he
  | some o =>
    rw [ho, Option.bind_some] at he
    cases hd : o.dst with
    | none => rw [hd] at he; cases he
    | some t =>
      rw [hd] at he
      dsimp only at he
      split at he
      · rename_i hlt
        injection he with he
        subst he
        exact ⟨blt_iff.1 hlt, o, ho, hd⟩
      · cases he

theorem fins_of {i t : Nat} {o : Oper} (ho : ops[i]? = some o) (hd : o.dst = some t) (ht : t < nt) : (t, i) ∈ finsOf ops nt := by
  unfold finsOf
  refine List.mem_filterMap.2 ⟨i, List.mem_range.2 (Array.getElem?_eq_some_iff.1 ho).1, ?_⟩
  rw [ho, Option.bind_some, hd]
  dsimp only
  rw [if_pos (blt_iff.2 ht)]

/-- what the plan's check says -/
structure PlanFacts (p : Plan) (ops : Array Oper) (nt : Nat) : Prop where
  kinds : p.kinds.length ≤ ops.size
  size : ops.size ≤ 256
  ntle : nt ≤ 256
  anc : ∀ (i : Nat) (o : Oper), ops[i]? = some o → ∀ x ∈ p.B i, ∃ e ∈ o.after, Region.binds .any e = true ∧ (x = e.on ∨ x ∈ p.B e.on)
  lk : ∀ (i : Nat) (o : Oper), ops[i]? = some o → ∀ q ∈ lkOf p ops nt i o, q.2 ∈ p.B i
  dst1 : ∀ (i j : Nat) (oi oj : Oper) (t : Nat), ops[i]? = some oi → ops[j]? = some oj → oi.dst = some t → oj.dst = some t → i = j
  perm : ∀ i, i < ops.size → i ∈ p.perm
  rank : ∀ md, ∃ rank : Nat → Nat, ∀ (i : Nat) (o : Oper), ops[i]? = some o → ∀ e ∈ o.after, Region.binds md e = true → rank e.on < rank i ∧ e.on < ops.size
  permOK : permOK p ops nt p.perm = true
  pairs : pairsOK p p.effs = true
  two : p.dia = true → 2 ≤ p.effs.length

theorem rank_spec {md : Region.Mode} {size i : Nat} {rk : List Nat} {o : Oper} (h : rankOK md size rk i o = true) : ∀ e ∈ o.after, Region.binds md e = true → rk.getD e.on 0 < rk.getD i 0 ∧ e.on < size := by
  intro e he hb
  unfold rankOK at h
  have := List.all_eq_true.1 h e (by simpa using he)
  rw [hb] at this
  simp only [Bool.not_true, Bool.false_or, Bool.and_eq_true] at this
  exact ⟨blt_iff.1 this.1, blt_iff.1 this.2⟩

theorem plan_spec (h : planOK p ops nt = true) : PlanFacts p ops nt := by
  unfold planOK at h
  simp only [Bool.and_eq_true, ble_iff] at h
  obtain ⟨h1, h2, h3, h4, h5, h6, h7⟩ := h
  have hop : ∀ (i : Nat) (o : Oper), ops[i]? = some o → opPlanOK p ops nt i = true := fun i o ho => List.all_eq_true.1 h4 i (List.mem_range.2 (Array.getElem?_eq_some_iff.1 ho).1)
  have hop2 : ∀ (i : Nat) (o : Oper), ops[i]? = some o → (p.B i).all (fun x => o.after.toList.any fun e => Region.binds .any e && (Nat.beq x e.on || (p.B e.on).contains x)) = true ∧
      (lkOf p ops nt i o).all (fun q => (p.B i).contains q.2) = true ∧ dstAlone ops i o.dst = true ∧
      p.perm.contains i = true ∧ rankOK .text ops.size p.rankT i o = true ∧ rankOK .gc ops.size p.rankG i o = true := by
    intro i o ho
    have := hop i o ho
    unfold opPlanOK at this
    rw [ho] at this
    simpa only [Bool.and_eq_true] using this
  refine ⟨h1, h2, h3, ?_, ?_, ?_, ?_, ?_, h5, h6, ?_⟩
  · intro i o ho x hx
    have := List.all_eq_true.1 (hop2 i o ho).1 x hx
    obtain ⟨e, he, hb⟩ := List.any_eq_true.1 this
    simp only [Bool.and_eq_true, Bool.or_eq_true, beq_iff, List.contains_eq_mem, decide_eq_true_eq] at hb
    exact ⟨e, by simpa using he, hb⟩
  · intro i o ho q hq
    have := List.all_eq_true.1 (hop2 i o ho).2.1 q hq
    simpa using this
  · intro i j oi oj t hi hj hdi hdj
    have h3 := (hop2 i oi hi).2.2.1
    rw [hdi] at h3
    unfold dstAlone at h3
    have := List.all_eq_true.1 h3 j (List.mem_range.2 (Array.getElem?_eq_some_iff.1 hj).1)
    simpa [dstIs, hj, hdj, beq_iff] using this
  · intro i hi
    have := (hop2 i _ (Array.getElem?_eq_getElem hi)).2.2.2.1
    simpa using this
  · intro md
    cases md with
    | text => exact ⟨fun i => p.rankT.getD i 0, fun i o ho => rank_spec (hop2 i o ho).2.2.2.2.1⟩
    | gc => exact ⟨fun i => p.rankG.getD i 0, fun i o ho => rank_spec (hop2 i o ho).2.2.2.2.2⟩
    | any => exact ⟨fun i => p.rankT.getD i 0, fun i o ho e he hb => rank_spec (hop2 i o ho).2.2.2.2.1 e he (binds_any .text hb)⟩
  · intro hd
    rw [hd] at h7
    simpa [ble_iff] using h7
end
end Go.Ev

namespace Go.Ev
set_option linter.unusedVariables false

/-! ## Stores write one row -/
def Frm (k : K) (s s' : St) : Prop := s'.nk = s.nk ∧ s'.nx = s.nx ∧ ∀ f, f ≠ k → s'.h.at f = s.h.at f
def FP (k : K) (s : St) : RO → Prop
  | .ok _ s' => Frm k s s'
  | .call _ _ _ => False
  | .bad _ => True

section
variable {s : St} {k : K}
theorem FP.bool {b : Bool} {x y : RO} (hx : FP k s x) (hy : FP k s y) : FP k s (Bool.rec (motive := fun _ => RO) x y b) := by cases b <;> assumption
theorem FP.row {f : K} {v : Nat} {c : Nat → Nat → V → RO} (h : ∀ a b d, FP k s (c a b d)) : FP k s (row f v s c) := by
  unfold Ev.row
  cases Obj.cells? (H4.at f s.h) with
  | no => trivial
  | yes e sz ro a b vs =>
    show FP k s (OW.rec (motive := fun _ => RO) (.bad 23) (fun n ch => c sz n ch) (Ver.find v vs))
    cases Ver.find v vs; trivial; exact h _ _ _
theorem FP.write {v o size : Nat} {upd : Nat → V → V} {x : V} : FP k s (write k v o size s upd (fun s' => .ok x s')) := by
  unfold Ev.write
  cases Obj.cells? (H4.at k s.h) with
  | no => trivial
  | yes elem sz ro a b vs =>
    refine FP.bool (FP.bool trivial ?_) trivial
    cases Ver.from v vs with
    | none => trivial
    | more id n ch rest =>
      refine FP.bool trivial ⟨rfl, rfl, fun f hf => ?_⟩
      show H4.at f (H4.put k _ s.h) = _
      rw [H4.at_put, if_neg hf]

theorem store_FP {op : IOp} (hs : isStore op = true) {e : E2} {s s' : St} {v : V} (h : evOp op e s = .ok v s') : ∃ k, stKey op e = some k ∧ Frm k s s' := by
  cases op
  case st1 a x =>
    have h : withPtr (Opd.val a e) (fun f v o => store1 f v o (Opd.val x e) s) = .ok v s' := h
    obtain ⟨f, i, o, hp, h⟩ := withPtr_inv h trivial
    refine ⟨f, by simp [stKey, hp, keyOf], ?_⟩
    have : FP f s (store1 f i o (Opd.val x e) s) := FP.bool trivial (FP.row fun _ _ _ => FP.bool (FP.bool trivial FP.write) FP.write)
    rw [h] at this
    exact this
  case stN sz a x =>
    have h : withPtr (Opd.val a e) (fun f v o => storeN sz f v o (Opd.val x e) s) = .ok v s' := h
    obtain ⟨f, i, o, hp, h⟩ := withPtr_inv h trivial
    refine ⟨f, by simp [stKey, hp, keyOf], ?_⟩
    have : FP f s (storeN sz f i o (Opd.val x e) s) := by
      unfold storeN
      cases V.agg? (Opd.val x e) with
      | no => trivial
      | yes cs => exact FP.bool trivial (FP.row fun _ _ _ => FP.bool (FP.bool trivial FP.write) FP.write)
    rw [h] at this
    exact this
  all_goals (exact absurd hs (by simp [isStore]))

theorem Sub.ext {s s' : St} (ρ : Rho) (base : Nat) (hx : s'.nx = s.nx) (hh : ∀ f, s'.h.at f = s.h.at f) : Sub ρ base s s' := by
  refine ⟨by rw [hx]; exact Nat.le_refl _, fun g w hW => ⟨fun f v h => hW.fresh f v (hx ▸ h), hW.inj, hW.lt, fun hg => by rw [hh]; exact hW.obj hg, hW.base, fun he hv => by rw [hx]; exact hW.ids (by rw [← hh]; exact he) hv, fun hk => by rw [hh]; exact hW.ro hk⟩⟩
end

/-! ## The checks -/
section
variable {vs e0 : E2} {ts : List St} {alt : Option St} {d : DEnt} {s st : St} {n : Nat}

theorem chkNodes_mem : ∀ {ns : List Nat}, chkNodes vs e0 ts alt d ns = true → n ∈ ns → ∃ st, nodeSt ts alt n = some st ∧ chkNode vs e0 d st = true
  | [], _, h => by cases h
  | m :: ns, h, hn => by
    simp only [chkNodes, Bool.and_eq_true] at h
    rcases List.mem_cons.1 hn with rfl | hn
    · have h1 := h.1
      cases hs : nodeSt ts alt n with
      | none => rw [hs] at h1; cases h1
      | some st => rw [hs] at h1; exact ⟨st, rfl, h1⟩
    · exact chkNodes_mem h.2 hn

theorem chkFloat_spec (hf : isFloat d.op = true) (h : chkFloat vs e0 d st = true) : (Gd.ok d.gd (envOf vs e0 d.lk) = false ∧ E2.rd d.ix vs = .undef) ∨
    (Gd.ok d.gd (envOf vs e0 d.lk) = true ∧ evOp d.op (envOf vs e0 d.lk) st = .ok (E2.rd d.ix vs) st) := by
  unfold chkFloat at h
  cases hg : Gd.ok d.gd (envOf vs e0 d.lk) with
  | false =>
    rw [hg] at h
    exact .inl ⟨rfl, (same_eq h).symm⟩
  | true =>
    rw [hg] at h
    have hk := evOp_KP hf (envOf vs e0 d.lk) st
    cases ho : evOp d.op (envOf vs e0 d.lk) st with
    | ok v s1 =>
      rw [ho] at h hk
      have hk : s1 = st := hk
      subst hk
      have h : same v (E2.rd d.ix vs) = true := h
      rw [same_eq h]
      exact .inr ⟨rfl, rfl⟩
    | call f as s1 => rw [ho] at hk; exact hk.elim
    | bad w => rw [ho] at h; cases h

theorem chkAlloc_spec (h : chkAlloc vs e0 d st = true) : ∃ k v, keyOf (E2.rd d.ix vs) = some (k, v) ∧ Gd.ok d.gd (envOf vs e0 d.lk) = true ∧ ∃ sA', evOp d.op (envOf vs e0 d.lk) ⟨H4.empty, k, v⟩ = .ok (E2.rd d.ix vs) sA' ∧
    st.h.at k = sA'.h.at k := by
  unfold chkAlloc at h
  cases hk : keyOf (E2.rd d.ix vs) with
  | none => rw [hk] at h; cases h
  | some kv =>
    obtain ⟨k, v⟩ := kv
    rw [hk] at h
    simp only [Bool.and_eq_true] at h
    obtain ⟨h1, h2⟩ := h
    cases ho : evOp d.op (envOf vs e0 d.lk) ⟨H4.empty, k, v⟩ with
    | ok x s1 =>
      rw [ho] at h2
      have h2 : (same x (E2.rd d.ix vs) && Obj.same (H4.at k st.h) (H4.at k s1.h)) = true := h2
      simp only [Bool.and_eq_true] at h2
      have hx := same_eq h2.1
      subst hx
      exact ⟨k, v, rfl, h1, s1, ho, Obj.same_eq h2.2⟩
    | call f as s1 => rw [ho] at h2; cases h2
    | bad w => rw [ho] at h2; cases h2

theorem chkVers_spec {nx0 : Nat} : ∀ {l : List DEnt} {ks : List K}, chkVers vs nx0 ts alt ks l = true →
    (∀ d ∈ l, d.kind = 2 → ∃ k v, keyOf (E2.rd d.ix vs) = some (k, v) ∧ nx0 ≤ v ∧ (∀ s ∈ ts, v < s.nx) ∧ (∀ s, alt = some s → v < s.nx) ∧ k ∉ ks) ∧
    ∀ d1 ∈ l, ∀ d2 ∈ l, d1.kind = 2 → d2.kind = 2 → ∀ k v1 v2, keyOf (E2.rd d1.ix vs) = some (k, v1) → keyOf (E2.rd d2.ix vs) = some (k, v2) → d1 = d2
  | [], ks, _ => ⟨fun d hd => (by cases hd), fun d hd => (by cases hd)⟩
  | x :: l, ks, h => by
    simp only [chkVers] at h
    cases hb : Nat.beq x.kind 2 with
    | false =>
      rw [hb] at h
      have h : chkVers vs nx0 ts alt ks l = true := h
      have hne : x.kind ≠ 2 := fun he => by rw [beq_iff.2 he] at hb; cases hb
      obtain ⟨h1, h2⟩ := chkVers_spec h
      refine ⟨fun d hd hk => ?_, fun d1 hd1 d2 hd2 hk1 hk2 => ?_⟩
      · rcases List.mem_cons.1 hd with rfl | hd
        · exact absurd hk hne
        · exact h1 d hd hk
      · rcases List.mem_cons.1 hd1 with rfl | hd1
        · exact absurd hk1 hne
        rcases List.mem_cons.1 hd2 with rfl | hd2
        · exact absurd hk2 hne
        exact h2 d1 hd1 d2 hd2 hk1 hk2
    | true =>
      rw [hb] at h
      cases hk : keyOf (E2.rd x.ix vs) with
      | none => rw [hk] at h; cases h
      | some kv =>
        obtain ⟨k, v⟩ := kv
        rw [hk] at h
        have h : (ks.all (fun k' => !K.beq k k') && (Nat.ble nx0 v && (ts.all (fun s => Nat.blt v s.nx) && (alt.all (fun s => Nat.blt v s.nx) && chkVers vs nx0 ts alt (k :: ks) l)))) = true := h
        simp only [Bool.and_eq_true, List.all_eq_true, Bool.not_eq_true'] at h
        obtain ⟨a1, a2, a3, a4, a5⟩ := h
        obtain ⟨h1, h2⟩ := chkVers_spec a5
        have hnot : k ∉ ks := fun hm => by
          have := a1 k hm
          rw [(K.beq_iff k k).2 rfl] at this
          cases this
        refine ⟨fun d hd hkd => ?_, fun d1 hd1 d2 hd2 hk1 hk2 k' v1 v2 e1 e2 => ?_⟩
        · rcases List.mem_cons.1 hd with rfl | hd
          · refine ⟨k, v, hk, ble_iff.1 a2, fun s hs => blt_iff.1 (a3 s hs), fun s hs => ?_, hnot⟩
            rw [hs] at a4
            exact blt_iff.1 a4
          · obtain ⟨k1, v1, b1, b2, b3, b4, b5⟩ := h1 d hd hkd
            exact ⟨k1, v1, b1, b2, b3, b4, fun hm => b5 (List.mem_cons_of_mem _ hm)⟩
        · rcases List.mem_cons.1 hd1 with rfl | hm1 <;> rcases List.mem_cons.1 hd2 with rfl | hm2
          · rfl
          · obtain ⟨k1, w1, b1, _, _, _, b5⟩ := h1 d2 hm2 hk2
            rw [e2] at b1
            rw [hk] at e1
            injection b1 with b1; injection b1 with b1 _
            injection e1 with e1; injection e1 with e1 _
            exact absurd (List.mem_cons.2 (.inl (b1.symm.trans e1.symm))) b5
          · obtain ⟨k1, w1, b1, _, _, _, b5⟩ := h1 d1 hm1 hk1
            rw [e1] at b1
            rw [hk] at e2
            injection b1 with b1; injection b1 with b1 _
            injection e2 with e2; injection e2 with e2 _
            exact absurd (List.mem_cons.2 (.inl (b1.symm.trans e2.symm))) b5
          · exact h2 d1 hm1 d2 hm2 hk1 hk2 k' v1 v2 e1 e2

theorem okWith_spec {x : V} {r : RO} (h : okWith x r = some st) : r = .ok x st := by
  unfold okWith at h
  cases r with
  | ok v s1 =>
    dsimp only at h
    split at h
    · rename_i hs
      injection h with h
      rw [same_eq hs, h]
    · cases h
  | call f as s1 => cases h
  | bad w => cases h

theorem altOf_spec {A B : DEnt} (h : altOf vs e0 ts (some (A, B)) = some alt) : ∃ sA fin sb s4 ka kb, ts[ts.length - 3]? = some sA ∧ ts[ts.length - 1]? = some fin ∧ stKey A.op (envOf vs e0 A.lk) = some ka ∧ stKey B.op (envOf vs e0 B.lk) = some kb ∧
    evOp B.op (envOf vs e0 B.lk) sA = .ok (E2.rd B.ix vs) sb ∧ evOp A.op (envOf vs e0 A.lk) sb = .ok (E2.rd A.ix vs) s4 ∧ s4.h.at ka = fin.h.at ka ∧ s4.h.at kb = fin.h.at kb ∧ alt = some sb := by
  unfold altOf at h
  dsimp only at h
  cases h1 : ts[ts.length - 3]? with
  | none => rw [h1] at h; cases h
  | some sA =>
    cases h2 : ts[ts.length - 1]? with
    | none => rw [h1, h2] at h; cases h
    | some fin =>
      cases h3 : stKey A.op (envOf vs e0 A.lk) with
      | none => rw [h1, h2, h3] at h; cases h
      | some ka =>
        cases h4 : stKey B.op (envOf vs e0 B.lk) with
        | none => rw [h1, h2, h3, h4] at h; cases h
        | some kb =>
          rw [h1, h2, h3, h4] at h
          dsimp only at h
          cases h5 : okWith (E2.rd B.ix vs) (evOp B.op (envOf vs e0 B.lk) sA) with
          | none => rw [h5] at h; cases h
          | some sb =>
            rw [h5] at h
            dsimp only at h
            cases h6 : okWith (E2.rd A.ix vs) (evOp A.op (envOf vs e0 A.lk) sb) with
            | none => rw [h6] at h; cases h
            | some s4 =>
              rw [h6] at h
              dsimp only at h
              split at h
              · rename_i hc
                injection h with h
                simp only [Bool.and_eq_true] at hc
                exact ⟨sA, fin, sb, s4, ka, kb, rfl, rfl, rfl, rfl, okWith_spec h5, okWith_spec h6, Obj.same_eq hc.1, Obj.same_eq hc.2, h.symm⟩
              · cases h

theorem evDraw_inv {call : Nat → V → St → RC} {l : List DEnt} {fins : List (Nat × Nat)} {dia : Option (DEnt × DEnt)} {e : E2} {r : R} (h : evDraw call l fins dia e s = r) :
    (∃ w, r = .bad w) ∨ ∃ vs ts alt fin, ph1 call e l E2.empty s = .ok vs ts ∧ altOf vs e ts dia = some alt ∧ ts[ts.length - 1]? = some fin ∧ (∀ d ∈ l, chkNodes vs e ts alt d d.nodes = true) ∧ chkVers vs s.nx ts alt [] l = true ∧
      r = .norm (envOf vs e fins) fin := by
  unfold evDraw at h
  cases hp : ph1 call e l E2.empty s with
  | bad w => rw [hp] at h; exact .inl ⟨w, h.symm⟩
  | ok vs ts =>
    rw [hp] at h
    dsimp only at h
    cases ha : altOf vs e ts dia with
    | none => rw [ha] at h; exact .inl ⟨407, h.symm⟩
    | some alt =>
      cases hf : ts[ts.length - 1]? with
      | none => rw [ha, hf] at h; exact .inl ⟨407, h.symm⟩
      | some fin =>
        rw [ha, hf] at h
        dsimp only at h
        split at h
        · rename_i hc
          simp only [Bool.and_eq_true, List.all_eq_true] at hc
          exact .inr ⟨vs, ts, alt, fin, rfl, ha, hf, hc.1, hc.2, h.symm⟩
        · exact .inl ⟨406, h.symm⟩
end
end Go.Ev

namespace Go.Ev
set_option linter.unusedVariables false

noncomputable def lkI (p : Plan) (ops : Array Oper) (nt i : Nat) : List (Nat × Nat) :=
  match ops[i]? with
  | some o => lkOf p ops nt i o
  | none => []

noncomputable def ddOf (p : Plan) (ops : Array Oper) (nt : Nat) (vs e0 : E2) (ts : List St) (alt : Option St) (s : St) : DD where
  B := p.B
  cls := p.cls
  val := fun i => E2.rd i vs
  env := fun i => envOf vs e0 (lkI p ops nt i)
  node := fun n => Nat.blt n p.N
  has := p.has
  T := fun n => (nodeSt ts alt n).getD s
  key := fun i => match keyOf (E2.rd i vs) with
    | some (k, _) => k
    | none => ⟨.x0, .x0, .x0, .x0⟩
  ver := fun i => match keyOf (E2.rd i vs) with
    | some (_, v) => v
    | none => 0

section
variable {P : Program} {gs : Nat → Bool} {ρ : Rho} {base nt : Nat} {ops : Array Oper} {p : Plan} {call : Nat → V → St → RC}

theorem entOrd_of (F : PlanFacts p ops nt) : ∀ {is : List Nat} {l : List DEnt}, entsOf P gs ops nt p is = some l → permOK p ops nt is = true → entOrd l
  | [], l, h, _ => by
    injection h with h
    subst h
    trivial
  | i :: is, l, h, hp => by
    have hmap := (ents_spec h).1
    simp only [entsOf] at h
    cases h1 : entOf P gs ops nt p i with
    | none => rw [h1] at h; cases h
    | some d =>
      cases h2 : entsOf P gs ops nt p is with
      | none => rw [h1, h2] at h; cases h
      | some l2 =>
        rw [h1, h2] at h
        injection h with h
        subst h
        obtain ⟨o, iop, dd, gd, e1, e2, e3, e4, e5, e6⟩ := ent_spec h1
        have hilt : i < ops.size := (Array.getElem?_eq_some_iff.1 e1).1
        have hmap2 := (ents_spec h2).1
        have hix : ∀ x ∈ l2, x.ix ∈ is := fun x hx => by rw [← hmap2]; exact List.mem_map.2 ⟨x, hx, rfl⟩
        unfold permOK at hp
        rw [e1] at hp
        simp only [Bool.and_eq_true, Bool.not_eq_true', List.contains_eq_mem, decide_eq_false_iff_not, List.all_eq_true] at hp
        obtain ⟨p1, p2, p4, p3⟩ := hp
        have hsz := F.size
        refine ⟨by rw [e6]; exact Nat.lt_of_lt_of_le hilt hsz, fun x hx he => p1 ?_, fun q hq => ?_, ?_, fun hk x hx h2k => ?_, entOrd_of F h2 p3⟩
        · have := hix x hx
          rw [he, e6] at this
          exact this
        · rw [e6] at hq ⊢
          obtain ⟨q1, q2, q3, _⟩ := lk_mem hq
          obtain ⟨q4, _⟩ := writer_spec q3
          obtain ⟨q5, q6⟩ := p2 q hq
          refine ⟨Nat.lt_of_lt_of_le q4 hsz, fun he => ?_, fun x hx he => q5 (he ▸ hix x hx)⟩
          rw [beq_iff.2 he] at q6
          cases q6
        · rw [e6]
          rcases e5 with ⟨h5, h6⟩ | ⟨h5, h6⟩ | h5
          · exact .inl ⟨h5, h6⟩
          · exact .inr (.inl ⟨h5, h6⟩)
          · exact .inr (.inr h5)
        · have hk : p.cls i = 1 := by rw [e6] at hk; exact hk
          obtain ⟨j, hj, hej⟩ := (ents_spec h2).2.1 x hx
          obtain ⟨_, _, _, _, _, _, _, _, _, f⟩ := ent_spec hej
          have h2k : p.cls j = 2 := by rw [f] at h2k; exact h2k
          simp only [Bool.or_eq_true, Bool.not_eq_true', List.all_eq_true] at p4
          rcases p4 with p4 | p4
          · rw [beq_iff.2 hk] at p4; cases p4
          · have := p4 j hj
            rw [beq_iff.2 h2k] at this; cases this

theorem has_le {n j : Nat} (hn : n ≤ p.effs.length) : p.has n j = true ↔ j ∈ p.effs.take n := by
  unfold Plan.has Plan.setOf
  rw [if_pos (ble_iff.2 hn)]
  simp

theorem has_alt {j : Nat} : p.has (p.effs.length + 1) j = true ↔ j ∈ p.effs.take (p.effs.length - 2) ∨ j ∈ p.effs.drop (p.effs.length - 1) := by
  unfold Plan.has Plan.setOf
  rw [if_neg (by rw [ble_iff]; omega)]
  simp

theorem bool_eq_iff {a b : Bool} (h : a = true ↔ b = true) : a = b := by
  cases a <;> cases b <;> simp at h ⊢

theorem store_noCall {op : IOp} (hs : isStore op = true) {e : E2} {s : St} {f : Nat} {as : V} {s1 : St} (h : evOp op e s = .call f as s1) : False := by
  cases op
  case st1 a x =>
    have h : withPtr (Opd.val a e) (fun f v o => store1 f v o (Opd.val x e) s) = .call f as s1 := h
    obtain ⟨f', i, o, hp, h⟩ := withPtr_inv h trivial
    have : FP f' s (store1 f' i o (Opd.val x e) s) := FP.bool trivial (FP.row fun _ _ _ => FP.bool (FP.bool trivial FP.write) FP.write)
    rw [h] at this
    exact this
  case stN sz a x =>
    have h : withPtr (Opd.val a e) (fun f v o => storeN sz f v o (Opd.val x e) s) = .call f as s1 := h
    obtain ⟨f', i, o, hp, h⟩ := withPtr_inv h trivial
    have : FP f' s (storeN sz f' i o (Opd.val x e) s) := by
      unfold storeN
      cases V.agg? (Opd.val x e) with
      | no => trivial
      | yes cs => exact FP.bool trivial (FP.row fun _ _ _ => FP.bool (FP.bool trivial FP.write) FP.write)
    rw [h] at this
    exact this
  all_goals (exact absurd hs (by simp [isStore]))

theorem EffFact.store {e0 : E2} {d : DEnt} {vs : E2} {t s' : St} (h : EffFact call e0 d vs t s') (hg : d.gd = .no) (hs : isStore d.op = true) : evOp d.op (envOf vs e0 d.lk) t = .ok (E2.rd d.ix vs) s' := by
  rcases h with ⟨h, _⟩ | ⟨_, h⟩ | ⟨_, f, as, s1, h, _⟩
  · rw [hg] at h; cases h
  · exact h
  · exact (store_noCall hs h).elim

theorem draw_ok {l : List DEnt} {dia : Option (DEnt × DEnt)} {vs e0 : E2} {s fin : St} {ts : List St} {alt : Option St} (F : PlanFacts p ops nt) (hl : entsOf P gs ops nt p p.perm = some l) (hdia : diaOf P gs ops nt p = some dia)
    (hp : ph1 call e0 l E2.empty s = .ok vs ts) (ha : altOf vs e0 ts dia = some alt) (hfin : ts[ts.length - 1]? = some fin) (hn : ∀ d ∈ l, chkNodes vs e0 ts alt d d.nodes = true) (hv : chkVers vs s.nx ts alt [] l = true) :
    DrawOK P gs ρ base nt ops call e0 s (envOf vs e0 (finsOf ops nt)) fin (ddOf p ops nt vs e0 ts alt s) := by
  obtain ⟨hmap, hent1, hent2, heffmap⟩ := ents_spec hl
  have heffmap : (l.filter isEff).map (·.ix) = p.effs := heffmap
  obtain ⟨_, ⟨t0, rest, hts0, hsub0, _⟩, hlen, heff⟩ := ph1_spec ρ base hp (entOrd_of F hl F.permOK)
  have hlen : ts.length = p.effs.length + 1 := by rw [hlen, ← heffmap, List.length_map]
  have hnd : p.effs.Nodup := (permOK_nodup F.permOK).filter _
  have hsz := F.size
  have hntle := F.ntle
  -- operations
  have hop : ∀ (i : Nat) (o : Oper), ops[i]? = some o → ∃ d ∈ l, ∃ iop dd gd, compOp P gs nt o.op = some iop ∧ compDst nt o.dst = some dd ∧ compGd ops nt o.guard = some gd ∧
      ((p.cls i = 0 ∧ isFloat iop = true) ∨ (p.cls i = 2 ∧ isFresh iop = true) ∨ p.cls i = 1) ∧ d.ix = i ∧ d.op = iop ∧ d.gd = gd ∧ d.lk = lkI p ops nt i ∧ d.kind = p.cls i ∧ (p.cls i ≠ 1 → d.nodes = p.nodesOf i) := by
    intro i o ho
    obtain ⟨d, hd, he⟩ := hent2 i (F.perm i (Array.getElem?_eq_some_iff.1 ho).1)
    obtain ⟨o', iop, dd, gd, e1, e2, e3, e4, e5, e6⟩ := ent_spec he
    rw [ho] at e1
    injection e1 with e1
    subst e1
    refine ⟨d, hd, iop, dd, gd, e2, e3, e4, e5, by rw [e6], by rw [e6], by rw [e6], ?_, by rw [e6], fun hc => ?_⟩
    · rw [e6]; unfold lkI; rw [ho]
    · rw [e6]
      show (bif Nat.beq (p.cls i) 1 then [] else p.nodesOf i) = _
      cases hb : Nat.beq (p.cls i) 1 with
      | true => exact absurd (beq_iff.1 hb) hc
      | false => rfl
  have hdix : ∀ d1 ∈ l, ∀ d2 ∈ l, d1.ix = d2.ix → d1 = d2 := by
    intro d1 h1 d2 h2 he
    obtain ⟨i1, _, e1⟩ := hent1 d1 h1
    obtain ⟨i2, _, e2⟩ := hent1 d2 h2
    obtain ⟨_, _, _, _, _, _, _, _, _, f1⟩ := ent_spec e1
    obtain ⟨_, _, _, _, _, _, _, _, _, f2⟩ := ent_spec e2
    have g1 : d1.ix = i1 := by rw [f1]
    have g2 : d2.ix = i2 := by rw [f2]
    have : i1 = i2 := by rw [← g1, ← g2, he]
    subst this
    rw [e1] at e2
    injection e2
  have heffs : ∀ (k i : Nat), p.effs[k]? = some i → p.cls i = 1 ∧ ∃ d t1 t2, d ∈ l ∧ d.ix = i ∧ ts[k]? = some t1 ∧ ts[k + 1]? = some t2 ∧ EffFact call e0 d vs t1 t2 := by
    intro k i hk
    have hm := List.mem_of_getElem? hk
    have hc : p.cls i = 1 := beq_iff.1 (List.mem_filter.1 hm).2
    rw [← heffmap, List.getElem?_map] at hk
    obtain ⟨d, hd, he⟩ := Option.map_eq_some_iff.1 hk
    obtain ⟨t1, t2, g1, g2, g4⟩ := heff k d hd
    exact ⟨hc, d, t1, t2, (List.mem_filter.1 (List.mem_of_getElem? hd)).1, he, g1, g2, g4⟩
  have hmem : ∀ i, i < ops.size → p.cls i = 1 → ∃ k : Nat, p.effs[k]? = some i := by
    intro i hi hc
    exact List.mem_iff_getElem?.1 (List.mem_filter.2 ⟨F.perm i hi, beq_iff.2 hc⟩)
  have hTle : ∀ {n : Nat} {t : St}, ts[n]? = some t → nodeSt ts alt n = some t := by
    intro n t h
    unfold nodeSt
    rw [h]
  have hT : ∀ {n : Nat} {t : St}, nodeSt ts alt n = some t → (ddOf p ops nt vs e0 ts alt s).T n = t := by
    intro n t h
    show (nodeSt ts alt n).getD s = t
    rw [h]; rfl
  have hNle : ∀ {n}, n < p.N → n ≤ p.effs.length ∨ (p.dia = true ∧ n = p.effs.length + 1) := by
    intro n h
    unfold Plan.N at h
    cases hd : p.dia with
    | true =>
      rw [hd] at h
      have h : n < p.effs.length + 2 := h
      rcases Nat.lt_or_ge p.effs.length n with h1 | h1
      · exact .inr ⟨rfl, by omega⟩
      · exact .inl h1
    | false =>
      rw [hd] at h
      have h : n < p.effs.length + 1 := h
      exact .inl (by omega)
  have hNlt : p.effs.length < p.N := by
    unfold Plan.N
    cases p.dia <;> simp
  have hfinm : ts[p.effs.length]? = some fin := by rw [hlen] at hfin; exact hfin
  -- the two stores at the end
  have hdia2 : p.dia = true → ∃ A B a b sA sb s4, A ∈ l ∧ B ∈ l ∧ A.ix = a ∧ B.ix = b ∧ p.effs[p.effs.length - 2]? = some a ∧ p.effs[p.effs.length - 1]? = some b ∧ A.gd = .no ∧ B.gd = .no ∧
      ts[p.effs.length - 2]? = some sA ∧ evOp B.op (envOf vs e0 B.lk) sA = .ok (E2.rd B.ix vs) sb ∧ evOp A.op (envOf vs e0 A.lk) sb = .ok (E2.rd A.ix vs) s4 ∧ alt = some sb ∧ Sub ρ base s4 fin := by
    intro hd
    have h2 := F.two hd
    unfold diaOf at hdia
    rw [hd] at hdia
    have hdia : (match p.effs[p.effs.length - 2]?, p.effs[p.effs.length - 1]? with
    | some a, some b => match entOf P gs ops nt p a, entOf P gs ops nt p b with
      | some A, some B => if isStore A.op && (isStore B.op && (Gd.isNo A.gd && Gd.isNo B.gd)) then some (some (A, B)) else none
      | _, _ => none
    | _, _ => none) = some dia := hdia
    cases h3 : p.effs[p.effs.length - 2]? with
    | none => rw [h3] at hdia; cases hdia
    | some a =>
      cases h4 : p.effs[p.effs.length - 1]? with
      | none => rw [h3, h4] at hdia; cases hdia
      | some b =>
        rw [h3, h4] at hdia
        dsimp only at hdia
        cases h5 : entOf P gs ops nt p a with
        | none => rw [h5] at hdia; cases hdia
        | some A =>
          cases h6 : entOf P gs ops nt p b with
          | none => rw [h5, h6] at hdia; cases hdia
          | some B =>
            rw [h5, h6] at hdia
            dsimp only at hdia
            split at hdia
            · rename_i hc
              injection hdia with hdia
              simp only [Bool.and_eq_true] at hc
              obtain ⟨c1, c2, c3, c4⟩ := hc
              obtain ⟨ca, da, tA1, tA2, da1, da2, da3, da4, da6⟩ := heffs _ a h3
              obtain ⟨cb, db, tB1, tB2, db1, db2, db3, db4, db6⟩ := heffs _ b h4
              obtain ⟨_, _, _, _, _, _, _, _, _, fA⟩ := ent_spec h5
              obtain ⟨_, _, _, _, _, _, _, _, _, fB⟩ := ent_spec h6
              have hAix : A.ix = a := by rw [fA]
              have hBix : B.ix = b := by rw [fB]
              obtain ⟨dA, hdA, heA⟩ := hent2 a (List.mem_filter.1 (List.mem_of_getElem? h3)).1
              obtain ⟨dB, hdB, heB⟩ := hent2 b (List.mem_filter.1 (List.mem_of_getElem? h4)).1
              rw [h5] at heA
              rw [h6] at heB
              injection heA with heA
              injection heB with heB
              have hda : da = A := hdix da da1 A (heA ▸ hdA) (da2.trans hAix.symm)
              have hdb : db = B := hdix db db1 B (heB ▸ hdB) (db2.trans hBix.symm)
              rw [hda] at da1 da6
              rw [hdb] at db1 db6
              rw [← hdia] at ha
              obtain ⟨sA, fin', sb, s4, ka, kb, e1, e2, e3, e4, e5, e6, e7, e8, e9⟩ := altOf_spec ha
              have hgA : A.gd = .no := by
                cases hg : A.gd with
                | no => rfl
                | is i w => rw [hg] at c3; cases c3
              have hgB : B.gd = .no := by
                cases hg : B.gd with
                | no => rfl
                | is i w => rw [hg] at c4; cases c4
              have hfe : fin' = fin := by rw [hfin] at e2; injection e2 with e2; exact e2.symm
              have hsA : sA = tA1 := by
                rw [hlen, show p.effs.length + 1 - 3 = p.effs.length - 2 by omega, da3] at e1
                injection e1 with e1; exact e1.symm
              have hBt : tB1 = tA2 := by
                rw [show p.effs.length - 2 + 1 = p.effs.length - 1 by omega, db3] at da4
                injection da4
              have hBf : tB2 = fin := by
                rw [show p.effs.length - 1 + 1 = p.effs.length by omega, hfinm] at db4
                injection db4 with db4; exact db4.symm
              have hA1 := da6.store hgA c1
              have hB1 := db6.store hgB c2
              rw [hBt, hBf] at hB1
              rw [← hsA] at hA1 da3
              rw [hfe] at e7 e8
              obtain ⟨k1, f1, f2⟩ := store_FP c1 hA1
              obtain ⟨k2, f3, f4⟩ := store_FP c2 hB1
              obtain ⟨k3, f5, f6⟩ := store_FP c2 e5
              obtain ⟨k4, f7, f8⟩ := store_FP c1 e6
              rw [e3] at f1 f7
              rw [e4] at f3 f5
              injection f1 with f1; injection f7 with f7; injection f3 with f3; injection f5 with f5
              subst f1 f3 f5 f7
              refine ⟨A, B, a, b, sA, sb, s4, da1, db1, hAix, hBix, rfl, rfl, hgA, hgB, da3, e5, e6, e9, Sub.ext ρ base ?_ ?_⟩
              · rw [f4.2.1, f2.2.1, f8.2.1, f6.2.1]
              · intro f
                by_cases h1 : f = ka
                · rw [h1]; exact e7.symm
                · by_cases h2 : f = kb
                  · rw [h2]; exact e8.symm
                  · rw [f4.2.2 f h2, f2.2.2 f h1, f8.2.2 f h1, f6.2.2 f h2]
            · cases hdia
  refine ⟨F.anc, ?_, F.dst1, ?_, ?_, ?_, ?_, ?_, ?_, ?_, ?_, ?_, ?_⟩
  · intro j hj hc
    have hc : p.cls j = 1 := hc
    unfold Plan.cls at hc
    rw [List.getD_eq_getElem?_getD, List.getElem?_eq_none (Nat.le_trans F.kinds hj)] at hc
    cases hc
  · intro i o ho t ht hlk
    show _ ∨ (_ ∧ E2.rd t (envOf vs e0 (lkI p ops nt i)) = _)
    have hlki : lkI p ops nt i = lkOf p ops nt i o := by unfold lkI; rw [ho]
    have h256 : ∀ q ∈ lkI p ops nt i, q.1 < 256 := fun q hq => by rw [hlki] at hq; exact Nat.lt_of_lt_of_le (lk_mem hq).1 hntle
    have ht256 := Nat.lt_of_lt_of_le ht hntle
    cases hw : writer ops t with
    | some j =>
      obtain ⟨hj, oj, hoj, hd⟩ := writer_spec hw
      by_cases hbj : i ∈ p.B j
      · refine .inr ⟨fun j' oj' hj' hd' => ?_, envOf_none ht256 h256 fun q hq he => ?_⟩
        · rw [F.dst1 j' j oj' oj t hj' hoj hd' hd]; exact hbj
        · rw [hlki] at hq
          obtain ⟨_, _, h3, h4⟩ := lk_mem hq
          rw [he, hw] at h3
          injection h3 with h3
          exact h4 (h3 ▸ hbj)
      · have hm : (t, j) ∈ lkI p ops nt i := by rw [hlki]; exact lk_of hlk ht hw hbj
        refine .inl ⟨j, oj, hoj, hd, F.lk i o ho (t, j) (by rw [← hlki]; exact hm), ?_⟩
        show E2.rd t (envOf vs e0 (lkI p ops nt i)) = E2.rd j vs
        refine envOf_some ht256 h256 (fun q hq he => ?_) hm
        rw [hlki] at hq
        have := (lk_mem hq).2.2.1
        rw [he, hw] at this
        injection this with this
        exact this.symm
    | none =>
      refine .inr ⟨fun j oj hj hd => absurd hd (writer_none hw j oj hj), envOf_none ht256 h256 fun q hq he => ?_⟩
      rw [hlki] at hq
      have := (lk_mem hq).2.2.1
      rw [he, hw] at this
      cases this
  · intro i o ho t ht hlk
    show E2.rd t (envOf vs e0 (lkI p ops nt i)) = _
    have hlki : lkI p ops nt i = lkOf p ops nt i o := by unfold lkI; rw [ho]
    refine envOf_none (Nat.lt_of_lt_of_le ht hntle) (fun q hq => by rw [hlki] at hq; exact Nat.lt_of_lt_of_le (lk_mem hq).1 hntle) fun q hq he => ?_
    rw [hlki] at hq
    exact hlk (he ▸ (lk_mem hq).2.1)
  · intro i j hi hj hci hcj he
    obtain ⟨di, hdi, _, _, _, _, _, _, _, hii, _, _, _, hki, _⟩ := hop i _ (Array.getElem?_eq_getElem hi)
    obtain ⟨dj, hdj, _, _, _, _, _, _, _, hjj, _, _, _, hkj, _⟩ := hop j _ (Array.getElem?_eq_getElem hj)
    obtain ⟨k1, v1, a1, _⟩ := (chkVers_spec hv).1 di hdi (hki.trans hci)
    obtain ⟨k2, v2, a2, _⟩ := (chkVers_spec hv).1 dj hdj (hkj.trans hcj)
    have b1 : (ddOf p ops nt vs e0 ts alt s).key i = k1 := by
      show (match keyOf (E2.rd i vs) with | some (k, _) => k | none => _) = k1
      rw [← hii, a1]
    have b2 : (ddOf p ops nt vs e0 ts alt s).key j = k2 := by
      show (match keyOf (E2.rd j vs) with | some (k, _) => k | none => _) = k2
      rw [← hjj, a2]
    have hkk : k1 = k2 := by rw [← b1, ← b2]; exact he
    subst hkk
    have := (chkVers_spec hv).2 di hdi dj hdj (hki.trans hci) (hkj.trans hcj) k1 v1 v2 a1 a2
    rw [← hii, ← hjj, this]
  · intro i n hi hc hnode
    obtain ⟨di, hdi, _, _, _, _, _, _, _, hii, _, _, _, hki, _⟩ := hop i _ (Array.getElem?_eq_getElem hi)
    obtain ⟨k1, v1, a1, a2, a3, a4, _⟩ := (chkVers_spec hv).1 di hdi (hki.trans hc)
    have b1 : (ddOf p ops nt vs e0 ts alt s).ver i = v1 := by
      show (match keyOf (E2.rd i vs) with | some (_, v) => v | none => _) = v1
      rw [← hii, a1]
    rw [b1]
    have hnN : n < p.N := blt_iff.1 hnode
    rcases hNle hnN with h | ⟨hd, h⟩
    · have hlt : n < ts.length := by rw [hlen]; omega
      have hg : ts[n]? = some ts[n] := List.getElem?_eq_getElem hlt
      rw [hT (hTle hg)]
      exact a3 _ (List.mem_of_getElem? hg)
    · obtain ⟨A, B, a, b, sA, sb, s4, _, _, _, _, _, _, _, _, _, _, _, halt, _⟩ := hdia2 hd
      have : nodeSt ts alt n = some sb := by
        unfold nodeSt
        rw [List.getElem?_eq_none (by rw [hlen]; omega)]
        exact halt
      rw [hT this]
      exact a4 sb halt
  · intro i hi hc
    obtain ⟨di, hdi, _, _, _, _, _, _, _, hii, _, _, _, hki, _⟩ := hop i _ (Array.getElem?_eq_getElem hi)
    obtain ⟨k1, v1, a1, a2, a3, a4, _⟩ := (chkVers_spec hv).1 di hdi (hki.trans hc)
    have b1 : (ddOf p ops nt vs e0 ts alt s).ver i = v1 := by
      show (match keyOf (E2.rd i vs) with | some (_, v) => v | none => _) = v1
      rw [← hii, a1]
    rw [b1]
    exact a2
  · refine ⟨blt_iff.2 (by have := hNlt; omega), fun j _ => ?_, ?_⟩
    · show p.has 0 j = false
      cases hh : p.has 0 j with
      | false => rfl
      | true => have := (has_le (Nat.zero_le _)).1 hh; simp at this
    · rw [hT (hTle (show ts[0]? = some t0 by rw [hts0]; rfl))]
      exact hsub0
  · intro i o ho
    have hilt : i < ops.size := (Array.getElem?_eq_some_iff.1 ho).1
    obtain ⟨d, hd, iop, dd, gd, e1, e2, e3, e4, hix, hdop, hdgd, hdlk, hdk, hdn⟩ := hop i o ho
    refine ⟨iop, dd, gd, e1, e2, e3, fun n hnode hcompat => ?_⟩
    have hnN : n < p.N := blt_iff.1 hnode
    have henv : (ddOf p ops nt vs e0 ts alt s).env i = envOf vs e0 d.lk := by rw [hdlk]; rfl
    have hval : (ddOf p ops nt vs e0 ts alt s).val i = E2.rd d.ix vs := by rw [hix]; rfl
    rw [henv, hval, ← hdop, ← hdgd]
    have hcompatB : p.compatB i n = true := by
      unfold Plan.compatB
      simp only [Bool.and_eq_true, List.all_eq_true]
      refine ⟨fun j hj => ?_, fun j hj => ?_⟩
      · by_cases hc : p.cls j = 1
        · have := hcompat.1 j hj hc
          have this : p.has n j = true := this
          rw [this, Bool.or_true]
        · cases hb : Nat.beq (p.cls j) 1 with
          | true => exact absurd (beq_iff.1 hb) hc
          | false => rfl
      · have hc : p.cls j = 1 := beq_iff.1 (List.mem_filter.1 hj).2
        by_cases hm : i ∈ p.B j
        · have := hcompat.2.1 j hc hm
          have this : p.has n j = false := this
          rw [this]; simp
        · simp [hm]
    have hin : n ∈ p.nodesOf i := List.mem_filter.2 ⟨List.mem_range.2 hnN, hcompatB⟩
    rcases e4 with ⟨hc, hf⟩ | ⟨hc, hf⟩ | hc
    · have hdn := hdn (by rw [hc]; decide)
      obtain ⟨st, hst, hchk⟩ := chkNodes_mem (hn d hd) (hdn ▸ hin)
      rw [hT hst]
      have hchk : chkFloat vs e0 d st = true := by
        unfold chkNode at hchk
        rw [hdk, hc] at hchk
        exact hchk
      rcases chkFloat_spec (hdop ▸ hf) hchk with ⟨h1, h2⟩ | ⟨h1, h2⟩
      · exact .inl ⟨hc, h1, h2⟩
      · exact .inr (.inl ⟨hc, h1, h2⟩)
    · have hdn := hdn (by rw [hc]; decide)
      obtain ⟨st, hst, hchk⟩ := chkNodes_mem (hn d hd) (hdn ▸ hin)
      rw [hT hst]
      have hchk : chkAlloc vs e0 d st = true := by
        unfold chkNode at hchk
        rw [hdk, hc] at hchk
        exact hchk
      obtain ⟨k, v, h1, h2, sA', h3, h4⟩ := chkAlloc_spec hchk
      have b1 : (ddOf p ops nt vs e0 ts alt s).key i = k := by
        show (match keyOf (E2.rd i vs) with | some (k, _) => k | none => _) = k
        rw [← hix, h1]
      have b2 : (ddOf p ops nt vs e0 ts alt s).ver i = v := by
        show (match keyOf (E2.rd i vs) with | some (_, v) => v | none => _) = v
        rw [← hix, h1]
      exact .inr (.inr (.inr ⟨hc, h2, by rw [hdop]; exact hf, _, sA', h3, b1.symm, b2.symm, by rw [b1]; exact h4⟩))
    · refine .inr (.inr (.inl ⟨hc, ?_⟩))
      obtain ⟨k, hk⟩ := hmem i hilt hc
      obtain ⟨_, d', t1, t2, hd', hix', ht1, ht2, hfact⟩ := heffs k i hk
      have hdd : d' = d := hdix d' hd' d hd (hix'.trans hix.symm)
      rw [hdd] at hfact
      have hklt : k < p.effs.length := (List.getElem?_eq_some_iff.1 hk).1
      have hno : p.has n i = false := hcompat.2.2 hc
      have hwhat : ∀ {s' : St}, EffFact call e0 d vs t1 s' → (Gd.ok d.gd (envOf vs e0 d.lk) = false ∧ E2.rd d.ix vs = .undef ∧ s' = t1) ∨ (Gd.ok d.gd (envOf vs e0 d.lk) = true ∧ evOp d.op (envOf vs e0 d.lk) t1 = .ok (E2.rd d.ix vs) s') ∨
          (Gd.ok d.gd (envOf vs e0 d.lk) = true ∧ ∃ f as s1, evOp d.op (envOf vs e0 d.lk) t1 = .call f as s1 ∧ call f as s1 = .ok (E2.rd d.ix vs) s') := fun h => h
      rcases hNle hnN with hle | ⟨hd1, hn1⟩
      · have hnk : n ≤ k := by
          rcases Nat.lt_or_ge k n with h | h
          · have := (has_le hle).2 ((mem_take_idx hnd hk).2 h)
            rw [hno] at this; cases this
          · exact h
        rcases Nat.lt_or_ge n k with hlt | hge
        · -- the other way round
          have hnl : n < p.effs.length := by omega
          have hx : p.effs[n]? = some p.effs[n] := List.getElem?_eq_getElem hnl
          generalize p.effs[n] = x at hx
          have hcx := (heffs n x hx).1
          rcases pairsOK_idx F.pairs hx hk hlt with hB | ⟨hdia1, hn2⟩
          · have := hcompat.1 x hB hcx
            have this : p.has n x = true := this
            have := (has_le hle).1 this
            rw [mem_take_idx hnd hx] at this
            exact absurd this (Nat.lt_irrefl _)
          · obtain ⟨A, B, a, b, sA, sb, s4, hA, hB, hAix, hBix, ha', hb', hgA, hgB, hsA, hev1, hev2, halt, hsub⟩ := hdia2 hdia1
            have hkb : k = p.effs.length - 1 := by omega
            have hib : i = b := by rw [hkb, hb'] at hk; injection hk with hk; exact hk.symm
            have hdB : d = B := hdix d hd B hB (by rw [hix, hBix, hib])
            have hnn : n = p.effs.length - 2 := by omega
            have hst : nodeSt ts alt (p.effs.length + 1) = some sb := by
              unfold nodeSt
              rw [List.getElem?_eq_none (by rw [hlen]; omega)]
              exact halt
            have hTn : (ddOf p ops nt vs e0 ts alt s).T n = sA := hT (hTle (by rw [hnn]; exact hsA))
            rw [hTn, hdB]
            refine ⟨p.effs.length + 1, sb, blt_iff.2 (by unfold Plan.N; rw [hdia1]; exact Nat.lt_succ_self _), fun j => ?_, by rw [hT hst]; exact .refl _ _ _, .inr (.inl ⟨by rw [hgB]; rfl, hev1⟩)⟩
            show p.has (p.effs.length + 1) j = (p.has n j || j == i)
            apply bool_eq_iff
            rw [has_alt, Bool.or_eq_true, has_le hle, hnn, beq_iff_eq]
            have hdrop : p.effs.drop (p.effs.length - 1) = [b] := by
              have h1 : p.effs.length - 1 < p.effs.length := by omega
              rw [List.drop_eq_getElem_cons h1]
              have h2 : p.effs[p.effs.length - 1] = b := by
                rw [List.getElem?_eq_getElem h1] at hb'
                injection hb'
              rw [h2, List.drop_eq_nil_of_le (by omega)]
            rw [hdrop, List.mem_singleton, hib]
        · have hnk' : n = k := by omega
          subst hnk'
          rw [hT (hTle ht1)]
          refine ⟨n + 1, t2, blt_iff.2 (by have := hNlt; omega), fun j => ?_, by rw [hT (hTle ht2)]; exact .refl _ _ _, hwhat hfact⟩
          show p.has (n + 1) j = (p.has n j || j == i)
          apply bool_eq_iff
          rw [has_le (by omega), Bool.or_eq_true, has_le hle, beq_iff_eq, List.take_add_one, hk]
          simp
      · obtain ⟨A, B, a, b, sA, sb, s4, hA, hB, hAix, hBix, ha', hb', hgA, hgB, hsA, hev1, hev2, halt, hsub⟩ := hdia2 hd1
        have h2 := F.two hd1
        subst hn1
        have hka : k = p.effs.length - 2 := by
          rcases Nat.lt_trichotomy k (p.effs.length - 2) with h | h | h
          · have := has_alt.2 (.inl ((mem_take_idx hnd hk).2 h))
            rw [hno] at this; cases this
          · exact h
          · have hkb : k = p.effs.length - 1 := by omega
            have hm : i ∈ p.effs.drop (p.effs.length - 1) := List.mem_of_getElem? (i := 0) (by rw [List.getElem?_drop, Nat.add_zero, ← hkb]; exact hk)
            have := has_alt.2 (.inr hm)
            rw [hno] at this; cases this
        have hia : i = a := by rw [hka, ha'] at hk; injection hk with hk; exact hk.symm
        have hdA : d = A := hdix d hd A hA (by rw [hix, hAix, hia])
        have hst : nodeSt ts alt (p.effs.length + 1) = some sb := by
          unfold nodeSt
          rw [List.getElem?_eq_none (by rw [hlen]; omega)]
          exact halt
        rw [hT hst, hdA]
        refine ⟨p.effs.length, s4, blt_iff.2 hNlt, fun j => ?_, by rw [hT (hTle hfinm)]; exact hsub, .inr (.inl ⟨by rw [hgA]; rfl, hev2⟩)⟩
        show p.has p.effs.length j = (p.has (p.effs.length + 1) j || j == i)
        apply bool_eq_iff
        rw [has_le (Nat.le_refl _), Bool.or_eq_true, has_alt, beq_iff_eq, List.take_length, hia]
        have hsplit : p.effs = p.effs.take (p.effs.length - 2) ++ a :: p.effs.drop (p.effs.length - 1) := by
          have h1 : p.effs.length - 2 < p.effs.length := by omega
          have h3 : p.effs[p.effs.length - 2] = a := by
            rw [List.getElem?_eq_getElem h1] at ha'
            injection ha'
          have := List.take_append_drop (p.effs.length - 2) p.effs
          rw [List.drop_eq_getElem_cons h1, h3, show p.effs.length - 2 + 1 = p.effs.length - 1 by omega] at this
          exact this.symm
        have hmm : j ∈ p.effs ↔ j ∈ p.effs.take (p.effs.length - 2) ++ a :: p.effs.drop (p.effs.length - 1) := by rw [← hsplit]
        rw [hmm, List.mem_append, List.mem_cons]
        constructor
        · rintro (h | h | h)
          · exact .inl (.inl h)
          · exact .inr h
          · exact .inl (.inr h)
        · rintro ((h | h) | h)
          · exact .inl h
          · exact .inr (.inr h)
          · exact .inr (.inl h)
  · intro n hnode hall
    have hnN : n < p.N := blt_iff.1 hnode
    have hlt_of : ∀ {k x : Nat}, p.effs[k]? = some x → x < ops.size ∧ p.cls x = 1 := by
      intro k x hx
      obtain ⟨hc, d', t1, t2, hd', hix', _⟩ := heffs k x hx
      obtain ⟨i', _, he'⟩ := hent1 d' hd'
      obtain ⟨o', _, _, _, ho', _, _, _, _, f⟩ := ent_spec he'
      have : d'.ix = i' := by rw [f]
      rw [hix'] at this
      subst this
      exact ⟨(Array.getElem?_eq_some_iff.1 ho').1, hc⟩
    rcases hNle hnN with hle | ⟨hd1, hn1⟩
    · have hnm : n = p.effs.length := by
        rcases Nat.lt_or_ge n p.effs.length with h | h
        · have hx : p.effs[n]? = some p.effs[n] := List.getElem?_eq_getElem h
          obtain ⟨h1, h2⟩ := hlt_of hx
          have := hall _ h1 h2
          have := (has_le hle).1 this
          rw [mem_take_idx hnd hx] at this
          exact absurd this (Nat.lt_irrefl _)
        · omega
      subst hnm
      rw [hT (hTle hfinm)]
      exact .refl _ _ _
    · obtain ⟨A, B, a, b, sA, sb, s4, hA, hB, hAix, hBix, ha', hb', hgA, hgB, hsA, hev1, hev2, halt, hsub⟩ := hdia2 hd1
      have h2 := F.two hd1
      obtain ⟨h1, h3⟩ := hlt_of ha'
      have := hall _ h1 h3
      subst hn1
      exfalso
      rcases has_alt.1 this with h | h
      · rw [mem_take_idx hnd ha'] at h
        exact absurd h (Nat.lt_irrefl _)
      · obtain ⟨j, hj⟩ := List.mem_iff_getElem?.1 h
        rw [List.getElem?_drop] at hj
        have := nodup_idx hnd ha' hj
        omega
  · intro t ht i o ho hd
    have ht256 := Nat.lt_of_lt_of_le ht hntle
    refine envOf_some ht256 (fun q hq => Nat.lt_of_lt_of_le (fins_mem hq).1 hntle) (fun q hq he => ?_) (fins_of ho hd ht)
    obtain ⟨_, o', ho', hd'⟩ := fins_mem hq
    rw [he] at hd'
    exact F.dst1 q.2 i o' o t ho' ho hd' hd
  · intro t ht hno
    refine envOf_none (Nat.lt_of_lt_of_le ht hntle) (fun q hq => Nat.lt_of_lt_of_le (fins_mem hq).1 hntle) fun q hq he => ?_
    obtain ⟨_, o', ho', hd'⟩ := fins_mem hq
    exact hno q.2 o' ho' (he ▸ hd')
end
end Go.Ev

namespace Go.Ev
set_option linter.unusedVariables false

/-! ## The fast ones are the plain ones -/
section
variable {α β : Type}
theorem fAll_eq (p : α → Bool) : ∀ l : List α, fAll p l = l.all p
  | [] => rfl
  | h :: t => by
    have e : fAll p (h :: t) = Bool.rec (motive := fun _ => Bool) false (fAll p t) (p h) := rfl
    rw [e, fAll_eq p t, List.all_cons]
    cases p h <;> rfl
theorem fAny_eq (p : α → Bool) : ∀ l : List α, fAny p l = l.any p
  | [] => rfl
  | h :: t => by
    have e : fAny p (h :: t) = Bool.rec (motive := fun _ => Bool) (fAny p t) true (p h) := rfl
    rw [e, fAny_eq p t, List.any_cons]
    cases p h <;> rfl
theorem fMem_eq (a : Nat) : ∀ l : List Nat, fMem a l = l.contains a
  | [] => rfl
  | h :: t => by
    have e : fMem a (h :: t) = Bool.rec (motive := fun _ => Bool) (fMem a t) true (Nat.beq a h) := rfl
    rw [e, fMem_eq a t, List.contains_cons]
    have hb : (a == h) = Nat.beq a h := by
      rw [Bool.eq_iff_iff, beq_iff_eq]
      exact ⟨fun h => by subst h; exact Nat.beq_refl a, Nat.eq_of_beq_eq_true⟩
    rw [hb]
    cases Nat.beq a h <;> rfl
theorem fFilter_eq (p : α → Bool) : ∀ l : List α, fFilter p l = l.filter p
  | [] => rfl
  | h :: t => by
    have e : fFilter p (h :: t) = Bool.rec (motive := fun _ => List α) (fFilter p t) (h :: fFilter p t) (p h) := rfl
    rw [e, fFilter_eq p t, List.filter_cons]
    cases p h <;> rfl
theorem fGet?_eq : ∀ (l : List α) (i : Nat), fGet? l i = l[i]?
  | [], i => by simp only [List.getElem?_nil]; rfl
  | h :: t, 0 => rfl
  | h :: t, i + 1 => by
    rw [List.getElem?_cons_succ]
    exact fGet?_eq t i
theorem fGetD_eq : ∀ (l : List α) (d : α) (i : Nat), fGetD l d i = l.getD i d
  | [], d, i => by simp only [List.getD_nil]; rfl
  | h :: t, d, 0 => rfl
  | h :: t, d, i + 1 => by
    rw [List.getD_cons_succ]
    exact fGetD_eq t d i
theorem band_and (a b : Bool) : band a b = (a && b) := by cases a <;> rfl
theorem bnot_not (a : Bool) : bnot a = !a := by cases a <;> rfl
theorem brec_or (a b : Bool) : (Bool.rec (motive := fun _ => Bool) b true a : Bool) = (a || b) := by cases a <;> rfl
theorem brec_imp (a b : Bool) : (Bool.rec (motive := fun _ => Bool) true b a : Bool) = (!a || b) := by cases a <;> rfl
/-- with places, over an array's list -/
theorem fAllI_eq (p : Nat → α → Bool) : ∀ (l : List α) (k : Nat), fAllI p l k = ((List.range l.length).all fun i => Option.rec (motive := fun _ => Bool) false (fun x => p (k + i) x) l[i]?)
  | [], k => rfl
  | h :: t, k => by
    have e : fAllI p (h :: t) k = Bool.rec (motive := fun _ => Bool) false (fAllI p t (k + 1)) (p k h) := rfl
    rw [e, fAllI_eq p t (k + 1), List.length_cons, List.range_succ_eq_map, List.all_cons, List.all_map]
    have e2 : (fun i => (Option.rec (motive := fun _ => Bool) false (fun x => p (k + 1 + i) x) t[i]? : Bool)) = ((fun i => (Option.rec (motive := fun _ => Bool) false (fun x => p (k + i) x) (h :: t)[i]? : Bool)) ∘ Nat.succ) := by
      funext i
      show _ = (Option.rec (motive := fun _ => Bool) false (fun x => p (k + (i + 1)) x) (h :: t)[i + 1]? : Bool)
      rw [List.getElem?_cons_succ, show k + 1 + i = k + (i + 1) by omega]
    rw [e2]
    show Bool.rec (motive := fun _ => Bool) false _ (p k h) = (p (k + 0) h && _)
    rw [Nat.add_zero]
    cases p k h <;> rfl
end

theorem dstIsF_eq (ops : Array Oper) (t j : Nat) : dstIs ops t j = match ops.toList[j]? with | some o => dstIsF t o | none => false := by
  unfold dstIs
  rw [Array.getElem?_toList]
  cases ops[j]? with
  | none => rfl
  | some o =>
    show (o.dst == some t) = dstIsF t o
    unfold dstIsF
    cases o.dst with
    | none => rfl
    | some u =>
      show (some u == some t) = Nat.beq u t
      rw [Bool.eq_iff_iff, beq_iff_eq]
      exact ⟨fun h => by injection h with h; subst h; exact Nat.beq_refl u, fun h => by rw [Nat.eq_of_beq_eq_true h]⟩

theorem writerF_eq (t : Nat) : ∀ (l : List Oper) (k : Nat), writerF t l k = ((List.range l.length).find? (fun i => match l[i]? with | some o => dstIsF t o | none => false)).map (k + ·)
  | [], k => rfl
  | h :: l, k => by
    have e : writerF t (h :: l) k = Bool.rec (motive := fun _ => Option Nat) (writerF t l (k + 1)) (some k) (dstIsF t h) := rfl
    rw [e, writerF_eq t l (k + 1), List.length_cons, List.range_succ_eq_map, List.find?_cons]
    show _ = Option.map _ (match dstIsF t h with | true => some 0 | false => _)
    cases dstIsF t h with
    | true => rfl
    | false =>
      show Option.map (k + 1 + ·) _ = Option.map (k + ·) _
      rw [List.find?_map, Option.map_map]
      have e2 : (fun i => match l[i]? with | some o => dstIsF t o | none => false) = ((fun i => match (h :: l)[i]? with | some o => dstIsF t o | none => false) ∘ Nat.succ) := by
        funext i
        show _ = (match (h :: l)[i + 1]? with | some o => dstIsF t o | none => false)
        rw [List.getElem?_cons_succ]
      rw [e2]
      congr 1
      funext i
      show k + 1 + i = k + (i + 1)
      omega

theorem writer_eq (ops : Array Oper) (t : Nat) : writerF t ops.toList 0 = writer ops t := by
  rw [writerF_eq]
  unfold writer
  have e : dstIs ops t = fun i => match ops.toList[i]? with | some o => dstIsF t o | none => false := by funext j; exact dstIsF_eq ops t j
  rw [e, Array.length_toList]
  cases List.find? (fun i => match ops.toList[i]? with | some o => dstIsF t o | none => false) (List.range ops.size) with
  | none => rfl
  | some j => simp

theorem lkOfF_eq (p : Plan) (ops : Array Oper) (nt i : Nat) (o : Oper) : lkOfF p ops nt i o = lkOf p ops nt i o := by
  unfold lkOfF lkOf lkOf0
  induction o.looksAt ops with
  | nil => rfl
  | cons t l ih =>
    show Bool.rec (motive := fun _ => List (Nat × Nat)) _ (Option.rec (motive := fun _ => List (Nat × Nat)) _ _ (writerF t ops.toList 0)) (Nat.blt t nt) = _
    rw [List.filterMap_cons, writer_eq]
    cases Nat.blt t nt with
    | false => simpa using ih
    | true =>
      cases hw : writer ops t with
      | none => simpa using ih
      | some j =>
        show Bool.rec (motive := fun _ => List (Nat × Nat)) ((t, j) :: _) _ (fMem i (fGetD p.Bt [] j)) = _
        rw [fMem_eq, fGetD_eq]
        simp only [if_true, Option.map_some, List.filter_cons]
        show _ = if (!(p.Bt.getD j []).contains i) = true then _ else _
        cases (p.Bt.getD j []).contains i with
        | true => simpa using ih
        | false => simp only [Bool.not_false, if_true]; exact congrArg _ ih

theorem clsF_eq (p : Plan) (i : Nat) : clsF p i = p.cls i := fGetD_eq _ _ _
theorem effsF_eq (p : Plan) : effsF p = p.effs := by
  unfold effsF Plan.effs
  rw [fFilter_eq]
  congr 1
  funext i
  rw [clsF_eq]

theorem rankOKF_eq (md : Region.Mode) (size : Nat) (rk : List Nat) (i : Nat) (o : Oper) : rankOKF md size rk i o = rankOK md size rk i o := by
  unfold rankOKF rankOK
  rw [fAll_eq]
  congr 1
  funext e
  rw [brec_imp, band_and, fGetD_eq, fGetD_eq]

theorem dstAloneF_eq (ops : Array Oper) (i : Nat) (d : Option Tmp) : dstAloneF ops i d = dstAlone ops i d := by
  cases d with
  | none => rfl
  | some t =>
    show fAllI (fun j o => Bool.rec (motive := fun _ => Bool) (bnot (dstIsF t o)) true (Nat.beq i j)) ops.toList 0 = ((List.range ops.size).all fun j => Nat.beq i j || !dstIs ops t j)
    rw [fAllI_eq, Array.length_toList, Bool.eq_iff_iff, List.all_eq_true, List.all_eq_true]
    have key : ∀ j, j ∈ List.range ops.size → ((Option.rec (motive := fun _ => Bool) false (fun o => Bool.rec (motive := fun _ => Bool) (bnot (dstIsF t o)) true (Nat.beq i (0 + j))) ops.toList[j]? : Bool) = (Nat.beq i j || !dstIs ops t j)) := by
      intro j hj
      have hlt : j < ops.toList.length := by simpa using hj
      rw [dstIsF_eq, List.getElem?_eq_getElem hlt, Nat.zero_add]
      show Bool.rec (motive := fun _ => Bool) _ true (Nat.beq i j) = _
      rw [brec_or, bnot_not]
    constructor
    · intro h j hj; rw [← key j hj]; exact h j hj
    · intro h j hj; rw [key j hj]; exact h j hj

theorem opPlanOKF_eq {p : Plan} {ops : Array Oper} {nt i : Nat} {o : Oper} (ho : ops[i]? = some o) : opPlanOKF p ops nt i o = opPlanOK p ops nt i := by
  unfold opPlanOKF opPlanOK
  rw [ho]
  simp only [band_and, fAll_eq, fAny_eq, fMem_eq, fGetD_eq, brec_or, lkOfF_eq, dstAloneF_eq, rankOKF_eq]
  rfl

theorem permOKF_eq (p : Plan) (ops : Array Oper) (nt : Nat) : ∀ l, permOKF p ops nt l = permOK p ops nt l
  | [] => rfl
  | i :: l => by
    have e : permOKF p ops nt (i :: l) = band (bnot (fMem i l)) (band (Option.rec (motive := fun _ => Bool) false (fun o => fAll (fun q => band (bnot (fMem q.2 l)) (bnot (Nat.beq q.2 i))) (lkOfF p ops nt i o)) (fGet? ops.toList i))
      (band (Bool.rec (motive := fun _ => Bool) true (fAll (fun j => bnot (Nat.beq (clsF p j) 2)) l) (Nat.beq (clsF p i) 1)) (permOKF p ops nt l))) := rfl
    rw [e, permOKF_eq p ops nt l, fGet?_eq, Array.getElem?_toList]
    simp only [band_and, bnot_not, fMem_eq, brec_imp, fAll_eq, clsF_eq, lkOfF_eq]
    show _ = (!l.contains i && ((match ops[i]? with
      | some o => (lkOf p ops nt i o).all fun q => !l.contains q.2 && !Nat.beq q.2 i
      | none => false) && ((!Nat.beq (p.cls i) 1 || l.all (fun j => !Nat.beq (p.cls j) 2)) && permOK p ops nt l)))
    cases ops[i]? <;> rfl

theorem pairsOKF_eq (p : Plan) : ∀ l, pairsOKF p l = pairsOK p l
  | [] => rfl
  | a :: l => by
    have e : pairsOKF p (a :: l) = band (Bool.rec (motive := fun _ => Bool) (band p.dia (Nat.beq (List.length l) 1)) true (fAll (fun b => fMem a (fGetD p.Bt [] b)) l)) (pairsOKF p l) := rfl
    rw [e, pairsOKF_eq p l]
    simp only [band_and, brec_or, fAll_eq, fMem_eq, fGetD_eq]
    rfl

theorem planOKF_eq (p : Plan) (ops : Array Oper) (nt : Nat) : planOKF p ops nt = planOK p ops nt := by
  unfold planOKF planOK
  simp only [band_and, brec_imp, effsF_eq, permOKF_eq, pairsOKF_eq]
  have e : fAllI (opPlanOKF p ops nt) ops.toList 0 = (List.range ops.size).all (opPlanOK p ops nt) := by
    rw [fAllI_eq, Array.length_toList, Bool.eq_iff_iff, List.all_eq_true, List.all_eq_true]
    have key : ∀ j, j ∈ List.range ops.size → ((Option.rec (motive := fun _ => Bool) false (fun x => opPlanOKF p ops nt (0 + j) x) ops.toList[j]? : Bool) = opPlanOK p ops nt j) := by
      intro j hj
      have hlt : j < ops.size := List.mem_range.1 hj
      rw [Array.getElem?_toList, Array.getElem?_eq_getElem hlt, Nat.zero_add]
      exact opPlanOKF_eq (Array.getElem?_eq_getElem hlt)
    constructor
    · intro h j hj; rw [← key j hj]; exact h j hj
    · intro h j hj; rw [key j hj]; exact h j hj
  rw [e]

theorem nodesF_eq (p : Plan) (i : Nat) : nodesF p p.effs i = p.nodesOf i := by
  unfold nodesF Plan.nodesOf
  rw [fFilter_eq]
  have e1 : (Bool.rec (motive := fun _ => Nat) (Nat.succ (List.length p.effs)) (Nat.add (List.length p.effs) 2) p.dia : Nat) = p.N := by
    unfold Plan.N
    cases p.dia <;> rfl
  rw [e1]
  congr 1
  funext n
  unfold compatF Plan.compatB Plan.has
  have e2 : setOfF p p.effs n = p.setOf n := by
    unfold setOfF Plan.setOf
    cases h : Nat.ble n p.effs.length <;> simp
  simp only [band_and, fAll_eq, fMem_eq, brec_imp, fGetD_eq, clsF_eq, bnot_not, e2]
  rfl

theorem entOfF_eq (P : Program) (gs : Nat → Bool) (ops : Array Oper) (nt : Nat) (p : Plan) (i : Nat) : entOfF P gs ops nt p p.effs i = entOf P gs ops nt p i := by
  unfold entOfF entOf
  rw [fGet?_eq, Array.getElem?_toList]
  cases ops[i]? with
  | none => rfl
  | some o =>
    simp only
    split
    · rename_i iop d gd h1 h2 h3
      simp only [lkOfF_eq, clsF_eq, nodesF_eq, band_and, brec_or]
      rw [show ((Nat.beq (p.cls i) 0 && isFloat iop) || ((Nat.beq (p.cls i) 2 && isFresh iop) || Nat.beq (p.cls i) 1)) = ((Nat.beq (p.cls i) 0 && isFloat iop) || ((Nat.beq (p.cls i) 2 && isFresh iop) || Nat.beq (p.cls i) 1)) from rfl]
      have en : (Bool.rec (motive := fun _ => List Nat) (p.nodesOf i) [] (Nat.beq (p.cls i) 1) : List Nat) = (bif Nat.beq (p.cls i) 1 then [] else p.nodesOf i) := by cases Nat.beq (p.cls i) 1 <;> rfl
      rw [en]
      cases ((Nat.beq (p.cls i) 0 && isFloat iop) || ((Nat.beq (p.cls i) 2 && isFresh iop) || Nat.beq (p.cls i) 1)) <;> rfl
    · rfl

theorem entsOfF_eq (P : Program) (gs : Nat → Bool) (ops : Array Oper) (nt : Nat) (p : Plan) : ∀ l, entsOfF P gs ops nt p p.effs l = entsOf P gs ops nt p l
  | [] => rfl
  | i :: l => by
    have e : entsOfF P gs ops nt p p.effs (i :: l) = match entOfF P gs ops nt p p.effs i, entsOfF P gs ops nt p p.effs l with
      | some d, some l => some (d :: l)
      | _, _ => none := rfl
    rw [e, entsOfF_eq P gs ops nt p l, entOfF_eq]
    rfl

/-- a place that is written, with its writer -/
noncomputable def finOf (nt k i : Nat) (d : Option Tmp) : Option (Nat × Nat) := match d with
  | some t => if Nat.blt t nt then some (t, k + i) else none
  | none => none
theorem finsOfF_go (nt : Nat) : ∀ (l : List Oper) (k : Nat), (List.rec (motive := fun _ => Nat → List (Nat × Nat)) (fun _ => []) (fun o _ ih i => Option.rec (motive := fun _ => List (Nat × Nat)) (ih (Nat.succ i)) (fun t => Bool.rec (motive := fun _ => List (Nat × Nat)) (ih (Nat.succ i)) ((t, i) :: ih (Nat.succ i)) (Nat.blt t nt)) o.dst) l k : List (Nat × Nat)) =
      (List.range l.length).filterMap fun i => finOf nt k i ((l[i]?).bind (·.dst))
  | [], k => rfl
  | o :: l, k => by
    have e2 : (fun i => finOf nt (k + 1) i ((l[i]?).bind (·.dst))) = ((fun i => finOf nt k i (((o :: l)[i]?).bind (·.dst))) ∘ Nat.succ) := by
      funext i
      show _ = finOf nt k (i + 1) (((o :: l)[i + 1]?).bind (·.dst))
      rw [List.getElem?_cons_succ]
      unfold finOf
      rw [show k + 1 + i = k + (i + 1) by omega]
    have ih := finsOfF_go nt l (k + 1)
    rw [e2] at ih
    have e3 : (List.range (o :: l).length).filterMap (fun i => finOf nt k i (((o :: l)[i]?).bind (·.dst))) = match finOf nt k 0 o.dst with
      | none => (List.range l.length).filterMap ((fun i => finOf nt k i (((o :: l)[i]?).bind (·.dst))) ∘ Nat.succ)
      | some b => b :: (List.range l.length).filterMap ((fun i => finOf nt k i (((o :: l)[i]?).bind (·.dst))) ∘ Nat.succ) := by
      rw [List.length_cons, List.range_succ_eq_map, List.filterMap_cons, List.filterMap_map]
      have h0 : ((o :: l)[0]?).bind (·.dst) = o.dst := rfl
      rw [h0]
      cases finOf nt k 0 o.dst <;> rfl
    rw [e3, ← ih]
    cases hd : o.dst with
    | none => simp only [finOf, hd]
    | some t =>
      cases h : Nat.blt t nt with
      | true => simp only [finOf, h, if_true, Nat.add_zero]; show Option.rec (motive := fun _ => List (Nat × Nat)) _ _ o.dst = _; rw [hd]; show Bool.rec (motive := fun _ => List (Nat × Nat)) _ _ (Nat.blt t nt) = _; rw [h]
      | false => simp only [finOf, h, Bool.false_eq_true, if_false]; show Option.rec (motive := fun _ => List (Nat × Nat)) _ _ o.dst = _; rw [hd]; show Bool.rec (motive := fun _ => List (Nat × Nat)) _ _ (Nat.blt t nt) = _; rw [h]
theorem finsOfF_eq (ops : Array Oper) (nt : Nat) : finsOfF ops nt = finsOf ops nt := by
  unfold finsOfF finsOf
  rw [finsOfF_go, Array.length_toList]
  congr 1
  funext i
  rw [Array.getElem?_toList]
  unfold finOf
  cases (ops[i]?).bind (·.dst) with
  | none => rfl
  | some t => simp only [Nat.zero_add]

theorem drawC_eq (P : Program) (gs : Nat → Bool) (ops : Array Oper) (nt : Nat) (p : Plan) : drawC P gs ops nt p =
    bif planOK p ops nt then
      match entsOf P gs ops nt p p.perm, diaOf P gs ops nt p with
      | some l, some dia => .draw l (finsOf ops nt) dia
      | _, _ => .bad 408
    else .bad 404 := by
  unfold drawC
  rw [planOKF_eq, effsF_eq, entsOfF_eq, finsOfF_eq]
  cases planOK p ops nt with
  | false => rfl
  | true => cases entsOf P gs ops nt p p.perm <;> cases diaOf P gs ops nt p <;> rfl
end Go.Ev

namespace Go.Ev
set_option linter.unusedVariables false

section
variable {P : Program} {gs : Nat → Bool} {ρ : Rho} {base : Nat}
/-- what the evaluation of code says of how it leaves -/
def PostR (g : G) (ρ : Rho) (base nt : Nat) (s : St) (w : World) (dfs : List Deferred) (r : R) : Exit → Act → World → Prop := fun ex a' w' =>
  match r with
  | .norm e' s' => ex = .normal ∧ a'.defers = dfs ∧ ∃ g', Step g ρ base s w g' s' w' ∧ ER g' ρ nt e' a'
  | .exit id e' s' => ex = .exit id ∧ a'.defers = dfs ∧ ∃ g', Step g ρ base s w g' s' w' ∧ ER g' ρ nt e' a'
  | .ret e' s' => ex = .ret ∧ a'.defers = dfs ∧ ∃ g', Step g ρ base s w g' s' w' ∧ ER g' ρ nt e' a'
  | _ => False

def R.good : R → Prop
  | .norm _ _ | .exit _ _ _ | .ret _ _ => True
  | _ => False

theorem exists_least {p : Nat → Prop} : ∀ {n : Nat}, p n → ∃ m, p m ∧ ∀ k, p k → m ≤ k := by
  intro n
  induction n using Nat.strongRecOn with
  | _ n ih =>
    intro h
    by_cases hex : ∃ k, k < n ∧ p k
    · obtain ⟨k, hk, hp⟩ := hex
      exact ih k hk hp
    · exact ⟨n, h, fun k hk => Nat.le_of_not_lt fun hlt => hex ⟨k, hlt, hk⟩⟩

open Classical in
theorem wp_loop_fuel {c : Code} {Q : Exit → Act → World → Prop} (I : Nat → Act → World → Prop) (zero : ∀ a w, ¬ I 0 a w)
    (round : ∀ n a w, I (n + 1) a w → c.wp P (Exit.then (fun a' w' => I n a' w') Q) a w) {n : Nat} {a : Act} {w : World} (h : I n a w) : (Code.loop c).wp P Q a w := by
  let μ : Act → World → Nat := fun a w => if h : ∃ n, I n a w then (exists_least (p := fun n => I n a w) h.choose_spec).choose else 0
  have hμ : ∀ a w, (∃ n, I n a w) → I (μ a w) a w ∧ ∀ k, I k a w → μ a w ≤ k := by
    intro a w hx
    have e : μ a w = (exists_least (p := fun n => I n a w) hx.choose_spec).choose := dif_pos hx
    rw [e]
    exact (exists_least (p := fun n => I n a w) hx.choose_spec).choose_spec
  refine wp_loop (fun a w => ∃ n, I n a w) μ ⟨n, h⟩ ?_
  intro a w hx
  obtain ⟨h1, h2⟩ := hμ a w hx
  cases hm : μ a w with
  | zero => rw [hm] at h1; exact absurd h1 (zero a w)
  | succ m =>
    rw [hm] at h1
    refine wp_mono (round m a w h1) ?_
    intro ex a' w' hq
    cases ex with
    | normal =>
      have hq : I m a' w' := hq
      exact ⟨⟨m, hq⟩, Nat.lt_succ_of_le ((hμ a' w' ⟨m, hq⟩).2 m hq)⟩
    | _ => exact hq

theorem PostR.trans {g g1 : G} {nt : Nat} {w w1 : World} {s s1 : St} {dfs : List Deferred} {r : R} (h : Step g ρ base s w g1 s1 w1) {ex : Exit} {a' : Act} {w' : World} (hp : PostR g1 ρ base nt s1 w1 dfs r ex a' w') :
    PostR g ρ base nt s w dfs r ex a' w' := by
  cases r with
  | norm e' s' => obtain ⟨h1, h2, g', h3, h4⟩ := hp; exact ⟨h1, h2, g', h.trans h3, h4⟩
  | exit id e' s' => obtain ⟨h1, h2, g', h3, h4⟩ := hp; exact ⟨h1, h2, g', h.trans h3, h4⟩
  | ret e' s' => obtain ⟨h1, h2, g', h3, h4⟩ := hp; exact ⟨h1, h2, g', h.trans h3, h4⟩
  | _ => exact hp

theorem range_ops (ops : Array Oper) : (List.range ops.size).map (fun i => ops[i]?) = ops.toList.map some := by
  apply List.ext_getElem?
  intro k
  simp only [List.getElem?_map]
  by_cases hk : k < ops.size
  · simp [hk]
  · simp [hk]

theorem evDraw_sound (hO : OpSound P gs ρ base) (hF : FreshSound P gs ρ) {call : Nat → V → St → RC} (hC : CallSound P gs ρ base call) {nt id : Nat} {ops : Array Oper} {p : Plan} {e : E2} {s : St} {g : G} {a : Act} {w : World} {r : R}
    (h : evC call (drawC P gs ops nt p) e s = r) (hr : r.good) (hG : GlobR gs g) (hE : ER g ρ nt e a) (hW : WR g ρ base s w) : (Code.region id ops true).wp P (PostR g ρ base nt s w a.defers r) a w := by
  rw [drawC_eq] at h
  cases hpl : planOK p ops nt with
  | false => rw [hpl] at h; have h : R.bad 404 = r := h; subst h; exact hr.elim
  | true =>
    rw [hpl] at h
    have h : evC call (match entsOf P gs ops nt p p.perm, diaOf P gs ops nt p with
      | some l, some dia => .draw l (finsOf ops nt) dia
      | _, _ => .bad 408) e s = r := h
    cases hl : entsOf P gs ops nt p p.perm with
    | none => rw [hl] at h; have h : R.bad 408 = r := h; subst h; exact hr.elim
    | some l =>
      cases hd : diaOf P gs ops nt p with
      | none => rw [hl, hd] at h; have h : R.bad 408 = r := h; subst h; exact hr.elim
      | some dia =>
        rw [hl, hd] at h
        have h : evDraw call l (finsOf ops nt) dia e s = r := h
        rcases evDraw_inv h with ⟨x, rfl⟩ | ⟨vs, ts, alt, fin, hp, ha, hfin, hn, hv, rfl⟩
        · exact hr.elim
        · have F := plan_spec hpl
          have hK := draw_ok (ρ := ρ) (base := base) F hl hd hp ha hfin hn hv
          have hany : ∀ md, wpAny P md ops (PostR g ρ base nt s w a.defers (.norm (envOf vs e (finsOf ops nt)) fin)) ops.size (Array.replicate ops.size false) a w.drew := by
            intro md
            obtain ⟨rank, hrank⟩ := F.rank md
            have hrep : ∀ i, (Array.replicate ops.size false).getD i false = false := by
              intro i
              rw [Array.getD_eq_getD_getElem?, Array.getElem?_replicate]
              split <;> rfl
            refine draw_any (md := md) (dfs := a.defers) hO hF hC hK hE hG rank hrank (g := g) (n := 0) (fun g' a' w' hS hE' hd' => ⟨rfl, hd', g', hS, hE'⟩) ops.size ?_ ?_
            · exact Nat.le_trans List.countP_le_length (by simp)
            · refine ⟨hK.node0.1, by simp, fun i o _ hl => ?_, fun i _ hc => ?_, ?_, rfl, hE.1, fun i o t _ hl => ?_, fun t ht _ => hE.2.2 t ht, fun i hi hc _ => ?_⟩
              · rw [hrep] at hl; cases hl
              · rw [hrep, hK.node0.2.1 i hc]
              · have h0 : Step g ρ base s w g s w.drew := ⟨.refl g w, (Keep.refl g base w).drew, hW.drew, Nat.le_refl _, fun _ _ _ h _ => h⟩
                exact h0.sub hK.node0.2.2
              · rw [hrep] at hl; cases hl
              · exact hW.fresh _ _ (hK.vers0 i hi hc)
          refine wp_region_draw fun t => ?_
          unfold Region.schedule
          split
          · exact wpAny_sound ops.size t _ a _ (hany .any)
          · split
            · exact wpAny_sound ops.size (t / 2) _ a _ (hany .text)
            · exact wpAny_sound ops.size (t / 2) _ a _ (hany .gc)

theorem evC_sound (hO : OpSound P gs ρ base) (hF : FreshSound P gs ρ) {call : Nat → V → St → RC} (hC : CallSound P gs ρ base call) {nt : Nat} : ∀ (c : Code) {e : E2} {s : St} {g : G} {a : Act} {w : World} {r : R},
    evC call (compC P gs nt c) e s = r → r.good → GlobR gs g → ER g ρ nt e a → WR g ρ base s w → c.wp P (PostR g ρ base nt s w a.defers r) a w
  | .skip, e, s, g, a, w, r, h, hr, hG, hE, hW => by
    have h : R.norm e s = r := h
    subst h
    exact wp_skip ⟨rfl, rfl, g, .refl hW, hE⟩
  | .label l, e, s, g, a, w, r, h, hr, hG, hE, hW => by
    have h : R.norm e s = r := h
    subst h
    exact wp_label ⟨rfl, rfl, g, .refl hW, hE⟩
  | .ret, e, s, g, a, w, r, h, hr, hG, hE, hW => by
    have h : R.ret e s = r := h
    subst h
    exact wp_ret ⟨rfl, rfl, g, .refl hW, hE⟩
  | .exit id, e, s, g, a, w, r, h, hr, hG, hE, hW => by
    have h : R.exit id e s = r := h
    subst h
    exact wp_exit ⟨rfl, rfl, g, .refl hW, hE⟩
  | .region id ops false, e, s, g, a, w, r, h, hr, hG, hE, hW => by
    have h : evOps call (compOps P gs ops nt ops.toList) e s = r := h
    have hshape : ∀ (l : OpL) (e : E2) (s : St), (∃ e' s', evOps call l e s = .norm e' s') ∨ ∃ x, evOps call l e s = .bad x := by
      intro l
      induction l with
      | nil => intro e s; exact .inl ⟨e, s, rfl⟩
      | cons op run d gd rest ih =>
        intro e s
        rw [evOps_cons]
        cases Gd.ok gd e with
        | false => exact ih _ _
        | true =>
          cases run e s with
          | bad x => exact .inr ⟨x, rfl⟩
          | ok v s1 => exact ih _ _
          | call f args s1 =>
            show (∃ e' s', RC.rec (motive := fun _ => R) (fun v s'' => evOps call rest (d.put v e) s'') (fun w => .bad w) (call f args s1) = .norm e' s') ∨ _
            cases hcl : call f args s1 with
            | bad x => exact .inr ⟨x, by show RC.rec (motive := fun _ => R) (fun v s'' => evOps call rest (d.put v e) s'') (fun w => .bad w) (call f args s1) = _; rw [hcl]⟩
            | ok v s2 =>
              have := ih (d.put v e) s2
              rcases this with ⟨e', s', h⟩ | ⟨x, h⟩
              · exact .inl ⟨e', s', h⟩
              · refine .inr ⟨x, ?_⟩
                show RC.rec (motive := fun _ => R) (fun v s'' => evOps call rest (d.put v e) s'') (fun w => .bad w) (call f args s1) = _
                rw [hcl]
                exact h
    rcases hshape (compOps P gs ops nt ops.toList) e s with ⟨e', s', hn⟩ | ⟨x, hn⟩
    · rw [hn] at h
      subst h
      refine wp_region (evOps_sound hO hC ops.toList (List.range ops.size) (range_ops ops) hn hG hE hW ?_)
      intro a' w' g' h1 h2 h3
      exact ⟨rfl, h3, g', h1, h2⟩
    · rw [hn] at h
      subst h
      exact hr.elim
  | .region id ops true, e, s, g, a, w, r, h, hr, hG, hE, hW => evDraw_sound hO hF hC h hr hG hE hW
  | .seq x y, e, s, g, a, w, r, h, hr, hG, hE, hW => by
    have h : R.rec (motive := fun _ => R) (fun e s => goR (evC call (compC P gs nt y)) e s) (fun id e s => .exit id e s) (fun l e s => .goto l e s) (fun e s => .ret e s) (fun w => .bad w) (evC call (compC P gs nt x) e s) = r := h
    cases hx : evC call (compC P gs nt x) e s with
    | norm e1 s1 =>
      rw [hx] at h
      have h : evC call (compC P gs nt y) e1 s1 = r := h
      refine wp_seq (wp_mono (evC_sound hO hF hC x hx trivial hG hE hW) ?_)
      rintro ex a1 w1 ⟨rfl, hd, g1, hstep, hE1⟩
      show y.wp P _ a1 w1
      rw [← hd]
      exact wp_mono (evC_sound hO hF hC y h hr (hG.mono hstep.ext.le) hE1 hstep.wr) fun _ _ _ => PostR.trans hstep
    | exit id e1 s1 =>
      rw [hx] at h
      have h : R.exit id e1 s1 = r := h
      subst h
      refine wp_seq (wp_mono (evC_sound hO hF hC x hx trivial hG hE hW) ?_)
      rintro ex a1 w1 ⟨rfl, hd, g1, hstep, hE1⟩
      exact ⟨rfl, hd, g1, hstep, hE1⟩
    | ret e1 s1 =>
      rw [hx] at h
      have h : R.ret e1 s1 = r := h
      subst h
      refine wp_seq (wp_mono (evC_sound hO hF hC x hx trivial hG hE hW) ?_)
      rintro ex a1 w1 ⟨rfl, hd, g1, hstep, hE1⟩
      exact ⟨rfl, hd, g1, hstep, hE1⟩
    | goto l e1 s1 =>
      rw [hx] at h
      have h : R.goto l e1 s1 = r := h
      subst h
      exact hr.elim
    | bad x =>
      rw [hx] at h
      have h : R.bad x = r := h
      subst h
      exact hr.elim
  | .cond x c1 c2, e, s, g, a, w, r, h, hr, hG, hE, hW => by
    cases hx : compOpd gs nt x with
    | none =>
      have e1 : compC P gs nt (.cond x c1 c2) = .bad 400 := by simp only [compC, hx]
      rw [e1] at h
      have h : R.bad 400 = r := h
      subst h
      exact hr.elim
    | some p =>
      have e1 : compC P gs nt (.cond x c1 c2) = .cond p (compC P gs nt c1) (compC P gs nt c2) := by simp only [compC, hx]
      rw [e1] at h
      have h : OB.rec (motive := fun _ => R) (.bad 110) (fun b => Bool.rec (motive := fun _ => R) (evC call (compC P gs nt c2) e s) (evC call (compC P gs nt c1) e s) b) (V.bool? (p.val e)) = r := h
      have hv := opd_VR hG hE hx
      generalize hax : a.eval x = xv at hv
      generalize p.val e = pv at h hv
      cases hv with
      | bool b =>
        cases b with
        | true => exact wp_cond hax (evC_sound hO hF hC c1 h hr hG hE hW)
        | false => exact wp_cond hax (evC_sound hO hF hC c2 h hr hG hE hW)
      | _ =>
        have h : R.bad 110 = r := h
        subst h
        exact hr.elim
  | .block id b, e, s, g, a, w, r, h, hr, hG, hE, hW => by
    have h : R.rec (motive := fun _ => R) (fun e s => .norm e s) (fun id' e s => Bool.rec (motive := fun _ => R) (.exit id' e s) (.norm e s) (Nat.beq id' id)) (fun l e s => .goto l e s) (fun e s => .ret e s) (fun w => .bad w) (evC call (compC P gs nt b) e s) = r := h
    refine wp_block ?_
    cases hx : evC call (compC P gs nt b) e s with
    | norm e1 s1 =>
      rw [hx] at h
      have h : R.norm e1 s1 = r := h
      subst h
      refine wp_mono (evC_sound hO hF hC b hx trivial hG hE hW) ?_
      rintro ex a1 w1 ⟨rfl, hd, g1, hstep, hE1⟩
      exact ⟨rfl, hd, g1, hstep, hE1⟩
    | exit id' e1 s1 =>
      rw [hx] at h
      have h : Bool.rec (motive := fun _ => R) (.exit id' e1 s1) (.norm e1 s1) (Nat.beq id' id) = r := h
      refine wp_mono (evC_sound hO hF hC b hx trivial hG hE hW) ?_
      rintro ex a1 w1 ⟨rfl, hd, g1, hstep, hE1⟩
      show if id' = id then _ else _
      cases hb : Nat.beq id' id with
      | true =>
        rw [hb] at h
        have h : R.norm e1 s1 = r := h
        subst h
        rw [if_pos (beq_iff.1 hb)]
        exact ⟨rfl, hd, g1, hstep, hE1⟩
      | false =>
        rw [hb] at h
        have h : R.exit id' e1 s1 = r := h
        subst h
        rw [if_neg (fun he => by rw [beq_iff.2 he] at hb; cases hb)]
        exact ⟨rfl, hd, g1, hstep, hE1⟩
    | ret e1 s1 =>
      rw [hx] at h
      have h : R.ret e1 s1 = r := h
      subst h
      refine wp_mono (evC_sound hO hF hC b hx trivial hG hE hW) ?_
      rintro ex a1 w1 ⟨rfl, hd, g1, hstep, hE1⟩
      exact ⟨rfl, hd, g1, hstep, hE1⟩
    | goto l e1 s1 =>
      rw [hx] at h
      have h : R.goto l e1 s1 = r := h
      subst h
      exact hr.elim
    | bad x =>
      rw [hx] at h
      have h : R.bad x = r := h
      subst h
      exact hr.elim
  | .loop b, e, s, g, a, w, r, h, hr, hG, hE, hW => by
    let rounds := roundsN (evC call (compC P gs nt b))
    have h : rounds loopFuel e s = r := h
    refine wp_loop_fuel (Q := PostR g ρ base nt s w a.defers r) (fun n a1 w1 => ∃ e1 s1 g1, rounds n e1 s1 = r ∧ Step g ρ base s w g1 s1 w1 ∧ ER g1 ρ nt e1 a1 ∧ a1.defers = a.defers) ?_ ?_ (n := loopFuel) ⟨e, s, g, h, .refl hW, hE, rfl⟩
    · rintro a1 w1 ⟨e1, s1, g1, h1, _⟩
      have h1 : R.bad 111 = r := h1
      subst h1
      exact hr.elim
    · rintro n a1 w1 ⟨e1, s1, g1, h1, hstep, hE1, hd⟩
      have h1 : R.rec (motive := fun _ => R) (fun e s => goR (rounds n) e s) (fun id e s => .exit id e s) (fun l e s => .goto l e s) (fun e s => .ret e s) (fun w => .bad w) (evC call (compC P gs nt b) e1 s1) = r := h1
      cases hx : evC call (compC P gs nt b) e1 s1 with
      | norm e2 s2 =>
        rw [hx] at h1
        have h1 : rounds n e2 s2 = r := h1
        refine wp_mono (evC_sound hO hF hC b hx trivial (hG.mono hstep.ext.le) hE1 hstep.wr) ?_
        rintro ex a2 w2 ⟨rfl, hd2, g2, hstep2, hE2⟩
        exact ⟨e2, s2, g2, h1, hstep.trans hstep2, hE2, hd2.trans hd⟩
      | exit id e2 s2 =>
        rw [hx] at h1
        have h1 : R.exit id e2 s2 = r := h1
        subst h1
        refine wp_mono (evC_sound hO hF hC b hx trivial (hG.mono hstep.ext.le) hE1 hstep.wr) ?_
        rintro ex a2 w2 ⟨rfl, hd2, g2, hstep2, hE2⟩
        exact ⟨rfl, hd2.trans hd, g2, hstep.trans hstep2, hE2⟩
      | ret e2 s2 =>
        rw [hx] at h1
        have h1 : R.ret e2 s2 = r := h1
        subst h1
        refine wp_mono (evC_sound hO hF hC b hx trivial (hG.mono hstep.ext.le) hE1 hstep.wr) ?_
        rintro ex a2 w2 ⟨rfl, hd2, g2, hstep2, hE2⟩
        exact ⟨rfl, hd2.trans hd, g2, hstep.trans hstep2, hE2⟩
      | goto l e2 s2 =>
        rw [hx] at h1
        have h1 : R.goto l e2 s2 = r := h1
        subst h1
        exact hr.elim
      | bad x =>
        rw [hx] at h1
        have h1 : R.bad x = r := h1
        subst h1
        exact hr.elim
  | .scope b, e, s, g, a, w, r, h, hr, hG, hE, hW => by
    refine wp_scope_straight (wp_mono (evC_sound hO hF hC b h hr hG hE hW) ?_)
    intro ex a1 w1 hp
    cases ex with
    | goto l => cases r <;> first | exact hp.elim | (exact absurd hp.1 (by simp))
    | _ => exact hp
  | .goto l, e, s, g, a, w, r, h, hr, hG, hE, hW => by
    have h : R.bad 401 = r := h
    subst h
    exact hr.elim
  | .rangeFunc _ _ _ _, e, s, g, a, w, r, h, hr, hG, hE, hW => by
    have h : R.bad 402 = r := h
    subst h
    exact hr.elim
  | .refuse _, e, s, g, a, w, r, h, hr, hG, hE, hW => by
    have h : R.bad 403 = r := h
    subst h
    exact hr.elim
end
end Go.Ev

namespace Go.Ev
set_option linter.unusedVariables false

def NC : RO → Prop
  | .call _ _ _ => False
  | _ => True

theorem KP.nc {s : St} {r : RO} (h : KP s r) : NC r := by cases r <;> first | trivial | exact h
theorem FP.nc {k : K} {s : St} {r : RO} (h : FP k s r) : NC r := by cases r <;> first | trivial | exact h
theorem NC.bool {b : Bool} {x y : RO} (hx : NC x) (hy : NC y) : NC (Bool.rec (motive := fun _ => RO) x y b) := by cases b <;> assumption
theorem NC.alloc {elem sz n : Nat} {ch : V} {s : St} {k : K → Nat → St → RO} (h : ∀ a b c, NC (k a b c)) : NC (alloc elem sz n ch s k) := by
  unfold Ev.alloc
  cases s.nx with
  | zero => trivial
  | succ m => exact NC.bool trivial (h _ _ _)
theorem NC.row {f : K} {v : Nat} {s : St} {c : Nat → Nat → V → RO} (h : ∀ a b d, NC (c a b d)) : NC (row f v s c) := by
  unfold Ev.row
  cases Obj.cells? (H4.at f s.h) with
  | no => trivial
  | yes e sz ro a b vs =>
    show NC (OW.rec (motive := fun _ => RO) (.bad 23) (fun n ch => c sz n ch) (Ver.find v vs))
    cases Ver.find v vs; trivial; exact h _ _ _
theorem NC.getElems {es n : Nat} {f : K} {v o : Nat} {s : St} {k : V → RO} (h : ∀ l, NC (k l)) : NC (getElems es n f v o s k) := by
  unfold Ev.getElems
  cases n with
  | zero => exact h _
  | succ n => exact NC.row fun _ _ _ => NC.bool trivial (NC.bool trivial (h _))
theorem NC.write {f : K} {v o size : Nat} {s : St} {upd : Nat → V → V} {k : St → RO} (h : ∀ s', NC (k s')) : NC (write f v o size s upd k) := by
  unfold Ev.write
  cases Obj.cells? (H4.at f s.h) with
  | no => trivial
  | yes elem sz ro a b vs =>
    refine NC.bool (NC.bool trivial ?_) trivial
    cases Ver.from v vs with
    | none => trivial
    | more id n ch rest => exact NC.bool trivial (h _)
theorem NC.str {k : Nat → Nat → RO} {v : V} (h : ∀ a b, NC (k a b)) : NC (withStr v k) := by unfold withStr; cases V.str? v; trivial; exact h _ _

theorem NC.nat {k : Nat → RO} {v : V} (h : ∀ a, NC (k a)) : NC (withNat v k) := by
  unfold withNat
  cases V.int? v with
  | no => trivial
  | yes kd a => cases a with
    | ofNat m => exact h _
    | negSucc m => trivial
theorem NC.i64 {k : Nat → RO} {v : V} (h : ∀ a, NC (k a)) : NC (withI64 v k) := by
  unfold withI64 withInt
  cases V.int? v with
  | no => trivial
  | yes kd a =>
    refine NC.bool trivial ?_
    cases a with
    | ofNat m => exact h _
    | negSucc m => trivial

theorem NC.source {es : Nat} {x : V} {s : St} {k : Nat → (Nat → (V → RO) → RO) → RO} (h : ∀ n more, (∀ m kk, (∀ l, NC (kk l)) → NC (more m kk)) → NC (k n more)) : NC (source es x s k) := by
  unfold Ev.source
  cases V.sl? x with
  | no => exact NC.str fun _ _ => NC.bool trivial (h _ _ fun m kk hk => hk _)
  | nils => exact h _ _ fun m kk hk => hk _
  | yes f v o len cap ex es' => exact NC.bool trivial (h _ _ fun m kk hk => NC.getElems hk)

theorem NC.app {elem es : Nat} {x y : V} {s : St} : NC (evApp elem es x y s) := by
  unfold evApp
  refine NC.source fun n more hm => ?_
  have hnew : ∀ n l, NC (appNew elem es n l s) := fun n l => NC.alloc fun _ _ _ => trivial
  cases V.sl? x with
  | no => trivial
  | nils => exact NC.bool (NC.bool trivial (hm _ _ fun l => hnew _ _)) trivial
  | yes f v o len cap ex es' =>
    refine NC.bool trivial (NC.bool ?_ ?_)
    all_goals first
      | exact NC.bool (NC.bool trivial (hm _ _ fun l => NC.bool (by
          unfold appOpen
          cases Obj.cells? (H4.at f s.h) with
          | no => trivial
          | yes elem' sz ro a b vs =>
            show NC (Ver.rec (motive := fun _ => RO) _ _ (Ver.from v vs))
            cases Ver.from v vs with
            | none => trivial
            | more id nv ch rest =>
              refine NC.bool trivial ?_
              cases s.nx <;> trivial) (NC.getElems fun old => hnew _ _))) (NC.bool (hm _ _ fun l => NC.bool trivial (NC.write fun s' => trivial)) trivial)
      | exact NC.bool (hm _ _ fun l => NC.bool trivial (NC.write fun s' => trivial)) trivial
      | exact NC.bool trivial (hm _ _ fun l => NC.bool (by
          unfold appOpen
          cases Obj.cells? (H4.at f s.h) with
          | no => trivial
          | yes elem' sz ro a b vs =>
            show NC (Ver.rec (motive := fun _ => RO) _ _ (Ver.from v vs))
            cases Ver.from v vs with
            | none => trivial
            | more id nv ch rest =>
              refine NC.bool trivial ?_
              cases s.nx <;> trivial) (NC.getElems fun old => hnew _ _))

theorem NC.fillElems {es len : Nat} {e : E2} {k : V → RO} (h : ∀ c, NC (k c)) : ∀ {ps : PartL} {z : V}, NC (fillElems ps es len e z k) := by
  intro ps
  induction ps with
  | nil => intro z; exact h _
  | cons off size x rest ih =>
    intro z
    refine NC.bool ?_ (NC.bool trivial ih)
    cases V.agg? (x.val e) with
    | no => trivial
    | yes cs => exact NC.bool trivial ih

section
variable {P : Program} {gs : Nat → Bool} {g : G} {ρ : Rho} {base nt : Nat} {e : E2} {s : St} {a : Act} {w : World} {o : Oper} {iop : IOp}

def Ans (P : Program) (g : G) (ρ : Rho) (base : Nat) (s : St) (w : World) (a : Act) (o : Oper) (iop : IOp) (e : E2) : Prop :=
  (∀ v s', evOp iop e s = .ok v s' → OpOK P g ρ base s w a o v s') ∧
    (∀ f args s', evOp iop e s = .call f args s' → s' = s ∧ ∃ xs : List Value, VL g ρ args xs ∧ (GoodFn P f → (execOp a.eval o).run P w = .ok (.enter f xs.toArray) w))

theorem Ans.of (hn : NC (evOp iop e s)) (h : ∀ v s', evOp iop e s = .ok v s' → OpOK P g ρ base s w a o v s') : Ans P g ρ base s w a o iop e :=
  ⟨h, fun f args s' hc => by rw [hc] at hn; exact hn.elim⟩
theorem Ans.float (hf : isFloat iop = true) (h : ∀ v s', evOp iop e s = .ok v s' → OpOK P g ρ base s w a o v s') : Ans P g ρ base s w a o iop e := Ans.of (evOp_KP hf e s).nc h

theorem zeroCells_spec {t : TypeId} {z : V} (h : zeroCellsT P t = some z) : ∃ zv, (P.info? t).bind (·.zero) = some zv ∧ ofCells zv.cells.toList = some z := by
  unfold zeroCellsT at h
  cases hz : (P.info? t).bind (·.zero) with
  | none => rw [hz] at h; cases h
  | some zv => rw [hz] at h; exact ⟨zv, rfl, h⟩

theorem size_pos {t : TypeId} (h : (sizeT P t).any (0 < ·) = true) : ∃ n, sizeT P t = some (n + 1) := by
  cases hs : sizeT P t with
  | none => rw [hs] at h; cases h
  | some m =>
    cases m with
    | zero => rw [hs] at h; cases h
    | succ n => exact ⟨n, rfl⟩

variable (hG : GlobR gs g) (hE : ER g ρ nt e a) (hW : WR g ρ base s w)
include hG hE hW

theorem snd_alloc {t : TypeId} (ho : o.op = .alloc t) (h : compOp0 P gs nt (.alloc t) = some iop) : Ans P g ρ base s w a o iop e := by
  simp only [compOp0] at h
  split at h
  · rename_i n z hn hz
    split at h
    · rename_i hl
      injection h with h
      subst h
      obtain ⟨zv, h1, h2⟩ := zeroCells_spec hz
      exact Ans.of (NC.alloc (k := fun f v s' => .ok (.ptr f v 0) s') fun _ _ _ => trivial) fun v s' => op_new hG hE hW ho hn h1 h2 hl
    · cases h
  · cases h

theorem snd_box {t : TypeId} {x : Operand} (ho : o.op = .box t x) (h : compOp0 P gs nt (.box t x) = some iop) : Ans P g ρ base s w a o iop e := by
  simp only [compOp0] at h
  split at h
  · rename_i n p h1 h2 h3
    injection h with h
    subst h
    refine Ans.of ?_ fun v s' => op_boxN hG hE hW ho h3
    show NC (OV.rec (motive := fun _ => RO) _ _ (V.agg? (p.val e)))
    cases V.agg? (p.val e) with
    | no => trivial
    | yes cs => exact NC.bool trivial (NC.alloc fun _ _ _ => trivial)
  · rename_i p h1 h2 h3
    injection h with h
    subst h
    exact Ans.of (NC.bool trivial (NC.alloc fun _ _ _ => trivial)) fun v s' => op_box1 hG hE hW ho h3
  · cases h

theorem snd_build {t : TypeId} {ps : Array (Nat × Operand)} (ho : o.op = .build t ps) (h : compOp0 P gs nt (.build t ps) = some iop) : Ans P g ρ base s w a o iop e := by
  simp only [compOp0] at h
  split at h
  · rename_i fs z ht hz
    split at h
    · rename_i hall
      cases hps : compParts P gs nt (placeS P fs) ps.toList with
      | none => rw [hps] at h; cases h
      | some l =>
        rw [hps] at h
        injection h with h
        subst h
        obtain ⟨zv, h1, h2⟩ := zeroCells_spec hz
        refine Ans.float rfl fun v s' => op_buildS hG hE hW ho ht h1 h2 (fun f hf => ?_) hps
        have := List.all_eq_true.1 hall f hf
        exact Option.isSome_iff_exists.1 this
    · cases h
  · rename_i m el z ht hz
    split at h
    · rename_i n hn
      cases hps : compParts P gs nt (fun i => some (i * n, n)) ps.toList with
      | none => rw [hps] at h; cases h
      | some l =>
        rw [hps] at h
        injection h with h
        subst h
        obtain ⟨zv, h1, h2⟩ := zeroCells_spec hz
        exact Ans.float rfl fun v s' => op_buildA hG hE hW ho ht hn h1 h2 hps
    · cases h
  · cases h

theorem snd_buildSlice {t : TypeId} {len : Nat} {ps : Array (Nat × Operand)} (ho : o.op = .buildSlice t len ps) (h : compOp0 P gs nt (.buildSlice t len ps) = some iop) : Ans P g ρ base s w a o iop e := by
  simp only [compOp0] at h
  split at h
  · rename_i el ht
    split at h
    · rename_i n z hn hz
      split at h
      · cases h
      · rename_i hc
        simp only [Bool.or_eq_true, decide_eq_true_eq, Bool.not_eq_true', not_or, Bool.not_eq_false] at hc
        cases hps : compParts P gs nt (fun i => some (i, n + 1)) ps.toList with
        | none => rw [hps] at h; cases h
        | some l =>
          rw [hps] at h
          injection h with h
          subst h
          obtain ⟨zv, h1, h2⟩ := zeroCells_spec hz
          exact Ans.of (NC.fillElems fun _ => NC.alloc (k := fun f v s' => .ok (.sl f v 0 len len true (n + 1)) s') fun _ _ _ => trivial) fun v s' => op_mkSl hG hE hW ho ht hn h1 h2 hc.2 hc.1 hps
    · cases h
  · cases h

theorem snd_load {t : TypeId} {x : Operand} (ho : o.op = .load t x) (h : compOp0 P gs nt (.load t x) = some iop) : Ans P g ρ base s w a o iop e := by
  simp only [compOp0] at h
  split at h
  · rename_i n p h1 h2 h3
    injection h with h
    subst h
    exact Ans.float rfl fun v s' => op_ldN hG hE hW ho h1 h2 h3
  · rename_i n p h1 h2 h3
    injection h with h
    subst h
    exact Ans.float rfl fun v s' => op_ld1 hG hE hW ho h1 h3
  · cases h

theorem snd_store {t : TypeId} {x y : Operand} (ho : o.op = .store t x y) (h : compOp0 P gs nt (.store t x y) = some iop) : Ans P g ρ base s w a o iop e := by
  simp only [compOp0] at h
  split at h
  · rename_i n p q h1 h2 h3 h4
    injection h with h
    subst h
    refine Ans.of ?_ fun v s' => op_stN hG hE hW ho h2 h3 h4
    cases hh : evOp (.stN (n + 1) p q) e s with
    | call f as s1 => exact store_noCall rfl hh
    | _ => trivial
  · rename_i p q h1 h2 h3 h4
    injection h with h
    subst h
    refine Ans.of ?_ fun v s' => op_st1 hG hE hW ho h2 h3 h4
    cases hh : evOp (.st1 p q) e s with
    | call f as s1 => exact store_noCall rfl hh
    | _ => trivial
  · cases h

theorem snd_bin {op : BinOp} {t u : TypeId} {x y : Operand} (ho : o.op = .binOp op t x y u) (h : compBin P gs nt op t x y = some iop) (hpr : proved iop = true) : Ans P g ρ base s w a o iop e := by
  unfold compBin at h
  cases hx : compOpd gs nt x with
  | none => rw [hx] at h; cases h
  | some p =>
    cases hy : compOpd gs nt y with
    | none => rw [hx, hy] at h; cases h
    | some q =>
      rw [hx, hy] at h
      have bin : some (IOp.bin op p q) = some iop → Ans P g ρ base s w a o iop e := by
        intro h
        injection h with h
        subst h
        exact Ans.float rfl fun v s' => op_bin hG hE hW ho hx hy
      have eqs : (op = .eql ∨ op = .neq) → (match nilKind x, nilKind y with
          | _, some k => if typeKind P t == some k then some (IOp.eqNil (negOf op) k p) else none
          | some k, none => if typeKind P t == some k then some (.eqNil (negOf op) k q) else none
          | none, none => match P.underlying t with
          | some (.int _) | some .string => some (.bin op p q)
          | some .bool => some (.eqB (negOf op) p q)
          | some (.pointer e) => if (sizeT P e).any (0 < ·) then some (.eq (negOf op) p q) else none
          | some (.interface _) => some (.eqI (negOf op) (ifaceTab P (List.range P.types.size)) p q)
          | some (.struct _) => (flatT P t).map fun n => .eqFlat (negOf op) n p q
          | _ => none) = some iop → Ans P g ρ base s w a o iop e := by
        intro hop h
        split at h
        · rename_i k hk
          split at h
          · rename_i hk2
            injection h with h
            subst h
            exact Ans.float rfl fun v s' => op_eqNil hG hE hW hop (by simpa using hk2) (.inl ⟨ho, hk⟩) hx
          · cases h
        · rename_i k hk _
          split at h
          · rename_i hk2
            injection h with h
            subst h
            exact Ans.float rfl fun v s' => op_eqNil hG hE hW hop (by simpa using hk2) (.inr ⟨ho, hk⟩) hy
          · cases h
        · split at h
          · exact bin h
          · exact bin h
          · rename_i ht
            injection h with h
            subst h
            exact Ans.float rfl fun v s' => op_eqB hG hE hW hop ht ho hx hy
          · rename_i el ht
            split at h
            · rename_i hpos
              injection h with h
              subst h
              obtain ⟨n, hn⟩ := size_pos hpos
              exact Ans.float rfl fun v s' => op_eqPtr hG hE hW hop ht hn ho hx hy
            · cases h
          · injection h with h
            subst h
            exact absurd hpr (by simp [proved])
          · cases hf : flatT P t with
            | none => rw [hf] at h; cases h
            | some n =>
              rw [hf] at h
              injection h with h
              subst h
              exact absurd hpr (by simp [proved])
          · cases h
      have other : (match P.underlying t with
          | some (.int _) | some .string => some (IOp.bin op p q)
          | _ => none) = some iop → Ans P g ρ base s w a o iop e := by
        intro h
        split at h
        · exact bin h
        · exact bin h
        · cases h
      cases op <;> first
        | exact other h
        | exact eqs (.inl rfl) h
        | exact eqs (.inr rfl) h
        | (dsimp only at h
           split at h
           · injection h with h
             subst h
             first
               | exact Ans.float rfl fun v s' => op_shift (left := true) hG hE hW rfl ho hx hy
               | exact Ans.float rfl fun v s' => op_shift (left := false) hG hE hW rfl ho hx hy
           · cases h)

theorem snd_slice {t : TypeId} {x : Operand} {lo hi mx : Option Operand} (ho : o.op = .slice t x lo hi mx) (h : compOp0 P gs nt (.slice t x lo hi mx) = some iop) (hpr : proved iop = true) : Ans P g ρ base s w a o iop e := by
  simp only [compOp0] at h
  split at h
  · rename_i p pl ph ht hp hl hh hm
    injection h with h
    subst h
    cases mx with
    | none => exact Ans.float rfl fun v s' => op_cut hG hE hW ho ht hp hl hh
    | some y =>
      simp only [compOpt] at hm
      cases hy : compOpd gs nt y with
      | none => rw [hy] at hm; cases hm
      | some q => rw [hy] at hm; cases hm
  · rename_i el p pl ph pm ht hp hl hh hm
    cases hc : mx.isSome && hi.isNone with
    | true => rw [hc] at h; cases h
    | false =>
      rw [hc] at h
      have h : (sizeT P el).map (fun es => IOp.slice es p pl ph pm) = some iop := h
      cases hn : sizeT P el with
      | none => rw [hn] at h; cases h
      | some es =>
        rw [hn] at h
        injection h with h
        subst h
        refine Ans.float rfl fun v s' => op_slice hG hE hW ho ht hn (fun hmx => ?_) hp hl hh hm
        rw [hmx, Bool.true_and] at hc
        cases hi with
        | none => cases hc
        | some _ => rfl
  · rename_i n el p pl ph pm ht hp hl hh hm
    cases hn : sizeT P el with
    | none => rw [hn] at h; cases h
    | some es =>
      rw [hn] at h
      injection h with h
      subst h
      exact absurd hpr (by simp [proved])
  · cases h

theorem snd_fieldAddr {t : TypeId} {x : Operand} {i : Nat} (ho : o.op = .fieldAddr t x i) (h : compOp0 P gs nt (.fieldAddr t x i) = some iop) : Ans P g ρ base s w a o iop e := by
  simp only [compOp0] at h
  split at h
  · rename_i fs p ht hp
    split at h
    · rename_i fd hf
      split at h
      · rename_i hn
        injection h with h
        subst h
        cases hs : sizeT P fd.type with
        | none => rw [hs] at hn; cases hn
        | some n =>
          rw [hs] at hn
          exact Ans.float rfl fun v s' => op_fld hG hE hW ho ht hf hs (by simpa using hn) hp
      · cases h
    · cases h
  · cases h

theorem snd_field {t : TypeId} {x : Operand} {i : Nat} (ho : o.op = .field t x i) (h : compOp0 P gs nt (.field t x i) = some iop) : Ans P g ρ base s w a o iop e := by
  simp only [compOp0] at h
  split at h
  · rename_i fs p ht hp
    split at h
    · rename_i fd hf
      split at h
      · rename_i n h1 h2
        injection h with h
        subst h
        exact Ans.float rfl fun v s' => op_partN hG hE hW ho ht hf h1 h2 hp
      · rename_i n h1 h2
        injection h with h
        subst h
        exact Ans.float rfl fun v s' => op_part1 hG hE hW ho ht hf h1 hp
      · cases h
    · cases h
  · cases h

theorem snd_indexAddr {t : TypeId} {x y : Operand} (ho : o.op = .indexAddr t x y) (h : compOp0 P gs nt (.indexAddr t x y) = some iop) : Ans P g ρ base s w a o iop e := by
  simp only [compOp0] at h
  split at h
  · rename_i el p q ht hp hq
    cases hn : sizeT P el with
    | none => rw [hn] at h; cases h
    | some es =>
      rw [hn] at h
      injection h with h
      subst h
      exact Ans.float rfl fun v s' => op_ixA hG hE hW ho ht hn hp hq
  · rename_i n el p q ht hp hq
    cases hn : sizeT P el with
    | none => rw [hn] at h; cases h
    | some es =>
      rw [hn] at h
      injection h with h
      subst h
      exact Ans.float rfl fun v s' => op_ixArr hG hE hW ho ht hn hp hq
  · cases h

theorem snd_index {t : TypeId} {x y : Operand} (ho : o.op = .index t x y) (h : compOp0 P gs nt (.index t x y) = some iop) : Ans P g ρ base s w a o iop e := by
  simp only [compOp0] at h
  split at h
  · rename_i p q ht hp hq
    injection h with h
    subst h
    exact Ans.float rfl fun v s' => op_ixS hG hE hW ho ht hp hq
  · rename_i n el p q ht hp hq
    split at h
    · rename_i es h1 h2
      injection h with h
      subst h
      exact Ans.float rfl fun v s' => op_ixVN hG hE hW ho ht h1 h2 hp hq
    · rename_i h1 h2
      injection h with h
      subst h
      exact Ans.float rfl fun v s' => op_ixV1 hG hE hW ho ht h1 h2 hp hq
    · cases h
  · cases h

theorem snd_convert {t u : TypeId} {x : Operand} (ho : o.op = .convert t u x) (h : compConvert P gs nt t u x = some iop) (hpr : proved iop = true) : Ans P g ρ base s w a o iop e := by
  unfold compConvert at h
  split at h
  · rename_i k' k p hs hd hp
    injection h with h
    subst h
    exact Ans.float rfl fun v s' => op_cvI hG hE hW ho hs hd hp
  · rename_i p hs hd hp
    injection h with h
    subst h
    exact Ans.float rfl fun v s' => op_cvSame hG hE hW ho hs hd hp
  · injection h with h
    subst h
    exact absurd hpr (by simp [proved])
  · rename_i t' p hs hd hp
    split at h
    · rename_i hpos
      injection h with h
      subst h
      obtain ⟨n, hn⟩ := size_pos hpos
      exact Ans.float rfl fun v s' => op_toUns hG hE hW ho hs hd hn (Nat.succ_pos n) hp
    · cases h
  · rename_i t' p hs hd hp
    split at h
    · rename_i es hn
      injection h with h
      subst h
      exact Ans.float rfl fun v s' => op_fromUns hG hE hW ho hs hd hn hp
    · cases h
  · cases h
  · cases h

theorem snd_makeInterface {t : TypeId} {x : Operand} (ho : o.op = .makeInterface t x) (h : compOp0 P gs nt (.makeInterface t x) = some iop) : Ans P g ρ base s w a o iop e := by
  simp only [compOp0] at h
  split at h
  · cases h
  · rename_i d p hd ht hp
    injection h with h
    subst h
    exact Ans.float rfl fun v s' => op_mkIf hG hE hW ho ht (fun ms hh => hd ms hh) hp
  · cases h

omit hG hE hW in
theorem opds_one {xs : List Operand} {as : OpdL} {p : Opd} (h : compOpds gs nt xs = some as) (he : opdList as = [p]) : ∃ x, xs = [x] ∧ compOpd gs nt x = some p := by
  cases xs with
  | nil => simp [compOpds] at h; subst h; simp [opdList] at he
  | cons x xs =>
    simp only [compOpds] at h
    cases hx : compOpd gs nt x with
    | none => simp [hx] at h
    | some q =>
      cases hl : compOpds gs nt xs with
      | none => simp [hx, hl] at h
      | some l =>
        simp only [hx, hl, Option.some.injEq] at h
        subst h
        simp only [opdList, List.cons.injEq] at he
        obtain ⟨rfl, he⟩ := he
        cases xs with
        | nil => exact ⟨x, rfl, hx⟩
        | cons y ys =>
          simp only [compOpds] at hl
          cases hy : compOpd gs nt y with
          | none => simp [hy] at hl
          | some r =>
            cases hm : compOpds gs nt ys with
            | none => simp [hy, hm] at hl
            | some m => simp only [hy, hm, Option.some.injEq] at hl; subst hl; simp [opdList] at he

omit hG hE hW in
theorem opds_two {xs : List Operand} {as : OpdL} {p q : Opd} (h : compOpds gs nt xs = some as) (he : opdList as = [p, q]) : ∃ x y, xs = [x, y] ∧ compOpd gs nt x = some p ∧ compOpd gs nt y = some q := by
  cases xs with
  | nil => simp [compOpds] at h; subst h; simp [opdList] at he
  | cons x xs =>
    simp only [compOpds] at h
    cases hx : compOpd gs nt x with
    | none => simp [hx] at h
    | some r =>
      cases hl : compOpds gs nt xs with
      | none => simp [hx, hl] at h
      | some l =>
        simp only [hx, hl, Option.some.injEq] at h
        subst h
        simp only [opdList, List.cons.injEq] at he
        obtain ⟨rfl, he⟩ := he
        obtain ⟨y, hy1, hy2⟩ := opds_one hl he
        subst hy1
        exact ⟨x, y, rfl, hx, hy2⟩

theorem snd_call {c : Call} (ho : o.op = .call c) (h : compCall P gs nt c = some iop) (hpr : proved iop = true) : Ans P g ρ base s w a o iop e := by
  unfold compCall at h
  split at h
  · rename_i f as hc has
    split at h
    · rename_i fn hfn
      split at h
      · rename_i hb
        split at h
        · cases h
        · rename_i hname
          injection h with h
          subst h
          refine ⟨fun v s' hh => ?_, fun f' args s' hh => ?_⟩
          · exact absurd (show RO.call f (as.vals e) s = .ok v s' from hh) (by simp)
          · have hh : RO.call f (as.vals e) s = .call f' args s' := hh
            injection hh with h1 h2 h3
            subst h1 h2 h3
            refine ⟨rfl, c.args.toList.map a.eval, opds_VL hG hE has, fun _ => ?_⟩
            have hne : fn.name ≠ "runtime.NumGoroutine" := by simpa using hname
            have hbn : fn.body ≠ none := fun hh => by rw [hh] at hb; cases hb
            have harr : (c.args.toList.map a.eval).toArray = c.args.map a.eval := by rw [← Array.toList_map]
            rw [harr]
            simp [execOp, ho, resolve, hc, Act.eval, Deferred.ofValue, invoke, callFunc, hfn, hne, hbn]
      · rename_i hb
        have hb : fn.body.isSome = false := by simpa using hb
        unfold externOp at h
        split at h
        · rename_i hor
          have hor : fn.origin = "" := by simpa using hor
          split at h
          · rename_i x hn hl
            obtain ⟨y, hy1, hy2⟩ := opds_one has hl
            have hargs : c.args = #[y] := by rw [← hy1]
            split at h
            · rename_i t ht
              split at h
              · rename_i el hu
                split at h
                · rename_i hel
                  injection h with h; subst h
                  refine Ans.of ?_ fun v s' => op_xNoZero hG hE hW ho hc hfn hb hn hor hargs hy2 ht hu (by simpa using hel)
                  exact NC.i64 fun n => NC.bool trivial (NC.alloc fun _ _ _ => trivial)
                · cases h
              · cases h
            · cases h
          · rename_i x y hn hl
            obtain ⟨x', y', hxy, hx, hy⟩ := opds_two has hl
            have hargs : c.args = #[x', y'] := by rw [← hxy]
            split at h
            · rename_i gi hgi
              split at h
              · rename_i hgs
                injection h with h; subst h
                refine Ans.of ?_ fun v s' => op_xIndex hG hE hW ho hc hfn hb hn hor hargs hx hy hgi hgs
                exact (KP.str (s := s) fun _ _ => KP.str fun _ _ => KP.load1 fun _ => KP.i64 fun _ => KP.ite (KP.okInt _ _) (KP.bad _)).nc
              · cases h
            · cases h
          · rename_i x y hn hl
            obtain ⟨x', y', hxy, hx, hy⟩ := opds_two has hl
            have hargs : c.args = #[x', y'] := by rw [← hxy]
            injection h with h; subst h
            exact Ans.float rfl fun v s' => op_xCount hG hE hW ho hc hfn hb hn hor hargs hx hy
          · rename_i x y hn hl
            obtain ⟨x', y', hxy, hx, hy⟩ := opds_two has hl
            have hargs : c.args = #[x', y'] := by rw [← hxy]
            injection h with h; subst h
            exact Ans.float rfl fun v s' => op_xIndexByte hG hE hW ho hc hfn hb hn hor hargs hx hy
          · rename_i x hn hl
            obtain ⟨y, hy1, hy2⟩ := opds_one has hl
            have hargs : c.args = #[y] := by rw [← hy1]
            injection h with h; subst h
            exact Ans.float rfl fun v s' => op_same hG hE hW ho hc hfn hb hn hor hargs hy2
          · cases h
        · cases h
    · cases h
  · rename_i x as _ hc has
    cases hx : compOpd gs nt x with
    | none => rw [hx] at h; cases h
    | some p =>
      rw [hx] at h; injection h with h; subst h
      have hv := opd_VR hG hE hx
      refine ⟨fun v s' hh => ?_, fun f args s' hh => ?_⟩
      · exfalso
        have hh : evCallV (p.val e) as e s = .ok v s' := hh
        unfold evCallV at hh
        split at hh <;> cases hh
      · have hh : evCallV (p.val e) as e s = .call f args s' := hh
        generalize hpv : p.val e = pv at hh hv
        generalize hax : a.eval x = xv at hv
        unfold evCallV at hh
        split at hh
        · rename_i f' first cap
          injection hh with h1 h2 h3
          subst h1 h2 h3
          cases hv with | fn hfirst hcap =>
          rename_i xs ys
          refine ⟨rfl, xs ++ (c.args.toList.map a.eval ++ ys), VL.app hfirst (opds_VLOn hG hE has hcap), fun hgood => ?_⟩
          obtain ⟨fn, hfn, hbn, hne⟩ := hgood
          have harr : (c.args.toList.map a.eval).toArray = c.args.map a.eval := by rw [← Array.toList_map]
          have hall : (xs ++ (c.args.toList.map a.eval ++ ys)).toArray = xs.toArray ++ c.args.map a.eval ++ ys.toArray := by rw [← harr]; simp
          rw [hall]
          simp [execOp, ho, resolve, hc, hax, Deferred.ofValue, invoke, callFunc, hfn, hne, hbn]
        · cases hh
  · rename_i x name as hc has
    cases hx : compOpd gs nt x with
    | none => rw [hx] at h; cases h
    | some p => rw [hx] at h; injection h with h; subst h; exact absurd hpr (by simp [proved])
  · rename_i b as hc has
    split at h
    · rename_i p t hl ht
      obtain ⟨x, hx1, hx2⟩ := opds_one has hl
      have hargs : c.args = #[x] := by rw [← hx1]
      have htys : c.argTypes = #[t] := by rw [← ht]
      split at h
      · rename_i hu
        injection h with h; subst h
        exact Ans.float rfl fun v s' => op_lenS hG hE hW ho hc hargs htys hu hx2
      · rename_i el hu
        injection h with h; subst h
        exact Ans.float rfl fun v s' => op_lenL hG hE hW ho hc hargs htys hu hx2
      · cases h
    · rename_i p t hl ht
      obtain ⟨x, hx1, hx2⟩ := opds_one has hl
      have hargs : c.args = #[x] := by rw [← hx1]
      have htys : c.argTypes = #[t] := by rw [← ht]
      split at h
      · rename_i el hu
        injection h with h; subst h
        refine Ans.of ?_ fun v s' => op_capL hG hE hW ho hc hargs htys hu hx2
        show NC (OL.rec (motive := fun _ => RO) _ _ _ (V.sl? (Opd.val p e)))
        cases V.sl? (Opd.val p e) with
        | no => trivial
        | nils => exact (KP.okNat (s := s) _ _).nc
        | yes f v o len cap ex es' => exact NC.bool trivial (KP.okNat (s := s) _ _).nc
      · cases h
    · rename_i p q hl
      obtain ⟨x, y, hxy, hx, hy⟩ := opds_two has hl
      have hargs : c.args = #[x, y] := by rw [← hxy]
      injection h with h; subst h
      exact Ans.float rfl fun v s' => op_minmax (max := false) (ps := as) hG hE hW ho hc hargs hx hy
    · rename_i p q hl
      obtain ⟨x, y, hxy, hx, hy⟩ := opds_two has hl
      have hargs : c.args = #[x, y] := by rw [← hxy]
      injection h with h; subst h
      exact Ans.float rfl fun v s' => op_minmax (max := true) (ps := as) hG hE hW ho hc hargs hx hy
    · rename_i p q t u hl ht
      obtain ⟨x, y, hxy, hx, hy⟩ := opds_two has hl
      have hargs : c.args = #[x, y] := by rw [← hxy]
      have htys : c.argTypes = #[t, u] := by rw [← ht]
      split at h
      · rename_i el hu
        split at h
        · rename_i es z hn hz
          split at h
          · rename_i hcond
            injection h with h; subst h
            simp only [Bool.and_eq_true] at hcond
            obtain ⟨⟨c1, c2⟩, c3⟩ := hcond
            obtain ⟨i, hi, hsz⟩ := info_of_size hn
            obtain ⟨zv, hz1, hz2⟩ := zeroCells_spec hz
            rw [hi, Option.bind_some] at hz1
            rw [hi] at c2
            obtain ⟨hv, _⟩ := ofCells_VL (g := g) (ρ := ρ) hz2
            have hl' := hv.lenIs c1
            refine Ans.of NC.app fun v s' => op_app hG hE hW (AppT.mk hu ?_ hi hsz hz1 (by simpa using hl') (by simpa using c2) (Nat.succ_pos es)) ho hc hargs htys hx hy
            unfold isSrcT at c3
            split at c3
            · rename_i e' he'; exact .inr ⟨e', he'⟩
            · rename_i he'; exact .inl he'
            · cases c3
          · cases h
        · cases h
      · cases h
    · rename_i p q t u hl ht
      obtain ⟨x, y, hxy, hx, hy⟩ := opds_two has hl
      have hargs : c.args = #[x, y] := by rw [← hxy]
      have htys : c.argTypes = #[t, u] := by rw [← ht]
      split at h
      · rename_i el hu
        split at h
        · rename_i es hn
          injection h with h; subst h
          refine Ans.of ?_ fun v s' => op_copy hG hE hW ho hc hargs htys hu hn hx hy
          show NC (evCopy (es + 1) (p.val e) (q.val e) s)
          unfold evCopy
          refine NC.source fun n more hm => ?_
          cases V.sl? (p.val e) with
          | no => trivial
          | nils => exact (KP.okNat (s := s) _ _).nc
          | yes f v o len cap ex es' =>
            exact NC.bool (hm _ _ fun l => NC.bool trivial (NC.write fun s' => (KP.okNat (s := s') _ _).nc)) (KP.okNat (s := s) _ _).nc
        · cases h
      · cases h
    · rename_i p hl
      obtain ⟨x, hx1, hx2⟩ := opds_one has hl
      have hargs : c.args = #[x] := by rw [← hx1]
      injection h with h; subst h
      exact Ans.float rfl fun v s' => op_sdata hG hE hW ho hc hargs hx2
    · rename_i p q pt it hl ht
      obtain ⟨x, y, hxy, hx, hy⟩ := opds_two has hl
      have hargs : c.args = #[x, y] := by rw [← hxy]
      have htys : c.argTypes = #[pt, it] := by rw [← ht]
      split at h
      · rename_i el hpt
        split at h
        · rename_i hel
          injection h with h; subst h
          refine Ans.of ?_ fun v s' => op_ustr hG hE hW ho hc hargs htys hpt (by simpa using hel) hx hy
          show NC (withNat (q.val e) fun n => evUStr el (p.val e) n s)
          unfold withNat
          cases V.int? (q.val e) with
          | no => trivial
          | yes kd n =>
            cases n with
            | negSucc m => trivial
            | ofNat n =>
              show NC (evUStr el (p.val e) n s)
              unfold evUStr
              split
              · exact NC.bool trivial trivial
              · cases n with
                | zero => trivial
                | succ m =>
                  refine NC.bool trivial ?_
                  unfold evUStrP
                  refine NC.getElems fun l => NC.bool trivial ?_
                  rename_i f v o _
                  cases Obj.cells? (H4.at f s.h) with
                  | no => trivial
                  | yes elem sz ro a b vs => exact NC.bool trivial (KP.okStr _ _).nc
              · trivial
        · cases h
      · cases h
    · cases h
  · cases h

theorem snd_all (h : compOp P gs nt o.op = some iop) : Ans P g ρ base s w a o iop e := by
  unfold compOp at h
  cases h0 : compOp0 P gs nt o.op with
  | none => rw [h0] at h; cases h
  | some i0 =>
    rw [h0] at h
    have h : (bif proved i0 then some i0 else none) = some iop := h
    cases hpr : proved i0 with
    | false => rw [hpr] at h; cases h
    | true =>
      rw [hpr] at h
      have h : some i0 = some iop := h
      injection h with h
      subst h
      cases hop : o.op <;> rw [hop] at h0
      case move x =>
        simp only [compOp0] at h0
        cases hx : compOpd gs nt x with
        | none => rw [hx] at h0; cases h0
        | some p => rw [hx] at h0; injection h0 with h0; subst h0; exact Ans.float rfl fun v s' => op_mv hG hE hW (.inl hop) hx
      case assign x =>
        simp only [compOp0] at h0
        cases hx : compOpd gs nt x with
        | none => rw [hx] at h0; cases h0
        | some p => rw [hx] at h0; injection h0 with h0; subst h0; exact Ans.float rfl fun v s' => op_mv hG hE hW (.inr hop) hx
      case pick c x y =>
        simp only [compOp0] at h0
        split at h0
        · rename_i pc px py h1 h2 h3
          injection h0 with h0; subst h0
          exact Ans.float rfl fun v s' => op_pick hG hE hW hop h1 h2 h3
        · cases h0
      case alloc t => exact snd_alloc hG hE hW hop h0
      case box t x => exact snd_box hG hE hW hop h0
      case build t ps => exact snd_build hG hE hW hop h0
      case buildSlice t len ps => exact snd_buildSlice hG hE hW hop h0
      case load t x => exact snd_load hG hE hW hop h0
      case store t x y => exact snd_store hG hE hW hop h0
      case nilCheck x =>
        simp only [compOp0] at h0
        cases hx : compOpd gs nt x with
        | none => rw [hx] at h0; cases h0
        | some p => rw [hx] at h0; injection h0 with h0; subst h0; exact Ans.float rfl fun v s' => op_chk hG hE hW hop hx
      case binOp op t x y u => exact snd_bin hG hE hW hop h0 hpr
      case unOp op t x =>
        simp only [compOp0] at h0
        split at h0
        · rename_i p hx; injection h0 with h0; subst h0; exact Ans.float rfl fun v s' => op_neg hG hE hW hop hx
        · rename_i p hx; injection h0 with h0; subst h0; exact Ans.float rfl fun v s' => op_not hG hE hW hop hx
        · cases h0
      case convert t u x => exact snd_convert hG hE hW hop h0 hpr
      case makeInterface t x => exact snd_makeInterface hG hE hW hop h0
      case makeFunc fn xs ys =>
        simp only [compOp0] at h0
        split at h0
        · rename_i p q h1 h2
          injection h0 with h0; subst h0
          exact Ans.float rfl fun v s' => op_mkFn hG hE hW hop h1 h2
        · cases h0
      case slice t x lo hi mx => exact snd_slice hG hE hW hop h0 hpr
      case fieldAddr t x i => exact snd_fieldAddr hG hE hW hop h0
      case field t x i => exact snd_field hG hE hW hop h0
      case indexAddr t x i => exact snd_indexAddr hG hE hW hop h0
      case index t x i => exact snd_index hG hE hW hop h0
      case range t x =>
        simp only [compOp0] at h0
        split at h0
        · rename_i p ht hx
          injection h0 with h0; subst h0
          refine Ans.of ?_ fun v s' => op_rng hG hE hW hop ht hx
          refine NC.str fun l d => ?_
          cases s.nx with
          | zero => trivial
          | succ m => exact NC.bool trivial trivial
        · cases h0
      case next x b =>
        cases b with
        | false => cases h0
        | true =>
          simp only [compOp0] at h0
          cases hx : compOpd gs nt x with
          | none => rw [hx] at h0; cases h0
          | some p =>
            rw [hx] at h0; injection h0 with h0; subst h0
            refine Ans.of ?_ fun v s' => op_nxt hG hE hW hop hx
            have hp : ∀ {v : V} {k : K → Nat → Nat → RO}, (∀ f i o, NC (k f i o)) → NC (withPtr v k) := by
              intro v k h
              unfold withPtr
              cases V.ptr? v; trivial; exact h _ _ _
            refine hp fun f i off => ?_
            cases H4.at f s.h with
            | siter v' l d pos =>
              refine NC.bool trivial (NC.bool ?_ ?_)
              · trivial
              · unfold decodeF
                refine NC.bool ?_ trivial
                cases decodeAt l d pos
                trivial
            | _ => trivial
      case typeAssert x t u ok =>
        simp only [compOp0] at h0
        split at h0
        · cases h0
        · rename_i d z p hd ht hz hx
          injection h0 with h0; subst h0
          unfold zeroT at hz
          obtain ⟨zz, hz1, hz2⟩ := Option.bind_eq_some_iff.1 hz
          refine Ans.of ?_ fun v s' => op_asrt hG hE hW hop ht (fun ms hh => hd ms hh) hz1 hz2 hx
          show NC (evAssert u z ok (p.val e) s)
          unfold evAssert
          split
          · split <;> trivial
          · split <;> split <;> trivial
          · trivial
        · cases h0
      case extract x i =>
        simp only [compOp0] at h0
        cases hx : compOpd gs nt x with
        | none => rw [hx] at h0; cases h0
        | some p => rw [hx] at h0; injection h0 with h0; subst h0; exact Ans.float rfl fun v s' => op_ext hG hE hW hop hx
      case makeSlice t l c =>
        simp only [compOp0] at h0
        split at h0
        · rename_i el ht
          split at h0
          · rename_i es z p q hn hz hp hq
            split at h0
            · rename_i hcond
              injection h0 with h0; subst h0
              simp only [Bool.and_eq_true] at hcond
              obtain ⟨c1, c2⟩ := hcond
              obtain ⟨i, hi, hsz⟩ := info_of_size hn
              obtain ⟨zv, hz1, hz2⟩ := zeroCells_spec hz
              rw [hi, Option.bind_some] at hz1
              rw [hi] at c2
              refine Ans.of ?_ fun v s' => op_mkMake hG hE hW hop ht hi hsz (by simpa using c2) hz1 hz2 c1 hp hq
              exact NC.nat fun _ => NC.nat fun _ => NC.bool trivial (NC.alloc fun _ _ _ => trivial)
            · cases h0
          · cases h0
        · cases h0
      case call c => exact snd_call hG hE hW hop h0 hpr
      all_goals (exact absurd h0 (by simp [compOp0]))
end

theorem op_sound (P : Program) (gs : Nat → Bool) (ρ : Rho) (base : Nat) : OpSound P gs ρ base :=
  fun nt o iop h g e s a w hG hE hW => snd_all hG hE hW h
end Go.Ev

namespace Go.Ev
set_option linter.unusedVariables false

section
variable {P : Program} {gs : Nat → Bool} {g : G} {ρ : Rho} {base nt : Nat} {e : E2} {s s' : St} {a : Act} {w : World} {o : Oper} {iop : IOp}

theorem fresh_sound (P : Program) (gs : Nat → Bool) (ρ : Rho) : FreshSound P gs ρ := by
  intro nt o iop h hf g e s s' a v hG hE hev
  unfold compOp at h
  cases h0 : compOp0 P gs nt o.op with
  | none => rw [h0] at h; cases h
  | some i0 =>
    rw [h0] at h
    have h : (bif proved i0 then some i0 else none) = some iop := h
    cases hpr : proved i0 with
    | false => rw [hpr] at h; cases h
    | true =>
      rw [hpr] at h
      have h : some i0 = some iop := h
      injection h with h
      subst h
      have hfloat : isFloat i0 = true → isFresh i0 = true → False := by intro h1 h2; cases i0 <;> simp [isFloat, isFresh] at h1 h2
      cases hop : o.op <;> rw [hop] at h0
      case alloc t =>
        simp only [compOp0] at h0
        split at h0
        · rename_i n z hn hz
          split at h0
          · rename_i hl
            injection h0 with h0
            subst h0
            obtain ⟨zv, h1, h2⟩ := zeroCells_spec hz
            exact op_newF hG hE hop hn h1 h2 hl hev
          · cases h0
        · cases h0
      case buildSlice t len ps =>
        simp only [compOp0] at h0
        split at h0
        · rename_i el ht
          split at h0
          · rename_i n z hn hz
            split at h0
            · cases h0
            · rename_i hc
              simp only [Bool.or_eq_true, decide_eq_true_eq, Bool.not_eq_true', not_or, Bool.not_eq_false] at hc
              cases hps : compParts P gs nt (fun i => some (i, n + 1)) ps.toList with
              | none => rw [hps] at h0; cases h0
              | some l =>
                rw [hps] at h0
                injection h0 with h0
                subst h0
                obtain ⟨zv, h1, h2⟩ := zeroCells_spec hz
                exact op_mkSlF hG hE hop ht hn h1 h2 hc.2 hc.1 hps hev
          · cases h0
        · cases h0
      case next x b =>
        cases b with
        | false => cases h0
        | true =>
          simp only [compOp0] at h0
          obtain ⟨p, _, h0⟩ := Option.map_eq_some_iff.1 h0
          subst h0
          exact absurd hf (by simp [isFresh])
      case slice t x lo hi mx =>
        exfalso
        simp only [compOp0] at h0
        split at h0
        · injection h0 with h0; subst h0; exact absurd hf (by simp [isFresh])
        · cases hc : mx.isSome && hi.isNone with
          | true => rw [hc] at h0; cases h0
          | false =>
            rw [hc] at h0
            obtain ⟨p, _, h0⟩ := Option.map_eq_some_iff.1 h0
            subst h0
            exact absurd hf (by simp [isFresh])
        · obtain ⟨p, _, h0⟩ := Option.map_eq_some_iff.1 h0
          subst h0
          exact absurd hf (by simp [isFresh])
        · cases h0
      all_goals
        exfalso
        simp only [compOp0, compBin, compConvert, compCall, externOp] at h0
        repeat' split at h0
      all_goals first
        | (cases h0; done)
        | (injection h0 with h0; subst h0; exact absurd hf (by simp [isFresh]))
        | (obtain ⟨p, _, h0⟩ := Option.map_eq_some_iff.1 h0; subst h0; exact absurd hf (by simp [isFresh]))
end
end Go.Ev

namespace Go.Ev
set_option linter.unusedVariables false

section
variable {P : Program} {gs : Nat → Bool} {g : G} {ρ : Rho} {base nt : Nat} {e : E2} {s s' : St} {a : Act} {w : World}

/-! ## Arguments -/
theorem VL.has_of {l : V} {xs : List Value} (h : VL g ρ l xs) : ∀ {n : Nat}, n ≤ xs.length → V.has n l = true := by
  intro n
  induction n generalizing l xs with
  | zero => intro _; rfl
  | succ n ih =>
    intro hn
    cases h with
    | nil => simp at hn
    | cons hx ht => exact ih ht (by simpa using hn)

theorem putArgs_cons (h t : V) (n : Nat) (e : E2) : putArgs (.cons h t) n e = putArgs t (n + 1) (E2.wr n h e) := rfl

theorem putArgs_sound : ∀ {xs : List Value} {l : V}, VL g ρ l xs → ∀ {n : Nat} {e : E2} {tm : Nat → Value}, n + xs.length ≤ nt → nt ≤ 256 → (∀ t, t < nt → VR g ρ (E2.rd t e) (tm t)) →
    ∀ t, t < nt → VR g ρ (E2.rd t (putArgs l n e)) (if n ≤ t ∧ t < n + xs.length then xs.getD (t - n) undef else tm t)
  | [], _, .nil, n, e, tm, hn, hnt, h, t, ht => by
    rw [if_neg (by rintro ⟨h1, h2⟩; simp only [List.length_nil] at h2; omega)]
    exact h t ht
  | x :: xs, _, .cons hx hl, n, e, tm, hn, hnt, h, t, ht => by
    rw [putArgs_cons]
    have hn : n + (xs.length + 1) ≤ nt := hn
    have := putArgs_sound hl (n := n + 1) (e := E2.wr n _ e) (tm := fun u => if u = n then x else tm u) (by omega) hnt (fun u hu => by
      rw [rd_wr (by omega) (by omega)]
      by_cases hun : u = n
      · rw [if_pos hun, if_pos hun]; exact hx
      · rw [if_neg hun, if_neg hun]; exact h u hu) t ht
    by_cases h1 : n + 1 ≤ t ∧ t < n + 1 + xs.length
    · rw [if_pos h1] at this
      rw [if_pos (by simp only [List.length_cons]; omega)]
      rw [show t - n = (t - (n + 1)) + 1 by omega, List.getD_cons_succ]
      exact this
    · rw [if_neg h1] at this
      by_cases htn : t = n
      · subst htn
        rw [if_pos (by simp only [List.length_cons]; omega), Nat.sub_self]
        rw [if_pos rfl] at this
        exact this
      · rw [if_neg htn] at this
        rw [if_neg (by simp only [List.length_cons]; omega)]
        exact this

theorem ER.enter {xs : List Value} {l : V} (hl : VL g ρ l xs) (hn : xs.length ≤ nt) (hnt : nt ≤ 256) :
    ER g ρ nt (putArgs l 0 E2.empty) { tmps := xs.toArray ++ Array.replicate (nt - xs.toArray.size) undef, defers := [] } := by
  refine ⟨by simp; omega, hnt, fun t ht => ?_⟩
  have := putArgs_sound hl (n := 0) (e := E2.empty) (tm := fun _ => undef) (by omega) hnt (fun u _ => by unfold E2.rd; rw [E2.at_empty]; exact .undef) t ht
  show VR g ρ (E2.rd t _) _
  have he : (xs.toArray ++ Array.replicate (nt - xs.toArray.size) undef).getD t undef = if 0 ≤ t ∧ t < 0 + xs.length then xs.getD (t - 0) undef else undef := by
    rw [Array.getD_eq_getD_getElem?, Array.getElem?_append]
    by_cases h : t < xs.length
    · rw [if_pos (by simpa using h), if_pos (by omega)]
      simp
    · rw [if_neg (by simpa using h), if_neg (by omega), Array.getElem?_replicate]
      split <;> rfl
  show VR g ρ _ ((xs.toArray ++ Array.replicate (nt - xs.toArray.size) undef).getD t undef)
  rw [he]
  exact this

/-! ## Results -/
noncomputable def resF (P : Program) (tmps : Array Value) (w : World) (r : ResultVar) : Value :=
  match (match r with
    | .tmp t => (pure (tmps.getD t undef) : Sem Value)
    | .cell a t => do loadVar t (← asAddr (tmps.getD a undef))).run P w with
  | .ok v _ => v
  | _ => undef

theorem results_inv (hE : ER g ρ nt e a) (hW : WR g ρ base s w) : ∀ {rs : List ResultVar} {rl : ResL}, compRes P nt rs = some rl → ∀ {k : V → RO} {r : RO}, results rl e s k = r → r.good →
    ∃ l, VL g ρ l (rs.map (resF P a.tmps w)) ∧ (∀ x ∈ rs, (match x with
      | .tmp t => (pure (a.tmps.getD t undef) : Sem Value)
      | .cell b t => do loadVar t (← asAddr (a.tmps.getD b undef))).run P w = .ok (resF P a.tmps w x) w) ∧ k l = r
  | [], rl, hc, k, r, h, hr => by
    simp [compRes] at hc
    subst hc
    exact ⟨.nil, .nil, (fun x hx => by cases hx), h⟩
  | .tmp t :: rs, rl, hc, k, r, h, hr => by
    simp only [compRes] at hc
    split at hc
    · rename_i ht
      have ht : @LT.lt Nat _ t nt := ht
      cases hrest : compRes P nt rs with
      | none => rw [hrest] at hc; cases hc
      | some rl' =>
        rw [hrest] at hc
        injection hc with hc
        subst hc
        obtain ⟨l, h1, h2, h3⟩ := results_inv hE hW hrest (show results rl' e s (fun t' => k (.cons (E2.at (D.dig (t / 16)) (D.dig (t % 16)) e) t')) = r from h) hr
        have hrun : (pure (a.tmps.getD t undef) : Sem Value).run P w = .ok (a.tmps.getD t undef) w := rfl
        have hF : resF P a.tmps w (.tmp t) = a.tmps.getD t undef := rfl
        refine ⟨.cons _ l, .cons (by rw [hF]; exact hE.2.2 t ht) h1, fun x hx => ?_, h3⟩
        rcases List.mem_cons.1 hx with rfl | hx
        · rw [hF]; rfl
        · exact h2 x hx
    · cases hc
  | .cell b t :: rs, rl, hc, k, r, h, hr => by
    simp only [compRes] at hc
    split at hc
    · rename_i hb
      have hb : @LT.lt Nat _ b nt := hb
      have hbv := hE.2.2 b hb
      split at hc
      · rename_i n hag hsz
        cases hrest : compRes P nt rs with
        | none => rw [hrest] at hc; cases hc
        | some rl' =>
          rw [hrest] at hc
          injection hc with hc
          subst hc
          have h : withPtr (E2.at (D.dig (b / 16)) (D.dig (b % 16)) e) (fun f v o => loadN (n + 1) f v o s fun c => results rl' e s fun t' => k (.cons (.agg c) t')) = r := h
          obtain ⟨f, i, off, hv, h⟩ := withPtr_inv h hr
          rw [hv] at hbv
          generalize hax : a.tmps.getD b undef = y at hbv
          cases hbv with | ptr hg hoff =>
          obtain ⟨cs, ys, hvl, hl, hcc, hcell, h⟩ := loadN_inv hW hg hoff h hr
          obtain ⟨l, h1, h2, h3⟩ := results_inv hE hW hrest h hr
          have hload := run_loadCells_list (P := P) w (Addr.mk _ _ none) ys (fun j y hj => by rw [addr_add]; exact hcell j y hj)
          rw [hl] at hload
          have hrun : (do loadVar t (← asAddr (a.tmps.getD b undef)) : Sem Value).run P w = .ok (.agg ys.toArray) w := by
            rw [hax]
            simp [asAddr, loadVar, run_isAgg hag, run_sizeOf hsz, hload]
          have hF : resF P a.tmps w (.cell b t) = .agg ys.toArray := by
            show (match (do loadVar t (← asAddr (a.tmps.getD b undef)) : Sem Value).run P w with | .ok v _ => v | _ => undef) = _
            rw [hrun]
          refine ⟨.cons (.agg cs) l, .cons (by rw [hF]; exact .agg hvl hcc) h1, fun x hx => ?_, h3⟩
          rcases List.mem_cons.1 hx with rfl | hx
          · rw [hF]; exact hrun
          · exact h2 x hx
      · rename_i hag hsz
        cases hrest : compRes P nt rs with
        | none => rw [hrest] at hc; cases hc
        | some rl' =>
          rw [hrest] at hc
          injection hc with hc
          subst hc
          have h : withPtr (E2.at (D.dig (b / 16)) (D.dig (b % 16)) e) (fun f v o => load1 f v o s fun c => results rl' e s fun t' => k (.cons c t')) = r := h
          obtain ⟨f, i, off, hv, h⟩ := withPtr_inv h hr
          rw [hv] at hbv
          generalize hax : a.tmps.getD b undef = y at hbv
          cases hbv with | ptr hg hoff =>
          obtain ⟨c, y, hcell, hvr, _, h⟩ := load1_inv hW hg hoff h hr
          obtain ⟨l, h1, h2, h3⟩ := results_inv hE hW hrest h hr
          have hrun : (do loadVar t (← asAddr (a.tmps.getD b undef)) : Sem Value).run P w = .ok y w := by
            rw [hax]
            simp [asAddr, loadVar, run_isAgg hag, hcell]
          have hF : resF P a.tmps w (.cell b t) = y := by
            show (match (do loadVar t (← asAddr (a.tmps.getD b undef)) : Sem Value).run P w with | .ok v _ => v | _ => undef) = _
            rw [hrun]
          refine ⟨.cons c l, .cons (by rw [hF]; exact hvr) h1, fun x hx => ?_, h3⟩
          rcases List.mem_cons.1 hx with rfl | hx
          · rw [hF]; exact hrun
          · exact h2 x hx
      · cases hc
    · cases hc

theorem endOf_sound (hE : ER g ρ nt e a) (hW : WR g ρ base s w) {fn : Func} {rl : ResL} (hc : compRes P nt fn.results.toList = some rl) {v : V} (h : endOf rl (fn.results.size == 1) e s = .ok v s') :
    s' = s ∧ ∃ x, (Go.results fn a.tmps).run P w = .ok x w ∧ VR g ρ v x := by
  unfold endOf at h
  generalize hr : results rl e s (fun l => Bool.rec (motive := fun _ => RO) (.ok (.tup l) s) (.ok (V.hd l) s) (fn.results.size == 1)) = r at h
  cases r with
  | bad x => exact absurd (show RC.bad x = .ok v s' from h) (by simp)
  | call f as s1 => exact absurd (show RC.bad 120 = .ok v s' from h) (by simp)
  | ok v1 s1 =>
    have h : RC.ok v1 s1 = .ok v s' := h
    injection h with h1 h2
    subst h1 h2
    obtain ⟨l, hl, hall, hk⟩ := results_inv hE hW hc hr trivial
    have hm := run_mapM_array (P := P) (w := w) (l := fn.results) (F := resF P a.tmps w) (f := fun x => match x with
      | .tmp t => (pure (a.tmps.getD t undef) : Sem Value)
      | .cell b t => do loadVar t (← asAddr (a.tmps.getD b undef))) hall
    have hrun : (Go.results fn a.tmps).run P w = .ok (if h : (fn.results.map (resF P a.tmps w)).size = 1 then (fn.results.map (resF P a.tmps w))[0] else .tuple (fn.results.map (resF P a.tmps w))) w := by
      unfold Go.results
      rw [Sem.run_bind]
      erw [hm]
      rfl
    cases hs : fn.results.size == 1 with
    | true =>
      rw [hs] at hk
      have hk : RO.ok (V.hd l) s = .ok v1 s1 := hk
      injection hk with hk1 hk2
      subst hk1 hk2
      refine ⟨rfl, _, hrun, ?_⟩
      have hs1 : (fn.results.map (resF P a.tmps w)).size = 1 := by simpa using hs
      rw [dif_pos hs1]
      obtain ⟨y, hy⟩ := Array.size_eq_one_iff.1 hs1
      have hlist : fn.results.toList.map (resF P a.tmps w) = [y] := by rw [← Array.toList_map, hy]
      rw [hlist] at hl
      cases hl with | cons hx ht =>
      simp only [hy]
      exact hx
    | false =>
      rw [hs] at hk
      have hk : RO.ok (.tup l) s = .ok v1 s1 := hk
      injection hk with hk1 hk2
      subst hk1 hk2
      refine ⟨rfl, _, hrun, ?_⟩
      have hs1 : ¬ (fn.results.map (resF P a.tmps w)).size = 1 := by simpa using hs
      rw [dif_neg hs1]
      have := VR.tup hl
      have harr : (fn.results.toList.map (resF P a.tmps w)).toArray = fn.results.map (resF P a.tmps w) := by rw [← Array.toList_map]
      rw [harr] at this
      exact this
end
end Go.Ev

namespace Go.Ev
set_option linter.unusedVariables false

theorem F3.at_put (k k' : K) (x : Fun) (t : F3) : F3.at k (F3.put k' x t) = if k.a = k'.a ∧ k.b = k'.b ∧ k.c = k'.c then x else F3.at k t := by
  simp only [F3.at, F3.put, F3.get_set]
  by_cases hc : k.c = k'.c <;> simp [hc, F2.get_set]
  by_cases hb : k.b = k'.b <;> simp [hb, F1.get_set]
theorem F3.at_empty (k : K) : F3.at k F3.empty = .none := by
  simp [F3.at, F3.empty, F3.get_all, F2.get_all, F1.get_all]

theorem ofNat_same {f n : Nat} (hf : f < 4096) (hn : n < 4096) : ((K.ofNat f).a = (K.ofNat n).a ∧ (K.ofNat f).b = (K.ofNat n).b ∧ (K.ofNat f).c = (K.ofNat n).c) ↔ f = n := by
  constructor
  · rintro ⟨h1, h2, h3⟩
    have h1 : f % 16 = n % 16 := D.dig_inj (by omega) (by omega) h1
    have h2 : f / 16 % 16 = n / 16 % 16 := D.dig_inj (by omega) (by omega) h2
    have h3 : f / 256 % 16 = n / 256 % 16 := D.dig_inj (by omega) (by omega) h3
    omega
  · rintro rfl
    exact ⟨rfl, rfl, rfl⟩

section
variable {P : Program} {gs : Nat → Bool} {ρ : Rho} {base : Nat}

theorem compAll_at {f : Nat} (hf : f < 4096) : ∀ {l : List Func} {n : Nat} {t : F3}, n + l.length ≤ 4096 →
    F3.at (K.ofNat f) (compAll P gs n l t) = if h : n ≤ f ∧ f < n + l.length then compFun P gs (l[f - n]'(by omega)) else F3.at (K.ofNat f) t
  | [], n, t, h => by
    rw [dif_neg (by rintro ⟨h1, h2⟩; simp only [List.length_nil] at h2; omega)]
    rfl
  | fn :: l, n, t, h => by
    have h : n + (l.length + 1) ≤ 4096 := h
    simp only [compAll]
    rw [compAll_at hf (by omega), F3.at_put]
    simp only [ofNat_same hf (show n < 4096 by omega)]
    by_cases h1 : n + 1 ≤ f ∧ f < n + 1 + l.length
    · rw [dif_pos h1, dif_pos (by simp only [List.length_cons]; omega)]
      congr 1
      rw [List.getElem_cons, dif_neg (by omega)]
      congr 1
    · rw [dif_neg h1]
      by_cases hfn : f = n
      · rw [if_pos hfn, dif_pos (by simp only [List.length_cons]; omega)]
        congr 1
        rw [List.getElem_cons, dif_pos (by omega)]
      · rw [if_neg hfn, dif_neg (by simp only [List.length_cons]; omega)]

theorem table_at {f : Nat} (hf : f < 4096) (hs : P.funcs.size ≤ 4096) {b : C} {r : ResL} {one : Bool} {nt : Nat} (h : F3.at (K.ofNat f) (table P gs) = .some b r one nt) : ∃ fn, P.funcs[f]? = some fn ∧ compFun P gs fn = .some b r one nt := by
  unfold table at h
  rw [compAll_at hf (by simpa using hs)] at h
  split at h
  · rename_i hh
    have hlt : f < P.funcs.size := by have := hh.2; simp only [Array.length_toList] at this; omega
    refine ⟨P.funcs[f], Array.getElem?_eq_getElem hlt, ?_⟩
    simpa using h
  · rw [F3.at_empty] at h
    cases h

theorem compFun_spec {fn : Func} {b : C} {r : ResL} {one : Bool} {nt : Nat} (h : compFun P gs fn = .some b r one nt) :
    fn.ntmps ≤ 256 ∧ fn.name ≠ "runtime.NumGoroutine" ∧ nt = fn.ntmps ∧ one = (fn.results.size == 1) ∧ ∃ c, fn.body = some c ∧ b = compC P gs fn.ntmps c ∧ compRes P fn.ntmps fn.results.toList = some r := by
  unfold compFun at h
  split at h
  · rename_i hn
    split at h
    · rename_i c r' hb hr
      injection h with h1 h2 h3 h4
      subst h1 h2 h3 h4
      exact ⟨hn.1, hn.2, rfl, rfl, c, hb, rfl, hr⟩
    · cases h
  · cases h

/-- calls known ahead are as they are said to be -/
def OrcOK (P : Program) (gs : Nat → Bool) (ρ : Rho) (base : Nat) : Orc → Prop
  | .nil => True
  | .more f as ans rest => GoodFn P f ∧ (∀ (s : St) (g : G) (w : World) (xs : List Value), GlobR gs g → WR g ρ base s w → VL g ρ as xs →
      Calls P f xs.toArray w fun en w' => ∃ x g', en = .returned x ∧ Step g ρ base s w g' s w' ∧ VR g' ρ ans x) ∧ OrcOK P gs ρ base rest
  | .place f ms rest => (∀ (i m : Nat), m ∈ ms → i % 4 = 3 → symM i = m → GoodFn P f ∧ ∀ (s : St) (g : G) (w : World) (xs : List Value), GlobR gs g → WR g ρ base s w → VL g ρ (.cons (.sym i) (.cons (.int .i64 (m : Int)) .nil)) xs →
      Calls P f xs.toArray w fun en w' => ∃ x g', en = .returned x ∧ Step g ρ base s w g' s w' ∧ VR g' ρ (.int .i64 (symLo i : Nat)) x) ∧ OrcOK P gs ρ base rest

theorem placeAns_inv {ms : List Nat} {args : V} {yes : V → RC} {no r : RC} (h : placeAns ms args yes no = r) : r = no ∨ ∃ i m, args = .cons (.sym i) (.cons (.int .i64 (Int.ofNat m)) .nil) ∧ m ∈ ms ∧ i % 4 = 3 ∧ symM i = m ∧ r = yes (.int .i64 (Int.ofNat (symLo i))) := by
  unfold placeAns at h
  split at h
  · rename_i i k m
    cases hb : band (Nat.beq (Nat.mod i 4) 3) (band (Nat.beq (symM i) m) (band (Nat.beq (kcode k) 3) (List.elem m ms))) with
    | false => rw [hb] at h; exact .inl h.symm
    | true =>
      rw [hb] at h
      obtain ⟨h1, hb⟩ := band_iff.1 hb
      obtain ⟨h2, hb⟩ := band_iff.1 hb
      obtain ⟨h3, h4⟩ := band_iff.1 hb
      have hk : k = .i64 := kcode_inj (show kcode k = kcode .i64 from beq_iff.1 h3)
      subst hk
      exact .inr ⟨i, m, rfl, List.mem_of_elem_eq_true h4, beq_iff.1 h1, beq_iff.1 h2, h.symm⟩
  · exact .inl h.symm

theorem find_inv {f : Nat} {args : V} {yes : V → RC} {no r : RC} : ∀ {o : Orc}, OrcOK P gs ρ base o → Orc.find o f args yes no = r → r = no ∨ ∃ ans, r = yes ans ∧ GoodFn P f ∧ ∀ (s : St) (g : G) (w : World) (xs : List Value), GlobR gs g → WR g ρ base s w → VL g ρ args xs →
      Calls P f xs.toArray w fun en w' => ∃ x g', en = .returned x ∧ Step g ρ base s w g' s w' ∧ VR g' ρ ans x
  | .nil, _, h => .inl h.symm
  | .more f' as ans rest, hO, h => by
    have h1 : Bool.rec (motive := fun _ => RC) (Orc.find rest f args yes no) (Bool.rec (motive := fun _ => RC) (Orc.find rest f args yes no) (yes ans) (same args as)) (Nat.beq f f') = r := h
    clear h
    cases hb : Nat.beq f f' with
    | false => rw [hb] at h1; exact find_inv hO.2.2 h1
    | true =>
      rw [hb] at h1
      have h2 : Bool.rec (motive := fun _ => RC) (Orc.find rest f args yes no) (yes ans) (same args as) = r := h1
      clear h1
      cases hs : same args as with
      | false => rw [hs] at h2; exact find_inv hO.2.2 h2
      | true =>
        rw [hs] at h2
        have h3 : yes ans = r := h2
        clear h2
        have hff := beq_iff.1 hb
        have haa := same_eq hs
        subst hff haa
        exact .inr ⟨ans, h3.symm, hO.1, hO.2.1⟩
  | .place f' ms rest, hO, h => by
    have h1 : Bool.rec (motive := fun _ => RC) (Orc.find rest f args yes no) (placeAns ms args yes (Orc.find rest f args yes no)) (Nat.beq f f') = r := h
    clear h
    cases hb : Nat.beq f f' with
    | false => rw [hb] at h1; exact find_inv hO.2 h1
    | true =>
      rw [hb] at h1
      have hff := beq_iff.1 hb
      subst hff
      rcases placeAns_inv (show placeAns ms args yes (Orc.find rest f args yes no) = r from h1) with h2 | ⟨i, m, h2, h3, h4, h5, h6⟩
      · exact find_inv hO.2 h2.symm
      · subst h2
        obtain ⟨h7, h8⟩ := hO.1 i m h3 h4 h5
        exact .inr ⟨_, h6, h7, h8⟩

theorem run_sound {orc : Orc} (hO : OrcOK P gs ρ base orc) (hs : P.funcs.size ≤ 4096) : ∀ fuel, CallSound P gs ρ base (run (table P gs) orc fuel)
  | 0 => fun f args s v s' h => absurd (show RC.bad 121 = .ok v s' from h) (by simp)
  | fuel + 1 => by
    intro f args s v s' h
    have h : Orc.find orc f args (fun v => .ok v s)
      (Fun.rec (motive := fun _ => RC) (.bad (Nat.add 1000 f))
        (fun body res one nt => Bool.rec (motive := fun _ => RC) (.bad 124) (R.rec (motive := fun _ => RC) (fun e s => endOf res one e s) (fun _ _ _ => .bad 122) (fun _ _ _ => .bad 123) (fun e s => endOf res one e s) (fun w => .bad w)
          (evC (run (table P gs) orc fuel) body (putArgs args 0 E2.empty) s)) (band (Nat.ble f 4095) (bnot (V.has (Nat.succ nt) args)))) (F3.at (K.ofNat f) (table P gs))) = .ok v s' := h
    rcases find_inv hO h with h1 | ⟨ans, h1, hgood, hcalls⟩
    · cases hat : F3.at (K.ofNat f) (table P gs) with
      | none => rw [hat] at h1; exact absurd (show RC.ok v s' = .bad (Nat.add 1000 f) from h1) (by simp)
      | some body res one nt =>
        rw [hat] at h1
        have h2 : RC.ok v s' = Bool.rec (motive := fun _ => RC) (.bad 124) (R.rec (motive := fun _ => RC) (fun e s => endOf res one e s) (fun _ _ _ => .bad 122) (fun _ _ _ => .bad 123) (fun e s => endOf res one e s) (fun w => .bad w)
          (evC (run (table P gs) orc fuel) body (putArgs args 0 E2.empty) s)) (band (Nat.ble f 4095) (bnot (V.has (Nat.succ nt) args))) := h1
        clear h1
        cases hb : band (Nat.ble f 4095) (bnot (V.has (Nat.succ nt) args)) with
        | false => rw [hb] at h2; exact absurd (show RC.ok v s' = .bad 124 from h2) (by simp)
        | true =>
          rw [hb] at h2
          obtain ⟨hb1, hb2⟩ := band_iff.1 hb
          have hflt : f < 4096 := Nat.lt_succ_of_le (ble_iff.1 hb1)
          obtain ⟨fn, hfn, hcf⟩ := table_at hflt hs hat
          obtain ⟨hn256, hname, rfl, hone, c, hbody, rfl, hres⟩ := compFun_spec hcf
          refine ⟨⟨fn, hfn, by rw [hbody]; simp, hname⟩, fun g w xs hG hW hxs => ?_⟩
          have hlen : xs.length ≤ fn.ntmps := by
            rcases Nat.lt_or_ge fn.ntmps xs.length with hh | hh
            · have := VL.has_of hxs (n := fn.ntmps + 1) hh
              have hb2 : bnot (V.has (fn.ntmps + 1) args) = true := hb2
              rw [this] at hb2
              cases hb2
            · exact hh
          have hE0 := ER.enter hxs hlen hn256
          refine calls_of_wp hfn hbody ?_
          have h1 : RC.ok v s' = R.rec (motive := fun _ => RC) (fun e s => endOf res one e s) (fun _ _ _ => .bad 122) (fun _ _ _ => .bad 123) (fun e s => endOf res one e s) (fun w => .bad w)
            (evC (run (table P gs) orc fuel) (compC P gs fn.ntmps c) (putArgs args 0 E2.empty) s) := h2
          have done : ∀ {e1 : E2} {s1 : St} {a1 : Act} {w1 : World} {g1 : G}, RC.ok v s' = endOf res one e1 s1 → a1.defers = [] → Step g ρ base s w g1 s1 w1 → ER g1 ρ fn.ntmps e1 a1 →
              a1.defers = [] ∧ ∃ y, (Go.results fn a1.tmps).run P w1 = .ok y w1 ∧ ∃ x g', Ending.returned y = .returned x ∧ Step g ρ base s w g' s' w1 ∧ VR g' ρ v x := by
            intro e1 s1 a1 w1 g1 he hd hS hE1
            rw [hone] at he
            obtain ⟨hs1, y, hy, hv⟩ := endOf_sound hE1 hS.wr hres he.symm
            subst hs1
            exact ⟨hd, y, hy, y, g1, rfl, hS, hv⟩
          cases hev : evC (run (table P gs) orc fuel) (compC P gs fn.ntmps c) (putArgs args 0 E2.empty) s with
          | norm e1 s1 =>
            rw [hev] at h1
            refine wp_mono (evC_sound (op_sound P gs ρ base) (fresh_sound P gs ρ) (run_sound hO hs fuel) c hev trivial hG hE0 hW) ?_
            rintro ex a1 w1 ⟨rfl, hd, g1, hS, hE1⟩
            exact done h1 hd hS hE1
          | ret e1 s1 =>
            rw [hev] at h1
            refine wp_mono (evC_sound (op_sound P gs ρ base) (fresh_sound P gs ρ) (run_sound hO hs fuel) c hev trivial hG hE0 hW) ?_
            rintro ex a1 w1 ⟨rfl, hd, g1, hS, hE1⟩
            exact done h1 hd hS hE1
          | exit id e1 s1 => rw [hev] at h1; exact absurd (show RC.ok v s' = .bad 122 from h1) (by simp)
          | goto l e1 s1 => rw [hev] at h1; exact absurd (show RC.ok v s' = .bad 123 from h1) (by simp)
          | bad x => rw [hev] at h1; exact absurd (show RC.ok v s' = .bad x from h1) (by simp)
    · injection h1 with h2 h3
      subst h2 h3
      exact ⟨hgood, fun g w xs hG hW hxs => hcalls s' g w xs hG hW hxs⟩
end
end Go.Ev

namespace Go.Ev
set_option linter.unusedVariables false

/-! ## Names of open numbers -/
theorem symLo_mk {tag lo m w : Nat} (ht : tag < 4) (hl : lo < 65536) : symLo (symMk tag lo m w) = lo := by
  show (tag + 4 * lo + 262144 * m + 17179869184 * w) / 4 % 65536 = lo
  omega
theorem symM_mk {tag lo m w : Nat} (ht : tag < 4) (hl : lo < 65536) (hm : m < 65536) : symM (symMk tag lo m w) = m := by
  show (tag + 4 * lo + 262144 * m + 17179869184 * w) / 262144 % 65536 = m
  omega
theorem symW_mk {tag lo m w : Nat} (ht : tag < 4) (hl : lo < 65536) (hm : m < 65536) : symW (symMk tag lo m w) = w := by
  show (tag + 4 * lo + 262144 * m + 17179869184 * w) / 17179869184 = w
  omega
theorem symTag_mk {tag lo m w : Nat} (ht : tag < 4) : symMk tag lo m w % 4 = tag := by
  show (tag + 4 * lo + 262144 * m + 17179869184 * w) % 4 = tag
  omega

/-! ## Values that lead nowhere -/
/-- no pointer; open numbers of the shared ones alone -/
noncomputable def flatV : V → Bool
  | .undef | .bool _ | .int _ _ | .str _ _ | .nilp | .nils | .nilm | .nilf | .nili | .nil => true
  | .sym i => Nat.beq (symW i) 99
  | .iface _ x => flatV x
  | .agg x => flatV x
  | .tup x => flatV x
  | .cons h t => flatV h && flatV t
  | _ => false

mutual
theorem VR.flat {g g' : G} {ρ ρ' : Rho} (hs : ∀ i, symW i = 99 → ρ'.f i = ρ.f i) : ∀ {v : V} {x : Value}, VR g ρ v x → flatV v = true → VR g' ρ' v x
  | _, _, .undef, _ => .undef
  | _, _, .bool b, _ => .bool b
  | _, _, .int k n, _ => .int k n
  | _, _, .str s, _ => .str s
  | _, _, .nilp, _ => .nilp
  | _, _, .ptr h ho, hf => by cases hf
  | _, _, .nils, _ => .nils
  | _, _, .sl h ho hcap hex hlen hfit ha, hf => by cases hf
  | _, _, .nilm, _ => .nilm
  | _, _, .map h, hf => by cases hf
  | _, _, .nilf, _ => .nilf
  | _, _, .fn ha hb, hf => by cases hf
  | _, _, .nili, _ => .nili
  | _, _, .iface h, hf => .iface (VR.flat hs h hf)
  | _, _, .agg h hc, hf => .agg (VL.flat hs h hf) hc
  | _, _, .tup h, hf => .tup (VL.flat hs h hf)
  | _, _, .sym i h, hf => by
    have e := hs i (beq_iff.1 hf)
    rw [← e] at h ⊢
    exact .sym i h
theorem VL.flat {g g' : G} {ρ ρ' : Rho} (hs : ∀ i, symW i = 99 → ρ'.f i = ρ.f i) : ∀ {l : V} {xs : List Value}, VL g ρ l xs → flatV l = true → VL g' ρ' l xs
  | _, _, .nil, _ => .nil
  | _, _, .cons h ht, hf => by
    have hf : (flatV _ && flatV _) = true := hf
    rw [Bool.and_eq_true] at hf
    exact .cons (VR.flat hs h hf.1) (VL.flat hs ht hf.2)
end

theorem flatV_hd {l : V} (h : flatV l = true) : flatV (V.hd l) = true := by
  cases l <;> first | rfl | (simp only [flatV, Bool.and_eq_true] at h; exact h.1)
theorem flatV_tl {l : V} (h : flatV l = true) : flatV (V.tl l) = true := by
  cases l <;> first | rfl | (simp only [flatV, Bool.and_eq_true] at h; exact h.2)
theorem flatV_nth {l : V} (h : flatV l = true) : ∀ n, flatV (V.nth n l) = true
  | 0 => flatV_hd h
  | n + 1 => flatV_nth (flatV_tl h) n
theorem flatV_elem {ch : V} (h : flatV ch = true) (e : Nat) : flatV (V.elem e ch) = true := flatV_nth (flatV_nth h _) _

/-! ## The package-level variables that are known -/
noncomputable def flatVer : Ver → Bool
  | .none => true
  | .more i _ ch rest => Nat.beq i 0 && (flatV ch && flatVer rest)
noncomputable def flatObj : Obj → Bool
  | .cells _ _ ro _ _ vs => ro && flatVer vs
  | _ => false
noncomputable def laidH : List (Nat × Obj) → H4
  | [] => H4.empty
  | (i, x) :: l => H4.put (gkey i) x (laidH l)
/-- of which none stands twice -/
noncomputable def laidOK : List (Nat × Obj) → Bool
  | [] => true
  | (i, x) :: l => Nat.blt i 4096 && (flatObj x && (l.all (fun y => !K.beq (gkey i) (gkey y.1)) && laidOK l))
noncomputable def gsOf (L : List (Nat × Obj)) (i : Nat) : Bool := L.any fun y => Nat.beq y.1 i
noncomputable def famOf (L : List (Nat × Obj)) (k : K) : Option Obj := (L.find? fun y => K.beq (gkey y.1) k).map (·.2)
noncomputable def startOf (L : List (Nat × Obj)) : St := ⟨laidH L, ⟨.x0, .x0, .x0, .x0⟩, 1⟩

theorem laidH_at : ∀ {L : List (Nat × Obj)} {k : K}, H4.at k (laidH L) = (famOf L k).getD .none
  | [], k => H4.at_empty k
  | (i, x) :: l, k => by
    show H4.at k (H4.put (gkey i) x (laidH l)) = _
    rw [H4.at_put, laidH_at (L := l)]
    unfold famOf
    rw [List.find?_cons]
    by_cases h : k = gkey i
    · subst h
      rw [if_pos rfl, (K.beq_iff _ _).2 rfl]
      rfl
    · rw [if_neg h]
      have : K.beq (gkey i) k = false := by
        cases hb : K.beq (gkey i) k with
        | false => rfl
        | true => exact absurd ((K.beq_iff _ _).1 hb).symm h
      simp only [this]

theorem famOf_flat {L : List (Nat × Obj)} (h : laidOK L = true) {k : K} {x : Obj} (hk : famOf L k = some x) : flatObj x = true := by
  induction L with
  | nil => cases hk
  | cons y l ih =>
    obtain ⟨i, z⟩ := y
    simp only [laidOK, Bool.and_eq_true] at h
    unfold famOf at hk
    rw [List.find?_cons] at hk
    cases hb : K.beq (gkey i) k with
    | true =>
      simp only [hb, Option.map_some, Option.some.injEq] at hk
      subst hk
      exact h.2.1
    | false =>
      simp only [hb] at hk
      exact ih h.2.2.2 hk

theorem flatVer_has {v n : Nat} {ch : V} : ∀ {vs : Ver}, flatVer vs = true → Ver.has v n ch vs → v = 0 ∧ flatV ch = true
  | .none, _, h => h.elim
  | .more i m c rest, hf, h => by
    simp only [flatVer, Bool.and_eq_true] at hf
    rcases h with ⟨h1, h2, h3⟩ | h
    · subst h1 h2 h3
      exact ⟨beq_iff.1 hf.1, hf.2.1⟩
    · exact flatVer_has hf.2.2 h

theorem famOf_ro {L : List (Nat × Obj)} (h : laidOK L = true) {k : K} {x : Obj} (hk : famOf L k = some x) : ∃ elem sz a b vs, x = .cells elem sz true a b vs ∧ flatVer vs = true := by
  have := famOf_flat h hk
  cases x with
  | cells elem sz ro a b vs =>
    simp only [flatObj, Bool.and_eq_true] at this
    obtain ⟨h1, h2⟩ := this
    subst h1
    exact ⟨elem, sz, a, b, vs, rfl, h2⟩
  | _ => cases this

theorem gsOf_fam {L : List (Nat × Obj)} {i : Nat} (h : gsOf L i = true) : (famOf L (gkey i)).isSome = true := by
  unfold gsOf at h
  rw [List.any_eq_true] at h
  obtain ⟨y, hy, hi⟩ := h
  have hi := beq_iff.1 hi
  unfold famOf
  rw [Option.isSome_map, List.find?_isSome]
  exact ⟨y, hy, by rw [hi]; exact (K.beq_iff _ _).2 rfl⟩

/-! ## A call from a fresh start -/
section
variable {P : Program} {L0 : List (Nat × Obj)} {ρ ρ0 : Rho} {base : Nat}

/-- the known variables alone, in whatever world -/
noncomputable def gFresh (L0 : List (Nat × Obj)) (g : G) : G := fun f v => if v = 0 ∧ (famOf L0 f).isSome = true then g f v else none

theorem gFresh_le (L0 : List (Nat × Obj)) (g : G) : G.le (gFresh L0 g) g := by
  intro f v L h
  unfold gFresh at h
  split at h
  · exact h
  · cases h

theorem wr_fresh {g : G} {s : St} {w : World} (hL : laidOK L0 = true) (hf : ρ.fam = famOf L0) (hf0 : ρ0.fam = famOf L0) (hs : ∀ i, symW i = 99 → ρ0.f i = ρ.f i) (hW : WR g ρ base s w) :
    WR (gFresh L0 g) ρ0 w.heap.size (startOf L0) w := by
  have hle := gFresh_le L0 g
  refine ⟨?_, ?_, ?_, ?_, Nat.le_refl _, ?_, ?_⟩
  · intro f v hv
    have hv : 1 ≤ v := hv
    unfold gFresh
    rw [if_neg]
    rintro ⟨h, _⟩
    omega
  · intro f v f' v' L L' h h' hb
    exact hW.inj (hle _ _ _ h) (hle _ _ _ h') hb
  · intro f v L h
    exact hW.lt (hle _ _ _ h)
  · intro f v L h
    have hg := hle _ _ _ h
    unfold gFresh at h
    split at h
    · rename_i hc
      obtain ⟨hv, hsome⟩ := hc
      subst hv
      obtain ⟨x, hx⟩ := Option.isSome_iff_exists.1 hsome
      have h0 := hW.obj hg
      rw [(hW.ro (by rw [hf]; exact hx)).1] at h0
      obtain ⟨elem, sz, a, b, vs, rfl, hfl⟩ := famOf_ro hL hx
      show ObjR _ ρ0 _ 0 L w (H4.at f (laidH L0))
      rw [laidH_at, hx]
      obtain ⟨h1, h2, h3, c, fz, h4, h5, h6, h7⟩ := h0
      refine ⟨fun h => (by cases h), h2, h3, c, fz, h4, h5, h6, ?_⟩
      intro n ch hv
      obtain ⟨h8, h9⟩ := h7 n ch hv
      refine ⟨h8, ?_⟩
      intro e he hk
      obtain ⟨k1, xs, k2, k3, k4, k5⟩ := h9 e he hk
      exact ⟨k1, xs, VL.flat hs k2 (flatV_elem (flatVer_has hfl hv).2 e), k3, k4, k5⟩
    · cases h
  · intro f elem sz ro a b vs v n ch hobj hv
    have hobj : H4.at f (laidH L0) = .cells elem sz ro a b vs := hobj
    rw [laidH_at] at hobj
    cases hx : famOf L0 f with
    | none => rw [hx] at hobj; cases hobj
    | some x =>
      rw [hx] at hobj
      have hobj : x = .cells elem sz ro a b vs := hobj
      obtain ⟨elem', sz', a', b', vs', he, hfl⟩ := famOf_ro hL hx
      rw [he] at hobj
      injection hobj with _ _ _ _ _ e6
      subst e6
      rw [(flatVer_has hfl hv).1]
      exact Nat.one_pos
  · intro k x hk
    rw [hf0] at hk
    obtain ⟨elem, sz, a, b, vs, h1, _⟩ := famOf_ro hL hk
    refine ⟨?_, elem, sz, a, b, vs, h1⟩
    show H4.at k (laidH L0) = x
    rw [laidH_at, hk]
    rfl

theorem glob_fresh {g : G} (hG : GlobR (gsOf L0) g) : GlobR (gsOf L0) (gFresh L0 g) := by
  intro i hi
  obtain ⟨csz, h⟩ := hG i hi
  refine ⟨csz, ?_⟩
  unfold gFresh
  rw [if_pos ⟨rfl, gsOf_fam hi⟩]
  exact h

/-- what is known of the old families stays where all old blocks stay -/
theorem step_kept {g g0 : G} {s : St} {w w' : World} (hW : WR g ρ base s w) (hk : Keep g0 w.heap.size w w') : Step g ρ base s w g s w' := by
  have hb : ∀ b, b < w.heap.size → w'.heap[b]? = w.heap[b]? := fun b hb => hk.blk b hb (.inl hb)
  refine ⟨.refl g w, ⟨hk.size, fun b h _ => hb b h, hk.os, hk.output, hk.tape⟩, ⟨hW.fresh, hW.inj, fun h => Nat.lt_of_lt_of_le (hW.lt h) hk.size, ?_, Nat.le_trans hW.base hk.size, hW.ids, hW.ro⟩, Nat.le_refl _, fun _ _ _ h _ => h⟩
  intro f v L h
  exact ObjR.mono (fun _ _ _ h => h) (hb _ (hW.lt h)) (hW.obj h)

/-- a call's answer, reckoned from a fresh start: for whatever stands in memory -/
theorem fresh_call (hL : laidOK L0 = true) (hf : ρ.fam = famOf L0) (hf0 : ρ0.fam = famOf L0) (hs : ∀ i, symW i = 99 → ρ0.f i = ρ.f i) {call : Nat → V → St → RC} (hC : ∀ base, CallSound P (gsOf L0) ρ0 base call)
    {f : Nat} {args ans : V} {s1 : St} (hrun : call f args (startOf L0) = .ok ans s1) (hans : flatV ans = true) {g : G} {s : St} {w : World} {xs : List Value} (hG : GlobR (gsOf L0) g) (hW : WR g ρ base s w)
    (hxs : VL (gFresh L0 g) ρ0 args xs) : GoodFn P f ∧ Calls P f xs.toArray w fun en w' => ∃ x g', en = .returned x ∧ Step g ρ base s w g' s w' ∧ VR g' ρ ans x := by
  obtain ⟨hgood, hcall⟩ := hC w.heap.size f args (startOf L0) ans s1 hrun
  refine ⟨hgood, (hcall (gFresh L0 g) w xs (glob_fresh hG) (wr_fresh hL hf hf0 hs hW) hxs).mono fun en w' h => ?_⟩
  obtain ⟨x, g', he, hstep, hv⟩ := h
  exact ⟨x, g, he, step_kept hW hstep.keep, hv.flat (fun i hi => (hs i hi).symm) hans⟩
end
end Go.Ev

namespace Go.Ev
open Go.RowKit
set_option linter.unusedVariables false

/-! ## Remainders of open numbers -/
noncomputable def RC.isInt (n : Nat) (r : RC) : Bool := match r with
  | .ok (.int k (.ofNat m)) _ => Nat.beq (kcode k) 3 && Nat.beq m n
  | _ => false
theorem isInt_inv {n : Nat} {r : RC} (h : RC.isInt n r = true) : ∃ s, r = .ok (.int .i64 (Int.ofNat n)) s := by
  unfold RC.isInt at h
  split at h
  · rename_i k m s
    rw [Bool.and_eq_true] at h
    have hk : k = .i64 := kcode_inj (show kcode k = kcode .i64 from beq_iff.1 h.1)
    have hm := beq_iff.1 h.2
    subst hk hm
    exact ⟨s, rfl⟩
  · cases h
theorem isTrue_inv {r : RC} (h : RC.isTrue r = true) : ∃ s, r = .ok (.bool true) s := by
  cases r with
  | bad w => cases h
  | ok v s =>
    cases v with
    | bool b =>
      have h : b = true := h
      subst h
      exact ⟨s, rfl⟩
    | _ => cases h

noncomputable def placeArgs (lo m : Nat) : V := .cons (.sym (symMk 2 lo m 0)) (.cons (.int .i64 (Int.ofNat m)) .nil)
/-- does f take remainders by m? -/
noncomputable def placeChk (T : F3) (fuel f : Nat) (s0 : St) (m : Nat) : Bool :=
  Nat.ble 1 m && (Nat.ble m 32767 && (List.range m).all fun j => RC.isInt j (run T .nil fuel f (placeArgs (j + m) m) s0) && (Nat.beq j 0 || RC.isInt j (run T .nil fuel f (placeArgs j m) s0)))

theorem tmod_cases (v : Int) {m : Nat} (hm : 1 ≤ m) {j : Nat} (h : v % (m : Int) = (j : Int)) : j < m ∧ (v.tmod (m : Int) = j ∨ (j ≠ 0 ∧ v.tmod (m : Int) = (j : Int) - m)) := by
  have hpos : (0 : Int) < m := by omega
  have hlt := Int.emod_lt_of_pos v hpos
  have hj : j < m := by omega
  refine ⟨hj, ?_⟩
  rw [Int.tmod_eq_emod]
  split
  · left; rw [h]; simp
  · rename_i hc
    right
    refine ⟨?_, ?_⟩
    · intro h0
      subst h0
      exact hc (.inr (Int.dvd_of_emod_eq_zero h))
    · rw [h]
      simp

section
variable {P : Program} {L0 : List (Nat × Obj)} {ρ : Rho} {base : Nat}

theorem place_ok (hs : P.funcs.size ≤ 4096) (hL : laidOK L0 = true) (hf : ρ.fam = famOf L0) {f fuel m : Nat} (hchk : placeChk (table P (gsOf L0)) fuel f (startOf L0) m = true) {i : Nat} (hi : i % 4 = 3) (him : symM i = m)
    {s : St} {g : G} {w : World} {xs : List Value} (hG : GlobR (gsOf L0) g) (hW : WR g ρ base s w) (hxs : VL g ρ (.cons (.sym i) (.cons (.int .i64 (m : Int)) .nil)) xs) :
    GoodFn P f ∧ Calls P f xs.toArray w fun en w' => ∃ x g', en = .returned x ∧ Step g ρ base s w g' s w' ∧ VR g' ρ (.int .i64 (symLo i : Nat)) x := by
  simp only [placeChk, Bool.and_eq_true] at hchk
  obtain ⟨hm1, hm2, hall⟩ := hchk
  have hm1 : 1 ≤ m := ble_iff.1 hm1
  have hm2 : m ≤ 32767 := ble_iff.1 hm2
  cases hxs with | cons h1 h2 =>
  cases h1 with | sym _ hfact =>
  cases h2 with | cons h3 h4 =>
  cases h3
  cases h4
  obtain ⟨hr, _, _, h3⟩ := hfact
  have h3 := h3 hi
  rw [him] at h3
  obtain ⟨hj, ht⟩ := tmod_cases _ hm1 h3
  rw [List.all_eq_true] at hall
  have hboth := hall (symLo i) (List.mem_range.2 hj)
  rw [Bool.and_eq_true] at hboth
  -- whichever remainder it is
  have key : ∀ (lo : Nat), lo < 65536 → Int.tmod (ρ.f i) (m : Int) = (lo : Int) - m → RC.isInt (symLo i) (run (table P (gsOf L0)) .nil fuel f (placeArgs lo m) (startOf L0)) = true →
      GoodFn P f ∧ Calls P f #[.int .i64 (ρ.f i), .int .i64 (m : Int)] w fun en w' => ∃ x g', en = .returned x ∧ Step g ρ base s w g' s w' ∧ VR g' ρ (.int .i64 (symLo i : Nat)) x := by
    intro lo hlo htm hrun
    obtain ⟨s1, hrun⟩ := isInt_inv hrun
    have hw0 : symW (symMk 2 lo m 0) = 0 := symW_mk (by decide) hlo (by omega)
    refine fresh_call (ρ0 := ⟨fun k => if symW k = 99 then ρ.f k else ρ.f i, famOf L0⟩) hL hf rfl (fun k hk => if_pos hk) (fun base => run_sound (orc := .nil) trivial hs fuel) hrun rfl hG hW (xs := [.int .i64 (ρ.f i), .int .i64 (m : Int)]) ?_
    refine .cons ?_ (.cons (.int _ _) .nil)
    have hfac : SymFact (symMk 2 lo m 0) (ρ.f i) := by
      refine ⟨hr, fun h => ?_, fun _ => ?_, fun h => ?_⟩
      · rw [symTag_mk (by decide)] at h; cases h
      · rw [symM_mk (by decide) hlo (by omega), symLo_mk (by decide) hlo]; exact htm
      · rw [symTag_mk (by decide)] at h; cases h
    have hv : (if symW (symMk 2 lo m 0) = 99 then ρ.f (symMk 2 lo m 0) else ρ.f i) = ρ.f i := by rw [if_neg (by rw [hw0]; decide)]
    have := VR.sym (g := gFresh L0 g) (ρ := ⟨fun k => if symW k = 99 then ρ.f k else ρ.f i, famOf L0⟩) (symMk 2 lo m 0) (by show SymFact _ (if _ then _ else _); rw [hv]; exact hfac)
    have hv' : (Rho.mk (fun k => if symW k = 99 then ρ.f k else ρ.f i) (famOf L0)).f (symMk 2 lo m 0) = ρ.f i := hv
    rw [hv'] at this
    exact this
  rcases ht with ht | ⟨hne, ht⟩
  · exact key (symLo i + m) (by omega) (by rw [ht]; omega) hboth.1
  · refine key (symLo i) (by omega) ht ?_
    have h5 := hboth.2
    rw [Bool.or_eq_true] at h5
    rcases h5 with h5 | h5
    · exact absurd (beq_iff.1 h5) hne
    · exact h5

theorem orc_place (hs : P.funcs.size ≤ 4096) (hL : laidOK L0 = true) (hf : ρ.fam = famOf L0) {f fuel : Nat} {ms : List Nat} (hchk : ms.all (placeChk (table P (gsOf L0)) fuel f (startOf L0)) = true) {rest : Orc} (hrest : OrcOK P (gsOf L0) ρ base rest)
    (hgood : GoodFn P f) : OrcOK P (gsOf L0) ρ base (.place f ms rest) := by
  refine ⟨fun i m hm hi him => ⟨hgood, fun s g w xs hG hW hxs => ?_⟩, hrest⟩
  exact (place_ok hs hL hf (List.all_eq_true.1 hchk m hm) hi him hG hW hxs).2

/-- a function without arguments that is known to say true -/
theorem orc_true (hs : P.funcs.size ≤ 4096) (hL : laidOK L0 = true) (hf : ρ.fam = famOf L0) {f fuel : Nat} (hchk : RC.isTrue (run (table P (gsOf L0)) .nil fuel f .nil (startOf L0)) = true) {rest : Orc} (hrest : OrcOK P (gsOf L0) ρ base rest) :
    OrcOK P (gsOf L0) ρ base (.more f .nil (.bool true) rest) := by
  obtain ⟨s1, hrun⟩ := isTrue_inv hchk
  have hC : ∀ base, CallSound P (gsOf L0) ρ base (run (table P (gsOf L0)) .nil fuel) := fun base => run_sound (orc := .nil) trivial hs fuel
  refine ⟨(hC 0 f .nil (startOf L0) _ s1 hrun).1, fun s g w xs hG hW hxs => ?_, hrest⟩
  cases hxs
  exact (fresh_call hL hf hf (fun _ _ => rfl) hC hrun rfl hG hW .nil).2

/-! ## The start -/
noncomputable def cszOf (w : World) (i : Nat) : Nat := match w.heap[i]? with
  | some (.cells c _ _) => c.size
  | _ => 0
noncomputable def gInit (L0 : List (Nat × Obj)) (w : World) : G := fun f v => if v = 0 then (L0.find? fun y => K.beq (gkey y.1) f).map fun y => ⟨y.1, 0, cszOf w y.1⟩ else none
/-- the known variables hold what is said -/
def InitOK (ρ : Rho) (L0 : List (Nat × Obj)) (w : World) : Prop := ∀ i x, (i, x) ∈ L0 → i < w.heap.size ∧ ObjR (fun _ _ => none) ρ w.heap.size 0 ⟨i, 0, cszOf w i⟩ w x

theorem wr_init {w : World} (hL : laidOK L0 = true) (hf : ρ.fam = famOf L0) (hI : InitOK ρ L0 w) : WR (gInit L0 w) ρ w.heap.size (startOf L0) w ∧ GlobR (gsOf L0) (gInit L0 w) := by
  have inv : ∀ {f v L}, gInit L0 w f v = some L → v = 0 ∧ ∃ i x, (i, x) ∈ L0 ∧ gkey i = f ∧ L = ⟨i, 0, cszOf w i⟩ ∧ famOf L0 f = some x := by
    intro f v L h
    unfold gInit at h
    split at h
    · rename_i hv
      obtain ⟨y, h1, h2⟩ := Option.map_eq_some_iff.1 h
      have hy := List.mem_of_find?_eq_some h1
      have hk := List.find?_some h1
      exact ⟨hv, y.1, y.2, hy, (K.beq_iff _ _).1 hk, h2.symm, by unfold famOf; rw [h1]; rfl⟩
    · cases h
  refine ⟨⟨?_, ?_, ?_, ?_, Nat.le_refl _, ?_, ?_⟩, ?_⟩
  · intro f v hv
    have hv : 1 ≤ v := hv
    unfold gInit
    rw [if_neg (by omega)]
  · intro f v f' v' L L' h h' hb
    obtain ⟨_, i, x, _, h2, h3, _⟩ := inv h
    obtain ⟨_, i', x', _, h2', h3', _⟩ := inv h'
    subst h3 h3'
    have hb : i = i' := hb
    subst hb
    exact ⟨h2.symm.trans h2', rfl, rfl⟩
  · intro f v L h
    obtain ⟨_, i, x, h1, _, h3, _⟩ := inv h
    subst h3
    exact (hI i x h1).1
  · intro f v L h
    obtain ⟨hv, i, x, h1, h2, h3, h4⟩ := inv h
    subst hv h3
    show ObjR _ ρ _ 0 _ w (H4.at f (laidH L0))
    rw [laidH_at, h4]
    exact ObjR.mono (fun _ _ _ h => by cases h) rfl (hI i x h1).2
  · intro f elem sz ro a b vs v n ch hobj hv
    have hobj : H4.at f (laidH L0) = .cells elem sz ro a b vs := hobj
    rw [laidH_at] at hobj
    cases hx : famOf L0 f with
    | none => rw [hx] at hobj; cases hobj
    | some x =>
      rw [hx] at hobj
      have hobj : x = .cells elem sz ro a b vs := hobj
      obtain ⟨elem', sz', a', b', vs', he, hfl⟩ := famOf_ro hL hx
      rw [he] at hobj
      injection hobj with _ _ _ _ _ e6
      subst e6
      rw [(flatVer_has hfl hv).1]
      exact Nat.one_pos
  · intro k x hk
    rw [hf] at hk
    obtain ⟨elem, sz, a, b, vs, h1, _⟩ := famOf_ro hL hk
    refine ⟨?_, elem, sz, a, b, vs, h1⟩
    show H4.at k (laidH L0) = x
    rw [laidH_at, hk]
    rfl
  · intro i hi
    have hs := gsOf_fam hi
    unfold famOf at hs
    rw [Option.isSome_map] at hs
    obtain ⟨y, hy⟩ := Option.isSome_iff_exists.1 hs
    have hk : gkey y.1 = gkey i := (K.beq_iff _ _).1 (List.find?_some (p := fun (z : Nat × Obj) => K.beq (gkey z.1) (gkey i)) hy)
    refine ⟨cszOf w y.1, ?_⟩
    unfold gInit
    rw [if_pos rfl, hy]
    have hlt : y.1 < 4096 := by
      have : ∀ {L : List (Nat × Obj)} {y}, laidOK L = true → y ∈ L → y.1 < 4096 := by
        intro L
        induction L with
        | nil => intro y _ h; cases h
        | cons z l ih =>
          intro y h hy
          obtain ⟨i, x⟩ := z
          simp only [laidOK, Bool.and_eq_true] at h
          rcases List.mem_cons.1 hy with rfl | hy
          · exact Nat.le_of_ble_eq_true h.1
          · exact ih h.2.2.2 hy
      exact this hL (List.mem_of_find?_eq_some hy)
    have hilt : i < 4096 := by
      unfold gsOf at hi
      rw [List.any_eq_true] at hi
      obtain ⟨z, hz, hzi⟩ := hi
      have hzi := beq_iff.1 hzi
      have : ∀ {L : List (Nat × Obj)} {y}, laidOK L = true → y ∈ L → y.1 < 4096 := by
        intro L
        induction L with
        | nil => intro y _ h; cases h
        | cons z l ih =>
          intro y h hy
          obtain ⟨i, x⟩ := z
          simp only [laidOK, Bool.and_eq_true] at h
          rcases List.mem_cons.1 hy with rfl | hy
          · exact Nat.le_of_ble_eq_true h.1
          · exact ih h.2.2.2 hy
      rw [← hzi]
      exact this hL hz
    have he : y.1 = i := by
      have h0 : gkey y.1 = gkey i := hk
      have h1 : (gkey y.1).a = (gkey i).a := by rw [h0]
      have h2 : (gkey y.1).b = (gkey i).b := by rw [h0]
      have h3 : (gkey y.1).c = (gkey i).c := by rw [h0]
      have e1 : y.1 % 16 = i % 16 := D.dig_inj (by omega) (by omega) h1
      have e2 : y.1 / 16 % 16 = i / 16 % 16 := D.dig_inj (by omega) (by omega) h2
      have e3 : y.1 / 256 % 16 = i / 256 % 16 := D.dig_inj (by omega) (by omega) h3
      omega
    simp only [Option.map_some, he]

/-- THE LAW's CALL: what the evaluator says of it -/
theorem law_calls (hs : P.funcs.size ≤ 4096) (hL : laidOK L0 = true) (hf : ρ.fam = famOf L0) {w : World} (hI : InitOK ρ L0 w) {orc : Orc} (hO : OrcOK P (gsOf L0) ρ w.heap.size orc) {f fuel : Nat} {args : V} {xs : List Value}
    (hrun : RC.isTrue (run (table P (gsOf L0)) orc fuel f args (startOf L0)) = true) (hxs : VL (gInit L0 w) ρ args xs) :
    Calls P f xs.toArray w fun en w' => en = .returned (.bool true) ∧ Below w.heap.size w w' := by
  obtain ⟨s1, hrun⟩ := isTrue_inv hrun
  obtain ⟨hW, hG⟩ := wr_init hL hf hI
  refine ((run_sound hO hs fuel f args (startOf L0) _ s1 hrun).2 _ w xs hG hW hxs).mono fun en w' h => ?_
  obtain ⟨x, g', he, hstep, hv⟩ := h
  cases hv
  exact ⟨he, hstep.keep.os, hstep.keep.tape, hstep.keep.output, hstep.keep.size, fun k hk => hstep.keep.blk k hk (.inl hk)⟩

/-! ## A law's arguments -/
/-- the w-th argument: of its remainder by m is known that it is j -/
noncomputable def modArg (m w j : Nat) : V := .sym (symMk 3 j m w)
/-- of its last three bits -/
noncomputable def lowArg (w j : Nat) : V := .sym (symMk 1 j 0 w)
/-- of none -/
noncomputable def anyArg (w : Nat) : V := .sym (symMk 0 0 0 w)
/-- the open numbers: the arguments as they are -/
noncomputable def rhoOf (L0 : List (Nat × Obj)) (vs : List Int) : Rho := ⟨fun i => vs.getD (symW i) 0, famOf L0⟩

theorem vr_mod {L0 : List (Nat × Obj)} {vs : List Int} {g : G} {v : Int} {m w : Nat} (hr : -9223372036854775808 ≤ v ∧ v < 9223372036854775808) (hm : 0 < m ∧ m < 65536) (hw : vs.getD w 0 = v) :
    (v % (m : Int)).toNat < m ∧ VR g (rhoOf L0 vs) (modArg m w (v % (m : Int)).toNat) (.int .i64 v) := by
  have h0 := Int.emod_nonneg v (show (m : Int) ≠ 0 by omega)
  have h1 := Int.emod_lt_of_pos v (show (0 : Int) < (m : Int) by omega)
  have hlt : (v % (m : Int)).toNat < m := by omega
  refine ⟨hlt, ?_⟩
  have hf : (rhoOf L0 vs).f (symMk 3 (v % (m : Int)).toNat m w) = v := by
    show vs.getD (symW _) 0 = v
    rw [symW_mk (by decide) (by omega) (by omega)]
    exact hw
  have := VR.sym (g := g) (ρ := rhoOf L0 vs) (symMk 3 (v % (m : Int)).toNat m w) (by
    rw [hf]
    refine ⟨hr, fun h => ?_, fun h => ?_, fun _ => ?_⟩
    · rw [symTag_mk (by decide)] at h; cases h
    · rw [symTag_mk (by decide)] at h; cases h
    · rw [symM_mk (by decide) (by omega) (by omega), symLo_mk (by decide) (by omega)]; omega)
  rw [hf] at this
  exact this

theorem vr_low {L0 : List (Nat × Obj)} {vs : List Int} {g : G} {v : Int} {w : Nat} (hr : -9223372036854775808 ≤ v ∧ v < 9223372036854775808) (hw : vs.getD w 0 = v) :
    (v % 8).toNat < 8 ∧ VR g (rhoOf L0 vs) (lowArg w (v % 8).toNat) (.int .i64 v) := by
  have h0 := Int.emod_nonneg v (show (8 : Int) ≠ 0 by omega)
  have h1 := Int.emod_lt_of_pos v (show (0 : Int) < 8 by omega)
  have hlt : (v % 8).toNat < 8 := by omega
  refine ⟨hlt, ?_⟩
  have hf : (rhoOf L0 vs).f (symMk 1 (v % 8).toNat 0 w) = v := by
    show vs.getD (symW _) 0 = v
    rw [symW_mk (by decide) (by omega) (by omega)]
    exact hw
  have := VR.sym (g := g) (ρ := rhoOf L0 vs) (symMk 1 (v % 8).toNat 0 w) (by
    rw [hf]
    refine ⟨hr, fun _ => ?_, fun h => ?_, fun h => ?_⟩
    · rw [symLo_mk (by decide) (by omega)]; omega
    · rw [symTag_mk (by decide)] at h; cases h
    · rw [symTag_mk (by decide)] at h; cases h)
  rw [hf] at this
  exact this

theorem vr_any {L0 : List (Nat × Obj)} {vs : List Int} {g : G} {v : Int} {w : Nat} (hr : -9223372036854775808 ≤ v ∧ v < 9223372036854775808) (hw : vs.getD w 0 = v) :
    VR g (rhoOf L0 vs) (anyArg w) (.int .i64 v) := by
  have hf : (rhoOf L0 vs).f (symMk 0 0 0 w) = v := by
    show vs.getD (symW _) 0 = v
    rw [symW_mk (by decide) (by omega) (by omega)]
    exact hw
  have := VR.sym (g := g) (ρ := rhoOf L0 vs) (symMk 0 0 0 w) (by
    rw [hf]
    refine ⟨hr, fun h => ?_, fun h => ?_, fun h => ?_⟩ <;> (rw [symTag_mk (by decide)] at h; cases h))
  rw [hf] at this
  exact this

theorem wf_range {n : Int} (h : (Lit.int .i64 n).wf = true) : -9223372036854775808 ≤ n ∧ n < 9223372036854775808 := by
  have h : (decide (IntKind.i64.min ≤ n) && decide (n ≤ IntKind.i64.max)) = true := h
  rw [Bool.and_eq_true, decide_eq_true_eq, decide_eq_true_eq, show IntKind.i64.min = -9223372036854775808 from rfl, show IntKind.i64.max = 9223372036854775807 from rfl] at h
  omega

theorem all_range {p : Nat → Bool} {m j : Nat} (h : (List.range m).all p = true) (hj : j < m) : p j = true := List.all_eq_true.1 h j (List.mem_range.2 hj)

/-! ## A table's cells, for the witness -/
mutual
def cellsD : DataW Unit → List Value
  | .lit (.int k n) => [.int k n]
  | .lit (.bool b) => [.bool b]
  | .lit (.string b) => [.string ⟨b.toArray⟩]
  | .agg l => cellsDs l
  | _ => []
def cellsDs : List (DataW Unit) → List Value
  | [] => []
  | d :: l => cellsD d ++ cellsDs l
end
/-- of a slice: the cells of its elements; how many elements -/
def rowD : DataW Unit → List Value × Nat
  | .slice l _ => (cellsDs l, l.length)
  | _ => ([], 0)
def putCells (h : Array Go.Obj) (i : Nat) (cs : List Value) : Array Go.Obj := h.modify i fun
  | .cells _ t frozen => .cells cs.toArray t frozen
  | o => o

theorem goodFn_of {f : Nat} (h : (P.funcs[f]?).any (fun fn => fn.body.isSome && fn.name != "runtime.NumGoroutine") = true) : GoodFn P f := by
  cases hf : P.funcs[f]? with
  | none => rw [hf] at h; cases h
  | some fn =>
    rw [hf] at h
    simp only [Option.any_some, Bool.and_eq_true] at h
    refine ⟨fn, hf, fun hb => ?_, by simpa using h.2⟩
    rw [hb] at h
    cases h.1
end
end Go.Ev
