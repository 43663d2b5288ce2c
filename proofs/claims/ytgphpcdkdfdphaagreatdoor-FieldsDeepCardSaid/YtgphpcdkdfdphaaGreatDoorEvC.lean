/- A reckoner for the model's code, proved sound: what it reckons true is returned, on every schedule, and nothing that was there turns: part C. Conditions: none. -/
import Derived.Test.YtgphpcdkdfdphaaGreatDoorEvB
import Derived.Lib.Bytealg
import Derived.Lib.IndexEntry
import Derived.Lib.UnsafeStr
import Derived.Lib.Strings
import Derived.Laws.BytesString
import Derived.RangeFuncLeaves
import Derived.OrdersIn
import Derived.Orders
namespace Go.Ev
set_option linter.unusedVariables false

theorem withI64_inv {v : V} {k : Nat → RO} {r : RO} (h : withI64 v k = r) (hr : r.good) : ∃ m : Nat, v = .int .i64 (m : Int) ∧ k m = r := by
  obtain ⟨kd, n, hv, h1⟩ := withInt_inv (show withInt v (fun kd a => RO.ite (Nat.beq (kcode kd) 3) (Int.rec (motive := fun _ => RO) (fun m => k m) (fun _ => .bad 126) a) (.bad 126)) = r from h) hr
  obtain ⟨hb, h2⟩ := ite_inv h1 hr
  have hk : kd = .i64 := kcode_inj (show kcode kd = kcode .i64 from beq_iff.1 hb)
  subst hk
  cases n with
  | ofNat m => exact ⟨m, hv, h2⟩
  | negSucc m => rw [← (show RO.bad 126 = r from h2)] at hr; exact hr.elim

theorem withByte_inv {v : V} {k : Nat → RO} {r : RO} (h : withByte v k = r) (hr : r.good) : ∃ b : UInt8, v = .int .u8 (b.toNat : Int) ∧ k b.toNat = r := by
  obtain ⟨kd, n, hv, h1⟩ := withInt_inv (show withInt v (fun kd a => RO.ite (Nat.beq (kcode kd) 4) (Int.rec (motive := fun _ => RO) (fun m => RO.ite (Nat.ble (Nat.succ m) 256) (k m) (.bad 125)) (fun _ => .bad 125) a) (.bad 125)) = r from h) hr
  obtain ⟨hb, h2⟩ := ite_inv h1 hr
  have hk : kd = .u8 := kcode_inj (show kcode kd = kcode .u8 from beq_iff.1 hb)
  subst hk
  cases n with
  | ofNat m =>
    obtain ⟨hm, h3⟩ := ite_inv (show RO.ite (Nat.ble (Nat.succ m) 256) (k m) (.bad 125) = r from h2) hr
    have hm : m < 256 := ble_iff.1 hm
    have hmm : (UInt8.ofNat m).toNat = m := by simp; omega
    exact ⟨UInt8.ofNat m, by rw [hmm]; exact hv, by rw [hmm]; exact h3⟩
  | negSucc m => rw [← (show RO.bad 125 = r from h2)] at hr; exact hr.elim

theorem encList_mod (b : UInt8) (l : List UInt8) : Nat.mod (encList (b :: l)) 256 = b.toNat := by show (b.toNat + 256 * encList l) % 256 = _; have := b.toNat_lt; omega
theorem encList_div (b : UInt8) (l : List UInt8) : Nat.div (encList (b :: l)) 256 = encList l := by show (b.toNat + 256 * encList l) / 256 = _; have := b.toNat_lt; omega

theorem lib_indexByte_cons (b : UInt8) (l : List UInt8) (c : UInt8) : Lib.indexByte (b :: l) c = if b == c then 0 else if Lib.indexByte l c == -1 then -1 else Lib.indexByte l c + 1 := rfl
theorem lib_index_cons (b : UInt8) (l sub : List UInt8) : Lib.index (b :: l) sub = if sub.isPrefixOf (b :: l) then 0 else if Lib.index l sub == -1 then -1 else Lib.index l sub + 1 := rfl
theorem indexByte_eq (c : UInt8) : ∀ (l : List UInt8) (i : Nat), indexByte c.toNat l.length (encList l) i = if Lib.indexByte l c = -1 then -1 else (i : Int) + Lib.indexByte l c
  | [], i => rfl
  | b :: l, i => by
    have e1 : indexByte c.toNat (b :: l).length (encList (b :: l)) i = Bool.rec (indexByte c.toNat l.length (Nat.div (encList (b :: l)) 256) (i + 1)) (Int.ofNat i) (Nat.beq (Nat.mod (encList (b :: l)) 256) c.toNat) := rfl
    rw [e1, encList_mod, encList_div, indexByte_eq c l (i + 1)]
    rw [lib_indexByte_cons]
    cases hb : Nat.beq b.toNat c.toNat with
    | true =>
      have : b = c := UInt8.toNat_inj.1 (beq_iff.1 hb)
      subst this
      simp
    | false =>
      have hne : ¬ (b == c) = true := by
        intro h
        have : b = c := by simpa using h
        subst this
        rw [beq_iff.2 rfl] at hb
        cases hb
      rw [if_neg hne]
      have hge := Lib.indexByte_ge l c
      by_cases h : Lib.indexByte l c = -1
      · rw [if_pos h, h]; rfl
      · have h' : ¬ ((Lib.indexByte l c == -1) = true) := by simpa using h
        rw [if_neg h, if_neg h']
        show ((i + 1 : Nat) : Int) + Lib.indexByte l c = _
        rw [if_neg (by omega)]
        omega

theorem countByte_eq (c : UInt8) : ∀ (l : List UInt8), countByte c.toNat l.length (encList l) = Lib.countByte l c
  | [] => rfl
  | b :: l => by
    have e1 : countByte c.toNat (b :: l).length (encList (b :: l)) = Bool.rec (countByte c.toNat l.length (Nat.div (encList (b :: l)) 256)) (Nat.succ (countByte c.toNat l.length (Nat.div (encList (b :: l)) 256))) (Nat.beq (Nat.mod (encList (b :: l)) 256) c.toNat) := rfl
    rw [e1, encList_mod, encList_div, countByte_eq c l]
    unfold Lib.countByte
    rw [List.count_cons]
    cases hb : Nat.beq b.toNat c.toNat with
    | true =>
      have : b = c := UInt8.toNat_inj.1 (beq_iff.1 hb)
      subst this
      simp
    | false =>
      have hne : ¬ (b == c) = true := by
        intro h
        have : b = c := by simpa using h
        subst this
        rw [beq_iff.2 rfl] at hb
        cases hb
      rw [if_neg hne]
      rfl

theorem indexStr_eq (b : List UInt8) (hb : 1 ≤ b.length) : ∀ (k : Nat) (l : List UInt8) (i : Nat), k = l.length + 1 - b.length → indexStr b.length (encList b) k (encList l) i = if Lib.index l b = -1 then -1 else (i : Int) + Lib.index l b
  | 0, l, i, hk => by
    have hno : Lib.index l b = -1 := by
      have hlt : l.length < b.length := by omega
      clear hk
      induction l with
      | nil => unfold Lib.index; cases b with | nil => simp at hb | cons x xs => rfl
      | cons x l ih =>
        rw [lib_index_cons]
        have h1 : ¬ (b.isPrefixOf (x :: l) = true) := fun h => by
          have := (List.isPrefixOf_iff_prefix.1 h).length_le
          omega
        rw [if_neg h1, ih (by simp at hlt; omega)]
        rfl
    rw [hno]
    rfl
  | k + 1, [], i, hk => by simp at hk; omega
  | k + 1, x :: l, i, hk => by
    have e1 : indexStr b.length (encList b) (k + 1) (encList (x :: l)) i = Bool.rec (indexStr b.length (encList b) k (Nat.div (encList (x :: l)) 256) (i + 1)) (Int.ofNat i) (Nat.beq (encList (x :: l) % 2 ^ (8 * b.length)) (encList b)) := rfl
    have hle : b.length ≤ (x :: l).length := by simp at hk ⊢; omega
    rw [e1, encList_div, indexStr_eq b hb k l (i + 1) (by simp at hk; omega), encList_take _ _ hle]
    rw [lib_index_cons]
    cases hq : Nat.beq (encList ((x :: l).take b.length)) (encList b) with
    | true =>
      have : (x :: l).take b.length = b := encList_inj (by simp at hle ⊢; omega) (beq_iff.1 hq)
      have hp : b.isPrefixOf (x :: l) = true := by
        rw [List.isPrefixOf_iff_prefix, List.prefix_iff_eq_take]
        exact this.symm
      rw [if_pos hp]
      simp
    | false =>
      have hp : ¬ (b.isPrefixOf (x :: l) = true) := fun h => by
        rw [List.isPrefixOf_iff_prefix, List.prefix_iff_eq_take] at h
        rw [← h, beq_iff.2 rfl] at hq
        cases hq
      rw [if_neg hp]
      have hge := Lib.index_ge l b
      by_cases h : Lib.index l b = -1
      · rw [if_pos h, h]; rfl
      · have h' : ¬ ((Lib.index l b == -1) = true) := by simpa using h
        rw [if_neg h, if_neg h']
        show ((i + 1 : Nat) : Int) + Lib.index l b = _
        rw [if_neg (by omega)]
        omega

/-! ## The library's entries -/
theorem ext_same (fn : Func) (hn : fn.name = "internal/abi.NoEscape") (ho : fn.origin = "") : Extern.findNext fn = none ∧ Extern.find fn = some Extern.AbiNoEscape.same :=
  ⟨by unfold Extern.findNext; rw [hn, ho]; kernel_rfl, by unfold Extern.find; rw [hn, ho]; kernel_rfl⟩
theorem ext_count (fn : Func) (hn : fn.name = "internal/bytealg.CountString") (ho : fn.origin = "") : Extern.findNext fn = none ∧ Extern.find fn = some Extern.BytealgCount.count :=
  ⟨by unfold Extern.findNext; rw [hn, ho]; kernel_rfl, by unfold Extern.find; rw [hn, ho]; kernel_rfl⟩
theorem ext_indexByte (fn : Func) (hn : fn.name = "internal/bytealg.IndexByteString") (ho : fn.origin = "") : Extern.findNext fn = none ∧ Extern.find fn = some Extern.BytealgIndexByte.indexByte :=
  ⟨by unfold Extern.findNext; rw [hn, ho]; kernel_rfl, by unfold Extern.find; rw [hn, ho]; kernel_rfl⟩
theorem ext_index (fn : Func) (hn : fn.name = "internal/bytealg.IndexString") (ho : fn.origin = "") : Extern.findNext fn = none ∧ Extern.find fn = some Extern.BytealgIndex.index :=
  ⟨by unfold Extern.findNext; rw [hn, ho]; kernel_rfl, by unfold Extern.find; rw [hn, ho]; kernel_rfl⟩
theorem ext_noZero (fn : Func) (hn : fn.name = "internal/bytealg.MakeNoZero") (ho : fn.origin = "") : Extern.findNext fn = none ∧ Extern.find fn = some (Extern.BytealgMakeNoZero.makeNoZero fn.params fn.resultTypes) :=
  ⟨by unfold Extern.findNext; rw [hn, ho]; kernel_rfl, by unfold Extern.find; rw [hn, ho]; kernel_rfl⟩

section
variable {P : Program} {gs : Nat → Bool} {g : G} {ρ : Rho} {base nt : Nat} {e : E2} {s s' : St} {a : Act} {w : World} {o : Oper}

/-- a call of a function that has no body of its own -/
theorem run_extern {f : FuncId} {fn : Func} {c : Call} {row : Array Value → Sem Value} {y : Value} {w' : World} (ho : o.op = .call c) (hc : c.callee = .value (.func f)) (hfn : P.funcs[f]? = some fn)
    (hb : fn.body.isSome = false) (hname : fn.name ≠ "runtime.NumGoroutine") (hx : Extern.findNext fn = none ∧ Extern.find fn = some row) (hr : (row (c.args.map a.eval)).run P w = .ok y w') :
    (execOp a.eval o).run P w = .ok (.value y) w' := by
  have hbn : fn.body = none := by cases h : fn.body with | none => rfl | some b => rw [h] at hb; cases hb
  simp [execOp, ho, resolve, hc, Act.eval, Deferred.ofValue, invoke, callFunc, hfn, hname, hbn, hx.1, hx.2, mark]
  have hm : (Sem.mark (Mark.extern f) (Sem.pure ())).run P w = .ok () w := rfl
  rw [hm]
  simp [hr]

variable (hG : GlobR gs g) (hE : ER g ρ nt e a) (hW : WR g ρ base s w)
include hG hE hW

theorem op_same {f : FuncId} {fn : Func} {c : Call} {x : Operand} {p : Opd} {v : V} (ho : o.op = .call c) (hc : c.callee = .value (.func f)) (hfn : P.funcs[f]? = some fn)
    (hb : fn.body.isSome = false) (hn : fn.name = "internal/abi.NoEscape") (hor : fn.origin = "") (ha : c.args = #[x]) (hp : compOpd gs nt x = some p) (h : evOp (.same p) e s = .ok v s') : OpOK P g ρ base s w a o v s' := by
  have hx := opd_VR hG hE hp
  have h : RO.ok (p.val e) s = .ok v s' := h
  injection h with h1 h2
  subst h1 h2
  exact .pure hW (run_extern ho hc hfn hb (by rw [hn]; decide) (ext_same fn hn hor) (by rw [show c.args.map a.eval = #[a.eval x] from by rw [ha]; simp]; rfl)) hx

theorem op_xCount {f : FuncId} {fn : Func} {c : Call} {x y : Operand} {p q : Opd} {v : V} (ho : o.op = .call c) (hc : c.callee = .value (.func f)) (hfn : P.funcs[f]? = some fn)
    (hb : fn.body.isSome = false) (hn : fn.name = "internal/bytealg.CountString") (hor : fn.origin = "") (ha : c.args = #[x, y]) (hp : compOpd gs nt x = some p) (hq : compOpd gs nt y = some q)
    (h : evOp (.xCount p q) e s = .ok v s') : OpOK P g ρ base s w a o v s' := by
  have hx := opd_VR hG hE hp
  have hy := opd_VR hG hE hq
  obtain ⟨l, d, hpv, h1⟩ := withStr_inv (show withStr (p.val e) (fun l d => withByte (q.val e) fun b => okNat .i64 (countByte b l d) s) = .ok v s' from h) trivial
  obtain ⟨b, hqv, h2⟩ := withByte_inv h1 trivial
  rw [okNat_eq] at h2
  injection h2 with h3 h4
  subst h3 h4
  rw [hpv] at hx
  rw [hqv] at hy
  generalize hax : a.eval x = xv at hx
  generalize hay : a.eval y = yv at hy
  cases hx
  cases hy
  rename_i str
  refine .pure hW (x := .int .i64 (Int.ofNat (countByte b.toNat str.data.toList.length (encList str.data.toList)))) (run_extern ho hc hfn hb (by rw [hn]; decide) (ext_count fn hn hor) ?_) (.int _ _)
  rw [countByte_eq]
  have := Lib.run_countString (P := P) str (b.toNat : Int) w
  simpa [ha, hax, hay] using this

theorem op_xIndexByte {f : FuncId} {fn : Func} {c : Call} {x y : Operand} {p q : Opd} {v : V} (ho : o.op = .call c) (hc : c.callee = .value (.func f)) (hfn : P.funcs[f]? = some fn)
    (hb : fn.body.isSome = false) (hn : fn.name = "internal/bytealg.IndexByteString") (hor : fn.origin = "") (ha : c.args = #[x, y]) (hp : compOpd gs nt x = some p) (hq : compOpd gs nt y = some q)
    (h : evOp (.xIndexByte p q) e s = .ok v s') : OpOK P g ρ base s w a o v s' := by
  have hx := opd_VR hG hE hp
  have hy := opd_VR hG hE hq
  obtain ⟨l, d, hpv, h1⟩ := withStr_inv (show withStr (p.val e) (fun l d => withByte (q.val e) fun b => okInt .i64 (indexByte b l d 0) s) = .ok v s' from h) trivial
  obtain ⟨b, hqv, h2⟩ := withByte_inv h1 trivial
  rw [okInt_eq] at h2
  injection h2 with h3 h4
  subst h3 h4
  rw [hpv] at hx
  rw [hqv] at hy
  generalize hax : a.eval x = xv at hx
  generalize hay : a.eval y = yv at hy
  cases hx
  cases hy
  rename_i str
  refine .pure hW (x := .int .i64 (indexByte b.toNat str.data.toList.length (encList str.data.toList) 0)) (run_extern ho hc hfn hb (by rw [hn]; decide) (ext_indexByte fn hn hor) ?_) (.int _ _)
  rw [indexByte_eq]
  have := Lib.run_indexByteString (P := P) str (b.toNat : Int) w
  have he : (if Lib.indexByte str.data.toList b = -1 then -1 else ((0 : Nat) : Int) + Lib.indexByte str.data.toList b) = Lib.indexByte str.data.toList b := by
    split
    · rename_i h; exact h.symm
    · simp
  rw [he]
  simpa [ha, hax, hay] using this

theorem op_xIndex {f : FuncId} {fn : Func} {c : Call} {x y : Operand} {p q : Opd} {v : V} {gi : Nat} (ho : o.op = .call c) (hc : c.callee = .value (.func f)) (hfn : P.funcs[f]? = some fn)
    (hb : fn.body.isSome = false) (hn : fn.name = "internal/bytealg.IndexString") (hor : fn.origin = "") (ha : c.args = #[x, y]) (hp : compOpd gs nt x = some p) (hq : compOpd gs nt y = some q)
    (hgi : P.globals.findIdx? (·.name == "internal/bytealg.MaxLen") = some gi) (hgs : gs gi = true)
    (h : evOp (.xIndex (gkey gi) p q) e s = .ok v s') : OpOK P g ρ base s w a o v s' := by
  have hx := opd_VR hG hE hp
  have hy := opd_VR hG hE hq
  obtain ⟨l1, d1, hpv, h1⟩ := withStr_inv (show withStr (p.val e) (fun l1 d1 => withStr (q.val e) fun l2 d2 => load1 (gkey gi) 0 0 s fun m => withI64 m fun m => RO.ite (band (Nat.ble 2 l2) (band (Nat.ble l2 m) (Nat.ble l1 4294967280))) (okInt .i64 (indexStr l2 d2 (Nat.sub (Nat.succ l1) l2) d1 0) s) (.bad 109)) = .ok v s' from h) trivial
  obtain ⟨l2, d2, hqv, h2⟩ := withStr_inv h1 trivial
  obtain ⟨csz, hg⟩ := hG gi hgs
  obtain ⟨mv, mx, hcell, hmr, _, h3⟩ := load1_inv hW hg (Nat.le_refl 0) h2 trivial
  obtain ⟨m, hmv, h4⟩ := withI64_inv h3 trivial
  obtain ⟨hb1, h5⟩ := ite_inv h4 trivial
  obtain ⟨hb1, hb2⟩ := band_iff.1 hb1
  obtain ⟨hb2, hb3⟩ := band_iff.1 hb2
  have hb1 : 2 ≤ l2 := ble_iff.1 hb1
  have hb2 : l2 ≤ m := ble_iff.1 hb2
  have hb3 : l1 ≤ 4294967280 := ble_iff.1 hb3
  rw [okInt_eq] at h5
  injection h5 with h6 h7
  subst h6 h7
  rw [hpv] at hx
  rw [hqv] at hy
  subst hmv
  generalize hax : a.eval x = xv at hx
  generalize hay : a.eval y = yv at hy
  cases hx with | str s1 =>
  cases hy with | str s2 =>
  cases hmr with | int _ _ =>
  have e1 : s1.size = s1.data.toList.length := Lib.size_eq s1
  have e2 : s2.size = s2.data.toList.length := Lib.size_eq s2
  refine .pure hW (x := .int .i64 (indexStr s2.data.toList.length (encList s2.data.toList) (Nat.sub (Nat.succ s1.data.toList.length) s2.data.toList.length) (encList s1.data.toList) 0)) (run_extern ho hc hfn hb (by rw [hn]; decide) (ext_index fn hn hor) ?_) (.int _ _)
  have hk : indexStr s2.data.toList.length (encList s2.data.toList) (Nat.sub (Nat.succ s1.data.toList.length) s2.data.toList.length) (encList s1.data.toList) 0 = _ := indexStr_eq s2.data.toList (by omega) _ s1.data.toList 0 rfl
  rw [hk]
  have := Lib.run_indexString (P := P) s1 s2 w gi (m : Int) hgi hcell (by omega) (by omega) (by omega)
  have he : (if Lib.index s1.data.toList s2.data.toList = -1 then -1 else ((0 : Nat) : Int) + Lib.index s1.data.toList s2.data.toList) = Lib.index s1.data.toList s2.data.toList := by
    split
    · rename_i h; exact h.symm
    · simp
  rw [he]
  simpa [ha, hax, hay] using this

omit hG hE hW in
theorem digits_size : ∀ (n t : Nat) (acc : Array Value), (Extern.BytealgMakeNoZero.digits n t acc).size = acc.size + n
  | 0, _, acc => rfl
  | n + 1, t, acc => by
    show (Extern.BytealgMakeNoZero.digits n (t / 256) (acc.push _)).size = _
    rw [digits_size n, Array.size_push]
    omega

theorem op_xNoZero {f : FuncId} {fn : Func} {c : Call} {x : Operand} {p : Opd} {v : V} {t el : TypeId} (ho : o.op = .call c) (hc : c.callee = .value (.func f)) (hfn : P.funcs[f]? = some fn)
    (hb : fn.body.isSome = false) (hn : fn.name = "internal/bytealg.MakeNoZero") (hor : fn.origin = "") (ha : c.args = #[x]) (hp : compOpd gs nt x = some p)
    (ht : fn.resultTypes[0]? = some t) (hu : P.underlying t = some (.slice el)) (hel : sizeT P el = some 1)
    (h : evOp (.xNoZero el p) e s = .ok v s') : OpOK P g ρ base s w a o v s' := by
  have hx := opd_VR hG hE hp
  obtain ⟨n, hpv, h1⟩ := withI64_inv (show withI64 (p.val e) (fun n => RO.ite (Nat.ble n 1048576) (alloc el 1 n .nil s fun f v s' => .ok (.sl f v 0 n n false 1) s') (.bad 124)) = .ok v s' from h) trivial
  obtain ⟨hbig, h2⟩ := ite_inv h1 trivial
  have hbig : n ≤ 1048576 := ble_iff.1 hbig
  rw [hpv] at hx
  generalize hax : a.eval x = xv at hx
  cases hx
  obtain ⟨hnone, h3⟩ := alloc_inv h2 trivial
  injection h3 with h4 h5
  subst h4 h5
  have hcap : n ≤ grownCap w n 0 el := by simp only [grownCap, Question.cut]; omega
  have hrun : ∃ t, (Extern.BytealgMakeNoZero.makeNoZero fn.params fn.resultTypes #[.int .i64 (n : Int)]).run P w = .ok (.slice (some ⟨w.heap.size, 0, none⟩) n (grownCap w n 0 el))
      (w.drew.drew.alloc (.cells (Extern.BytealgMakeNoZero.digits (grownCap w n 0 el) t #[]) el)) := by
    have h1 : ¬ ((n : Int) < 0) := by omega
    have h2 : ¬ (281474976710656 < (n : Int)) := by omega
    refine ⟨(Question.extern "internal/bytealg.MakeNoZero.bytes" 0).cut (w.drew.tape w.drew.drawn (.extern "internal/bytealg.MakeNoZero.bytes" 0)), ?_⟩
    generalize fn.resultTypes = rts at ht ⊢
    obtain ⟨_ | ⟨t', l⟩⟩ := rts
    · cases ht
    cases (show some t' = some t from ht)
    show (bind (underlying t) _ : Sem Value).run P w = _
    simp [run_und hu, h1, h2, Question.forced, newRow, grownCap]
  obtain ⟨t0, hrun⟩ := hrun
  obtain ⟨g', hs, hg', hle⟩ := alloc_sound (elem := el) (sz := 1) (n := n) (ch := .nil) hW.drew.drew hnone (Extern.BytealgMakeNoZero.digits (grownCap w n 0 el) t0 #[]) Nat.one_pos (by rw [digits_size]; simpa using hcap) RowR.nil'
  refine ⟨_, _, g', .inl (run_extern ho hc hfn hb (by rw [hn]; decide) (ext_noZero fn hn hor) (by simpa [ha, hax] using hrun)), Step.of_drew (Step.of_drew hs), ?_⟩
  exact .sl (L := ⟨w.heap.size, 0, _⟩) hg' (Nat.le_refl 0) hcap (fun h => by cases h) (Nat.le_refl _) (by rw [digits_size]; simp) (.inr rfl)
end
end Go.Ev

namespace Go.Ev
set_option linter.unusedVariables false

/-! ## Maps -/
theorem WR.mapSet {g : G} {ρ : Rho} {base : Nat} {s : St} {w : World} (hW : WR g ρ base s w) {f : K} {v v' clock clock' : Nat} {es es1 : V} {L : Loc} (hg : g f v = some L) (hobj : s.h.at f = .map v' es clock) {ents' : Array MapEntry}
    (hm : MapR g ρ es1 ents'.toList) :
    Step g ρ base s w g ⟨H4.put f (.map v' es1 clock') s.h, s.nk, s.nx⟩ (World.put w L.blk (.map ents' clock')) := by
  have hlt := hW.lt hg
  have h0 := hW.obj hg
  rw [hobj] at h0
  refine ⟨.refl g w, ⟨by simp [World.put], ?_, rfl, rfl, rfl⟩, ⟨hW.fresh, hW.inj, fun h => by have := hW.lt h; simpa [World.put] using this, ?_, by simpa [World.put] using hW.base, ?_, hW.ro_put (by rw [hobj]; intro _ _ _ _ _ h; cases h)⟩, Nat.le_refl _, fun _ _ _ h _ => h⟩
  · intro b hb hor
    rw [heap_put]
    by_cases he : L.blk = b
    · exfalso
      rcases hor with hor | hor
      · have := h0.2.1; omega
      · exact hor f v L hg he
    · rw [if_neg he]
  · intro f' v1 L' hg'
    have h1 := hW.obj hg'
    show ObjR g ρ base v1 L' _ (H4.at f' (H4.put f _ s.h))
    rw [H4.at_put]
    by_cases hf : f' = f
    · subst hf
      rw [if_pos rfl]
      rw [hobj] at h1
      obtain ⟨e1, e2, e3, _⟩ := h1
      have hv : v1 = v := e1.trans h0.1.symm
      subst hv
      rw [hg] at hg'
      injection hg' with hg'
      subst hg'
      exact ⟨e1, e2, e3, ents', by rw [heap_put, if_pos rfl, if_pos hlt], hm⟩
    · rw [if_neg hf]
      refine ObjR.mono (fun _ _ _ h => h) ?_ h1
      rw [heap_put, if_neg]
      intro hb
      exact hf (hW.inj hg hg' hb).1.symm
  · intro f' elem' sz' ro' a' b' vs' v' n' ch'' hf hv
    have hf : H4.at f' (H4.put f _ s.h) = _ := hf
    rw [H4.at_put] at hf
    by_cases he : f' = f
    · rw [if_pos he] at hf; cases hf
    · rw [if_neg he] at hf
      exact hW.ids hf hv

/-- a kind of keys -/
def KeyT (P : Program) (cls : Nat) (t : TypeId) : Prop := (cls = 0 ∧ ∃ k, P.underlying t = some (.int k)) ∨ (cls = 1 ∧ P.underlying t = some .string) ∨ (cls = 2 ∧ P.underlying t = some .bool)
def KeyD (cls : Nat) (d : TypeDesc) : Prop := (cls = 0 ∧ ∃ k, d = .int k) ∨ (cls = 1 ∧ d = .string) ∨ (cls = 2 ∧ d = .bool) ∨ (∃ n, cls = 3 + n)
/-- such a key may be one -/
def KeyChk (P : Program) (cls : Nat) (kt : TypeId) : Prop := ∀ (g : G) (ρ : Rho) (k : V) (kv : Value) (w : World) (b : Bool), VR g ρ k kv → keyOK cls k = true → (Instr.checkKey b 10000 kt kv).run P w = .ok () w

theorem ba_beq (a b : ByteArray) : (a == b) = (a.data == b.data) := by cases a; cases b; rfl
theorem keyEq_sound {g : G} {ρ : Rho} {cls : Nat} {d : TypeDesc} (hd : KeyD cls d) {x y : V} {xv yv : Value} (hx : VR g ρ x xv) (hy : VR g ρ y yv) :
    (keyEq cls x y = 1 → Instr.sameNow d xv yv = some true ∧ xv = yv ∧ ∀ n, Instr.sameBits n xv yv = true) ∧ (keyEq cls x y = 0 → Instr.sameNow d xv yv = some false) := by
  rcases hd with ⟨rfl, k, rfl⟩ | ⟨rfl, rfl⟩ | ⟨rfl, rfl⟩ | ⟨n, rfl⟩
  · cases hx <;> cases hy <;> first
      | exact ⟨fun h => absurd (show 2 = 1 from h) (by decide), fun h => absurd (show 2 = 0 from h) (by decide)⟩
      | skip
    rename_i k1 a k2 b
    have e : keyEq 0 (.int k1 a) (.int k2 b) = Bool.rec (motive := fun _ => Nat) 2 (Bool.rec (motive := fun _ => Nat) 0 1 (ieq a b)) (Nat.beq (kcode k1) (kcode k2)) := rfl
    rw [e]
    cases hk : Nat.beq (kcode k1) (kcode k2) with
    | false => exact ⟨fun h => absurd (show 2 = 1 from h) (by decide), fun h => absurd (show 2 = 0 from h) (by decide)⟩
    | true =>
      have hk := kcode_inj (beq_iff.1 hk)
      subst hk
      cases hab : ieq a b with
      | true =>
        have hab := (ieq_iff a b).1 hab
        subst hab
        refine ⟨fun _ => ⟨by simp [Instr.sameNow], rfl, fun n => by cases n <;> simp [Instr.sameBits]⟩, fun h => absurd (show 1 = 0 from h) (by decide)⟩
      | false =>
        refine ⟨fun h => absurd (show 0 = 1 from h) (by decide), fun _ => ?_⟩
        rw [ieq_eq] at hab
        simp only [Instr.sameNow, if_true, hab]
  · cases hx <;> cases hy <;> first
      | exact ⟨fun h => absurd (show 2 = 1 from h) (by decide), fun h => absurd (show 2 = 0 from h) (by decide)⟩
      | skip
    rename_i a b
    have e : keyEq 1 (.str a.data.toList.length (encList a.data.toList)) (.str b.data.toList.length (encList b.data.toList)) = Bool.rec (motive := fun _ => Nat) 0 1 (strEq a.data.toList.length (encList a.data.toList) b.data.toList.length (encList b.data.toList)) := rfl
    rw [e, strEq_eq]
    cases hab : (a.data.toList == b.data.toList) with
    | true =>
      have h0 : a.data.toList = b.data.toList := by simpa using hab
      have hab : a = b := by
        cases a; cases b
        congr 1
        exact Array.ext' h0
      subst hab
      have hself : (a == a) = true := by rw [ba_beq]; simp
      refine ⟨fun _ => ⟨by simp [Instr.sameNow, hself], rfl, fun n => by cases n <;> simp [Instr.sameBits, hself]⟩, fun h => absurd (show 1 = 0 from h) (by decide)⟩
    | false =>
      refine ⟨fun h => absurd (show 0 = 1 from h) (by decide), fun _ => ?_⟩
      have hne : (a == b) = false := by
        rw [ba_beq, beq_eq_false_iff_ne]
        intro h
        rw [h] at hab
        simp at hab
      simp only [Instr.sameNow, hne]
  · cases hx <;> cases hy <;> first
      | exact ⟨fun h => absurd (show 2 = 1 from h) (by decide), fun h => absurd (show 2 = 0 from h) (by decide)⟩
      | skip
    rename_i a b
    cases a <;> cases b <;> first
      | exact ⟨fun _ => ⟨by simp [Instr.sameNow], rfl, fun n => by cases n <;> simp [Instr.sameBits]⟩, fun h => absurd (show 1 = 0 from h) (by decide)⟩
      | exact ⟨fun h => absurd (show 0 = 1 from h) (by decide), fun _ => by simp [Instr.sameNow]⟩
  · have e : keyEq (3 + n) x y = 2 := by rw [Nat.add_comm]; rfl
    rw [e]
    exact ⟨fun h => absurd h (by decide), fun h => absurd h (by decide)⟩

theorem mapFind_cons (cls : Nat) (k h t : V) (yes : V → RO) (no : RO) : mapFind cls k (.cons h t) yes no =
    Bool.rec (motive := fun _ => RO) (Bool.rec (motive := fun _ => RO) (.bad 131) (mapFind cls k t yes no) (Nat.beq (keyEq cls k (V.hd h)) 0)) (yes (V.nth 1 h)) (Nat.beq (keyEq cls k (V.hd h)) 1) := rfl
theorem mapPut_cons (cls : Nat) (k x : V) (clock : Nat) (h t : V) : mapPut cls k x clock (.cons h t) =
    Bool.rec (motive := fun _ => V) (.cons h (mapPut cls k x clock t)) (.cons (.cons k (.cons x (V.tl (V.tl h)))) t) (Nat.beq (keyEq cls k (V.hd h)) 1) := rfl

/-- what the search finds; what the storing leaves -/
theorem mapFind_sound {g : G} {ρ : Rho} {cls : Nat} {d : TypeDesc} (hd : KeyD cls d) {k : V} {kv : Value} (hk : VR g ρ k kv) {yes : V → RO} {no r : RO} (hr : r.good) : ∀ {es : V} {l : List MapEntry}, MapR g ρ es l → mapFind cls k es yes no = r → ∀ i,
    (∃ j e y, Instr.findNow d kv l i = some (some (i + j, e.val)) ∧ l[j]? = some e ∧ e.key = kv ∧ (∀ n, Instr.sameBits n e.key kv = true) ∧ VR g ρ y e.val ∧ yes y = r ∧
      ∀ {x : V} {xv : Value} (clock : Nat), VR g ρ x xv → MapR g ρ (mapPut cls k x clock es) (l.modify j fun e => { e with key := kv, val := xv })) ∨
    (Instr.findNow d kv l i = some none ∧ no = r ∧ ∀ {x : V} {xv : Value} (clock : Nat), VR g ρ x xv → MapR g ρ (mapPut cls k x clock es) (l ++ [{ key := kv, val := xv, born := clock }]))
  | _, _, .nil, h, i => .inr ⟨rfl, h, fun {x} {xv} clock hx => MapR.cons (e := { key := kv, val := xv, born := clock }) hk hx .nil⟩
  | _, _, .cons (k := k1) (x := x1) (t := t) (e := e) (l := l) hk1 hx1 ht, h, i => by
    rw [mapFind_cons] at h
    have hkey := keyEq_sound hd hk hk1
    have hhd : V.hd (.cons k1 (.cons x1 (.cons (.int .i64 (e.born : Int)) .nil))) = k1 := rfl
    rw [hhd] at h
    cases h1 : Nat.beq (keyEq cls k k1) 1 with
    | true =>
      rw [h1] at h
      have h : yes x1 = r := h
      obtain ⟨q1, q2, q3⟩ := hkey.1 (beq_iff.1 h1)
      refine .inl ⟨0, e, x1, ?_, rfl, q2.symm, fun n => by rw [← q2] at q3 ⊢; exact q3 n, hx1, h, fun {x} {xv} clock hx => ?_⟩
      · simp [Instr.findNow, q1]
      · rw [mapPut_cons, hhd, h1]
        exact MapR.cons (e := { e with key := kv, val := xv }) hk hx ht
    | false =>
      rw [h1] at h
      obtain ⟨h0, h2⟩ := brec_inv (show Bool.rec (motive := fun _ => RO) (.bad 131) (mapFind cls k t yes no) (Nat.beq (keyEq cls k k1) 0) = r from h) hr
      have q1 := hkey.2 (beq_iff.1 h0)
      rcases mapFind_sound hd hk hr ht h2 (i + 1) with ⟨j, e', y, a1, a2, a3, a4, a5, a6, a7⟩ | ⟨a1, a2, a3⟩
      · refine .inl ⟨j + 1, e', y, ?_, by simpa using a2, a3, a4, a5, a6, fun {x} {xv} clock hx => ?_⟩
        · simp only [Instr.findNow, q1, a1]
          rw [show i + 1 + j = i + (j + 1) by omega]
        · rw [mapPut_cons, hhd, h1]
          exact MapR.cons hk1 hx1 (a7 clock hx)
      · refine .inr ⟨by simp only [Instr.findNow, q1, a1], a2, fun {x} {xv} clock hx => ?_⟩
        rw [mapPut_cons, hhd, h1]
        exact MapR.cons hk1 hx1 (a3 clock hx)

section
variable {P : Program} {gs : Nat → Bool} {g : G} {ρ : Rho} {base nt : Nat} {e : E2} {s s' : St} {a : Act} {w : World} {o : Oper}

theorem run_forIn_unit {α : Type} {w : World} {f : α → PUnit → Sem (ForInStep PUnit)} : ∀ {l : List α}, (∀ x ∈ l, (f x ⟨⟩).run P w = .ok (.yield ⟨⟩) w) → (forIn l PUnit.unit f).run P w = .ok ⟨⟩ w
  | [], _ => rfl
  | x :: l, h => by
    rw [List.forIn_cons, Sem.run_bind, h x (List.mem_cons_self ..)]
    simp only [Result.andThen_ok]
    exact run_forIn_unit fun y hy => h y (List.mem_cons_of_mem _ hy)

theorem checkKey_flat : ∀ {n : Nat} {t : TypeId} {k : Nat}, flatKey P n t k = true → ∀ {m : Nat}, n < m → ∀ {w : World} (b : Bool) {xs : Array Value}, xs.size = k → (Instr.checkKey b m t (.agg xs)).run P w = .ok () w
  | 0, t, k, h, m, hm, w, b, xs, hx => by cases h
  | n + 1, t, k, h, 0, hm, w, b, xs, hx => by omega
  | n + 1, t, k, h, m + 1, hm, w, b, xs, hx => by
    unfold flatKey at h
    split at h
    · rename_i fs ht
      simp only [Instr.checkKey, Sem.run_bind, run_und ht, Result.andThen_ok]
      rw [← Array.forIn_toList]
      refine (congrArg (fun r => Result.andThen r fun a w' => Sem.run P (pure ()) w') (run_forIn_unit (w := w) fun f hf => ?_)).trans rfl
      have hf' := List.all_eq_true.1 h f hf
      split at hf'
      · rename_i sz hag hsz
        rw [Bool.and_eq_true] at hf'
        have h1 := ble_iff.1 hf'.1
        have hpart : (part f.type xs f.offset).run P w = .ok (.agg (xs.extract f.offset (f.offset + sz))) w := by
          simp [part, run_isAgg hag, run_sizeOf hsz]
        have hrec := checkKey_flat hf'.2 (m := m) (by omega) (w := w) b (xs := xs.extract f.offset (f.offset + sz)) (by simp; omega)
        by_cases hn : f.name = "_"
        · simp [hn]
        · simp [hn, hpart, hrec]
      · rename_i sz hag hsz
        rw [Bool.and_eq_true] at hf'
        have h1 : f.offset < k := Nat.le_of_ble_eq_true hf'.1
        obtain ⟨y, hy⟩ : ∃ y, xs[f.offset]? = some y := ⟨_, Array.getElem?_eq_getElem (by omega)⟩
        have hpart : (part f.type xs f.offset).run P w = .ok y w := by
          simp [part, run_isAgg hag, hy]
        have hrec : (Instr.checkKey b m f.type y).run P w = .ok () w := by
          obtain ⟨m', rfl⟩ : ∃ m', m = m' + 1 := ⟨m - 1, by omega⟩
          have h2 := hf'.2
          split at h2
          · cases h2
          · cases h2
          · cases h2
          · rename_i d hd1 hd2 hd3 hd
            simp only [Instr.checkKey, Sem.run_bind, run_und hd, Result.andThen_ok]
            split
            · exact (hd1 _ rfl).elim
            · exact (hd2 _ _ rfl).elim
            · exact (hd3 _ rfl).elim
            · exact (hd1 _ rfl).elim
            · exact (hd1 _ rfl).elim
            · exact (hd2 _ _ rfl).elim
            · exact (hd3 _ rfl).elim
            · rfl
          · cases h2
        by_cases hn : f.name = "_"
        · simp [hn]
        · simp [hn, hpart, hrec]
      · cases hf'
    · cases h

theorem run_checkKey {b : Bool} {n : Nat} {t : TypeId} {d : TypeDesc} {cls : Nat} (hd : cls ≤ 2 ∧ KeyD cls d) (ht : P.underlying t = some d) {v : Value} : (Instr.checkKey b (n + 1) t v).run P w = .ok () w := by
  obtain ⟨h2, hd⟩ := hd
  rcases hd with ⟨rfl, k, rfl⟩ | ⟨rfl, rfl⟩ | ⟨rfl, rfl⟩ | ⟨n, rfl⟩
  · simp [Instr.checkKey, run_und ht]
  · simp [Instr.checkKey, run_und ht]
  · simp [Instr.checkKey, run_und ht]
  · omega

theorem lookRes_inv {ok b : Bool} {x v : V} (h : lookRes ok b x s = .ok v s') : s' = s ∧ v = if ok then .tup (.cons x (.cons (.bool b) .nil)) else x := by
  cases ok with
  | false => have h : RO.ok x s = .ok v s' := h; injection h with h1 h2; exact ⟨h2.symm, h1.symm⟩
  | true => have h : RO.ok (.tup (.cons x (.cons (.bool b) .nil))) s = .ok v s' := h; injection h with h1 h2; exact ⟨h2.symm, h1.symm⟩

theorem lookRes_VR {ok b : Bool} {x : V} {xv : Value} (hx : VR g ρ x xv) : VR g ρ (if ok then .tup (.cons x (.cons (.bool b) .nil)) else x) (if ok then .tuple #[xv, .bool b] else xv) := by
  cases ok with
  | false => exact hx
  | true => exact VR.tup (xs := [xv, .bool b]) (.cons hx (.cons (.bool b) .nil))

theorem evLook_map (cls : Nat) (zero : V) (ok : Bool) (f : K) (i : Nat) (k : V) (s : St) : evLook cls zero ok (.map f i) k s =
    Obj.rec (motive := fun _ => RO) (.bad 132) (fun _ _ _ _ _ _ => .bad 132) (fun v' es _ => RO.ite (Nat.beq i v') (mapFind cls k es (fun y => lookRes ok true y s) (lookRes ok false zero s)) (.bad 132)) (fun _ _ _ _ => .bad 132) (fun _ _ _ _ _ => .bad 132) (fun _ _ _ _ _ _ _ _ => .bad 132) (H4.at f s.h) := rfl
theorem evUpd_map (cls : Nat) (f : K) (i : Nat) (k x : V) (s : St) : evUpd cls (.map f i) k x s =
    Obj.rec (motive := fun _ => RO) (.bad 133) (fun _ _ _ _ _ _ => .bad 133) (fun v' es clock => RO.ite (Nat.beq i v')
      (mapFind cls k es (fun _ => .ok .undef ⟨H4.put f (.map v' (mapPut cls k x clock es) clock) s.h, s.nk, s.nx⟩) (.ok .undef ⟨H4.put f (.map v' (mapPut cls k x clock es) (Nat.succ clock)) s.h, s.nk, s.nx⟩)) (.bad 133)) (fun _ _ _ _ => .bad 133) (fun _ _ _ _ _ => .bad 133) (fun _ _ _ _ _ _ _ _ => .bad 133) (H4.at f s.h) := rfl
theorem evLenM_map (f : K) (i : Nat) (s : St) : evLenM (.map f i) s =
    Obj.rec (motive := fun _ => RO) (.bad 134) (fun _ _ _ _ _ _ => .bad 134) (fun v' es _ => RO.ite (Nat.beq i v') (okNat .i64 (V.len es) s) (.bad 134)) (fun _ _ _ _ => .bad 134) (fun _ _ _ _ _ => .bad 134) (fun _ _ _ _ _ _ _ _ => .bad 134) (H4.at f s.h) := rfl

theorem MapR.len {es : V} {l : List MapEntry} (h : MapR g ρ es l) : V.len es = l.length := by
  induction h with
  | nil => rfl
  | cons _ _ _ ih => simp only [List.length_cons, ← ih]; rfl

variable (hG : GlobR gs g) (hE : ER g ρ nt e a) (hW : WR g ρ base s w)
include hG hE hW

omit hG hE in
theorem op_mkMap {t : TypeId} {v : V} (ho : o.op = .makeMap t none) (h : evOp .mkMap e s = .ok v s') : OpOK P g ρ base s w a o v s' := by
  have h1 : evMkMap s = .ok v s' := h
  unfold evMkMap at h1
  cases hnx : s.nx with
  | zero => rw [hnx] at h1; exact absurd (show RO.bad 100 = .ok v s' from h1) (by simp)
  | succ m =>
    rw [hnx] at h1
    obtain ⟨hnone, h2⟩ := brec_inv h1 trivial
    have hnone : s.h.at s.nk = .none := by
      cases hf : H4.at s.nk s.h with
      | none => rfl
      | _ => rw [hf] at hnone; cases hnone
    injection h2 with h3 h4
    subst h3 h4
    have hst := hW.alloc hnone (.map #[] 0) (.map s.nx .nil 0) 0 (K.succ s.nk)
      ⟨rfl, hW.base, rfl, #[], by simp only [World.alloc, Array.getElem?_push_size], .nil⟩ (fun he _ => by cases he)
    rw [hnx] at hst
    refine ⟨.map (some w.heap.size), _, _, .inl ?_, hst, .map (L := ⟨w.heap.size, 0, 0⟩) (G.add_same _ _ _ _)⟩
    simp [execOp, ho, Instr.makeMap]

theorem op_lookM {t kt el : TypeId} {d : TypeDesc} {cls : Nat} {ok : Bool} {x y : Operand} {p q : Opd} {z : Value} {zv v : V} (ho : o.op = .lookup t x y ok) (ht : P.underlying t = some (.map kt el)) (hkt : P.underlying kt = some d) (hd : KeyD cls d) (hchk : KeyChk P cls kt)
    (hz : (P.info? el).bind (·.zero) = some z) (hzv : ofValue z = some zv) (hp : compOpd gs nt x = some p) (hq : compOpd gs nt y = some q) (h : evOp (.lookM cls zv ok p q) e s = .ok v s') : OpOK P g ρ base s w a o v s' := by
  have hx := opd_VR hG hE hp
  have hy := opd_VR hG hE hq
  have hzr : VR g ρ zv z := ofValue_VR hzv
  obtain ⟨hko, h1⟩ := ite_inv (show RO.ite (keyOK cls (q.val e)) (evLook cls zv ok (p.val e) (q.val e) s) (.bad 155) = .ok v s' from h) trivial
  generalize hax : a.eval x = xv at hx
  generalize hay : a.eval y = yv at hy
  generalize hpv : p.val e = pv at hx h1
  have hzero := run_zero (P := P) (w := w) hz
  have hck : ∀ (b : Bool), (Instr.checkKey b 10000 kt yv).run P w = .ok () w := fun b => hchk g ρ _ _ w b hy hko
  cases hx <;> first
    | exact absurd (show RO.bad 132 = .ok v s' from h1) (by simp)
    | skip
  · obtain ⟨h2, h3⟩ := lookRes_inv (show lookRes ok false zv s = .ok v s' from h1)
    subst h2 h3
    refine .pure hW (x := if ok then .tuple #[z, .bool false] else z) ?_ (lookRes_VR hzr)
    cases ok <;> simp [execOp, ho, hax, hay, Instr.lookup, run_und ht, hck, Instr.findKey, run_und hkt, Instr.findNow, hzero]
  · rename_i f i L hg
    rw [evLook_map] at h1
    cases hobj : H4.at f s.h with
    | none => rw [hobj] at h1; exact absurd (show RO.bad 132 = .ok v s' from h1) (by simp)
    | cells => rw [hobj] at h1; exact absurd (show RO.bad 132 = .ok v s' from h1) (by simp)
    | siter => rw [hobj] at h1; exact absurd (show RO.bad 132 = .ok v s' from h1) (by simp)
    | loop => rw [hobj] at h1; exact absurd (show RO.bad 132 = .ok v s' from h1) (by simp)
    | miter => rw [hobj] at h1; exact absurd (show RO.bad 132 = .ok v s' from h1) (by simp)
    | map v' es clock =>
      rw [hobj] at h1
      obtain ⟨_, h2⟩ := ite_inv (show RO.ite (Nat.beq i v') (mapFind cls (q.val e) es (fun y => lookRes ok true y s) (lookRes ok false zv s)) (.bad 132) = .ok v s' from h1) trivial
      have h0 := hW.obj hg
      rw [hobj] at h0
      obtain ⟨_, _, _, es', hheap, hm⟩ := h0
      have hget : (getObj L.blk).run P w = .ok (.map es' clock) w := by simp [getObj, Sem.run, hheap]
      rcases mapFind_sound hd hy (r := .ok v s') trivial hm h2 0 with ⟨j, en, y', a1, a2, a3, a4, a5, a6, a7⟩ | ⟨a1, a2, a3⟩
      · obtain ⟨h3, h4⟩ := lookRes_inv a6
        subst h3 h4
        refine .pure hW (x := if ok then .tuple #[en.val, .bool true] else en.val) ?_ (lookRes_VR a5)
        cases ok <;> simp [execOp, ho, hax, hay, Instr.lookup, run_und ht, hget, hck, Instr.findKey, run_und hkt, a1]
      · obtain ⟨h3, h4⟩ := lookRes_inv a2
        subst h3 h4
        refine .pure hW (x := if ok then .tuple #[z, .bool false] else z) ?_ (lookRes_VR hzr)
        cases ok <;> simp [execOp, ho, hax, hay, Instr.lookup, run_und ht, hget, hck, Instr.findKey, run_und hkt, a1, hzero]

theorem op_updM {t kt el : TypeId} {d : TypeDesc} {cls : Nat} {x y z : Operand} {p q r : Opd} {v : V} (ho : o.op = .mapUpdate t x y z ∨ o.op = .insert t x y z) (ht : P.underlying t = some (.map kt el)) (hkt : P.underlying kt = some d) (hd : KeyD cls d) (hchk : KeyChk P cls kt)
    (hp : compOpd gs nt x = some p) (hq : compOpd gs nt y = some q) (hr : compOpd gs nt z = some r) (h : evOp (.updM cls p q r) e s = .ok v s') : OpOK P g ρ base s w a o v s' := by
  have hx := opd_VR hG hE hp
  have hy := opd_VR hG hE hq
  have hz := opd_VR hG hE hr
  obtain ⟨hko, h1⟩ := ite_inv (show RO.ite (keyOK cls (q.val e)) (evUpd cls (p.val e) (q.val e) (r.val e) s) (.bad 155) = .ok v s' from h) trivial
  generalize hax : a.eval x = xv at hx
  generalize hay : a.eval y = yv at hy
  generalize haz : a.eval z = zv at hz
  generalize hpv : p.val e = pv at hx h1
  have hck : ∀ (b : Bool), (Instr.checkKey b 10000 kt yv).run P w = .ok () w := fun b => hchk g ρ _ _ w b hy hko
  cases hx <;> first
    | exact absurd (show RO.bad 133 = .ok v s' from h1) (by simp)
    | skip
  rename_i f i L hg
  rw [evUpd_map] at h1
  cases hobj : H4.at f s.h with
  | none => rw [hobj] at h1; exact absurd (show RO.bad 133 = .ok v s' from h1) (by simp)
  | cells => rw [hobj] at h1; exact absurd (show RO.bad 133 = .ok v s' from h1) (by simp)
  | siter => rw [hobj] at h1; exact absurd (show RO.bad 133 = .ok v s' from h1) (by simp)
  | loop => rw [hobj] at h1; exact absurd (show RO.bad 133 = .ok v s' from h1) (by simp)
  | miter => rw [hobj] at h1; exact absurd (show RO.bad 133 = .ok v s' from h1) (by simp)
  | map v' es clock =>
    rw [hobj] at h1
    obtain ⟨_, h2⟩ := ite_inv (show RO.ite (Nat.beq i v') (mapFind cls (q.val e) es (fun _ => .ok .undef ⟨H4.put f (.map v' (mapPut cls (q.val e) (r.val e) clock es) clock) s.h, s.nk, s.nx⟩) (.ok .undef ⟨H4.put f (.map v' (mapPut cls (q.val e) (r.val e) clock es) (Nat.succ clock)) s.h, s.nk, s.nx⟩)) (.bad 133) = .ok v s' from h1) trivial
    have h0 := hW.obj hg
    rw [hobj] at h0
    obtain ⟨_, _, _, es', hheap, hm⟩ := h0
    have hget : (getObj L.blk).run P w = .ok (.map es' clock) w := by simp [getObj, Sem.run, hheap]
    have hset : ∀ o', (setObj L.blk o').run P w = .ok () (World.put w L.blk o') := fun o' => by simp [setObj, Sem.run, hheap, World.put]
    rcases mapFind_sound hd hy (r := .ok v s') trivial hm h2 0 with ⟨j, en, y', a1, a2, a3, a4, a5, a6, a7⟩ | ⟨a1, a2, a3⟩
    · injection a6 with h3 h4
      subst h3 h4
      have hj : es'[j]? = some en := by rw [← Array.getElem?_toList]; exact a2
      have hmm := a7 clock hz
      have hstep := hW.mapSet (clock' := clock) hg hobj (ents' := es'.modify j fun e => { e with key := yv, val := zv }) (by rw [Array.toList_modify]; exact hmm)
      refine ⟨.tuple #[], _, g, .inr ⟨rfl, ?_⟩, hstep, .undef⟩
      have hkey : (Instr.keyThatStays en.key yv).run P w = .ok yv w := by simp [Instr.keyThatStays, a4]
      rw [Nat.zero_add] at a1
      rcases ho with ho | ho <;> simp [execOp, ho, hax, hay, haz, Instr.mapUpdate, run_und ht, hget, hck, Instr.findKey, run_und hkt, a1, hj, hkey, hset]
    · injection a2 with h3 h4
      subst h3 h4
      have hmm := a3 clock hz
      have hstep := hW.mapSet (clock' := clock + 1) hg hobj (ents' := es'.push { key := yv, val := zv, born := clock }) (by rw [Array.toList_push]; exact hmm)
      refine ⟨.tuple #[], _, g, .inr ⟨rfl, ?_⟩, hstep, .undef⟩
      rcases ho with ho | ho <;> simp [execOp, ho, hax, hay, haz, Instr.mapUpdate, run_und ht, hget, hck, Instr.findKey, run_und hkt, a1, hset]

theorem op_lenM {x : Operand} {p : Opd} {v : V} {c : Call} {t kt el : TypeId} (ho : o.op = .call c) (hc : c.callee = .builtin .len) (ha : c.args = #[x]) (hat : c.argTypes = #[t]) (ht : P.underlying t = some (.map kt el))
    (hp : compOpd gs nt x = some p) (h : evOp (.lenM p) e s = .ok v s') : OpOK P g ρ base s w a o v s' := by
  have hx := opd_VR hG hE hp
  have h1 : evLenM (p.val e) s = .ok v s' := h
  generalize hax : a.eval x = xv at hx
  generalize hpv : p.val e = pv at hx h1
  cases hx <;> first
    | exact absurd (show RO.bad 134 = .ok v s' from h1) (by simp)
    | skip
  · have h1 : okNat .i64 0 s = .ok v s' := h1
    rw [okNat_eq] at h1
    injection h1 with h2 h3
    subst h2 h3
    exact .pure hW (by simp [execOp, ho, resolve, hc, ha, hax, hat, invoke, builtin, Builtin.len_, run_und ht, goInt]) (.int .i64 0)
  · rename_i f i L hg
    rw [evLenM_map] at h1
    cases hobj : H4.at f s.h with
    | none => rw [hobj] at h1; exact absurd (show RO.bad 134 = .ok v s' from h1) (by simp)
    | cells => rw [hobj] at h1; exact absurd (show RO.bad 134 = .ok v s' from h1) (by simp)
    | siter => rw [hobj] at h1; exact absurd (show RO.bad 134 = .ok v s' from h1) (by simp)
    | loop => rw [hobj] at h1; exact absurd (show RO.bad 134 = .ok v s' from h1) (by simp)
    | miter => rw [hobj] at h1; exact absurd (show RO.bad 134 = .ok v s' from h1) (by simp)
    | map v' es clock =>
      rw [hobj] at h1
      obtain ⟨_, h2⟩ := ite_inv (show RO.ite (Nat.beq i v') (okNat .i64 (V.len es) s) (.bad 134) = .ok v s' from h1) trivial
      rw [okNat_eq] at h2
      injection h2 with h3 h4
      subst h3 h4
      have h0 := hW.obj hg
      rw [hobj] at h0
      obtain ⟨_, _, _, es', hheap, hm⟩ := h0
      have hl : V.len es = es'.size := by rw [hm.len, Array.length_toList]
      exact .pure hW (by simp [execOp, ho, resolve, hc, ha, hax, hat, invoke, builtin, Builtin.len_, run_und ht, goInt, getObj, Sem.run, hheap, hl]) (.int .i64 _)
end
end Go.Ev

namespace Go.Ev
set_option linter.unusedVariables false

/-! ## Interfaces and flat structs compared -/
section
variable {P : Program} {g : G} {ρ : Rho} {w : World}

theorem ba_beqL (a b : ByteArray) : (a == b) = (a.data.toList == b.data.toList) := by
  rw [ba_beq, Bool.eq_iff_iff]
  simp only [beq_iff_eq]
  exact ⟨fun h => by rw [h], fun h => Array.ext' h⟩

theorem eqCls_sound {ft : TypeId} {c : Nat} (hc : clsT P ft = some c) {x y : V} {xv yv : Value} (hx : VR g ρ x xv) (hy : VR g ρ y yv) (h2 : eqCls c x y ≠ 2) (d : Nat) :
    (Op.equalIn (d + 1) ft xv yv).run P w = .ok (eqCls c x y == 1) w := by
  unfold clsT at hc
  split at hc
  · rename_i ht
    injection hc with hc; subst hc
    cases hx <;> first
      | exact absurd rfl h2
      | skip
    cases hy <;> first
      | exact absurd rfl h2
      | skip
    rename_i b b'
    rw [run_equalIn_bool ht d]
    cases b <;> cases b' <;> rfl
  · rename_i k0 ht
    injection hc with hc; subst hc
    cases hx <;> first
      | exact absurd rfl h2
      | skip
    cases hy <;> first
      | exact absurd rfl h2
      | skip
    rename_i k n k' n'
    have he : eqCls 2 (.int k n) (.int k' n') = Bool.rec (motive := fun _ => Nat) 2 (Bool.rec (motive := fun _ => Nat) 0 1 (ieq n n')) (Nat.beq (kcode k) (kcode k')) := rfl
    cases hk : Nat.beq (kcode k) (kcode k') with
    | false => rw [he, hk] at h2; exact absurd rfl h2
    | true =>
      have hkk := kcode_inj (Nat.eq_of_beq_eq_true hk)
      subst hkk
      rw [he, hk]
      have hi : (Bool.rec (motive := fun _ => Nat) 0 1 (ieq n n') == 1) = (n == n') := by
        cases hb : ieq n n' with
        | true => rw [(ieq_iff n n').1 hb]; simp
        | false =>
          have hne : n ≠ n' := fun h => by rw [(ieq_iff n n').2 h] at hb; cases hb
          simp [hne]
      show _ = Result.ok (Bool.rec (motive := fun _ => Nat) 0 1 (ieq n n') == 1) w
      rw [hi]
      simp [Op.equalIn, run_und ht]
  · rename_i ht
    injection hc with hc; subst hc
    cases hx <;> first
      | exact absurd rfl h2
      | skip
    cases hy <;> first
      | exact absurd rfl h2
      | skip
    rename_i s s'
    have he : eqCls 3 (.str s.data.toList.length (encList s.data.toList)) (.str s'.data.toList.length (encList s'.data.toList)) =
      Bool.rec (motive := fun _ => Nat) 0 1 (strEq s.data.toList.length (encList s.data.toList) s'.data.toList.length (encList s'.data.toList)) := rfl
    rw [he, strEq_eq]
    have hi : (Bool.rec (motive := fun _ => Nat) 0 1 (s.data.toList == s'.data.toList) == 1) = (s == s') := by
      rw [ba_beqL]
      cases (s.data.toList == s'.data.toList) <;> rfl
    rw [hi]
    simp [Op.equalIn, run_und ht]
  · cases hc
theorem clsT_isAgg {t : TypeId} {c : Nat} (h : clsT P t = some c) : isAggT P t = some false := by
  unfold clsT at h
  unfold isAggT
  split at h
  all_goals first
    | (rename_i ht; rw [ht])
    | cases h

theorem eqCls_hd {c : Nat} {x y : V} (h : eqCls c x y ≠ 2) : x ≠ .undef := by
  intro he
  subst he
  apply h
  show Bool.rec (motive := fun _ => Nat) 2 (eqCode .undef y) (Nat.beq c 0) = 2
  have : eqCode .undef y = 2 := rfl
  rw [this]
  cases Nat.beq c 0 <;> rfl

theorem eqCls_tl {c : Nat} {x y : V} (h : eqCls c x y ≠ 2) : y ≠ .undef := by
  intro he
  subst he
  apply h
  have : eqCode x .undef = 2 := by cases x <;> rfl
  show Bool.rec (motive := fun _ => Nat) 2 (eqCode x .undef) (Nat.beq c _) = 2
  rw [this]
  cases Nat.beq c _ <;> rfl

theorem eqCells_cons {c : Nat} {cs : List Nat} {x y : V} (h : eqCells (c :: cs) x y ≠ 2) :
    eqCls c (V.hd x) (V.hd y) ≠ 2 ∧ ((eqCls c (V.hd x) (V.hd y) = 1 ∧ eqCells (c :: cs) x y = eqCells cs (V.tl x) (V.tl y)) ∨ (eqCls c (V.hd x) (V.hd y) = 0 ∧ eqCells (c :: cs) x y = 0)) := by
  have he : eqCells (c :: cs) x y = Bool.rec (motive := fun _ => Nat) (Bool.rec (motive := fun _ => Nat) 2 0 (Nat.beq (eqCls c (V.hd x) (V.hd y)) 0)) (eqCells cs (V.tl x) (V.tl y)) (Nat.beq (eqCls c (V.hd x) (V.hd y)) 1) := rfl
  cases h1 : Nat.beq (eqCls c (V.hd x) (V.hd y)) 1 with
  | true =>
    have h1' := Nat.eq_of_beq_eq_true h1
    rw [h1] at he
    exact ⟨by rw [h1']; decide, .inl ⟨h1', he⟩⟩
  | false =>
    rw [h1] at he
    cases h0 : Nat.beq (eqCls c (V.hd x) (V.hd y)) 0 with
    | true =>
      have h0' := Nat.eq_of_beq_eq_true h0
      rw [h0] at he
      exact ⟨by rw [h0']; decide, .inr ⟨h0', he⟩⟩
    | false => rw [h0] at he; exact absurd he h

theorem flat_loop {xl yl : List Value} (d : Nat) : ∀ (l : List Field) (i : Nat) {cls : List Nat}, flatFields P i l = some cls → ∀ {xs ys : V}, VL g ρ xs (xl.drop i) → VL g ρ ys (yl.drop i) → eqCells cls xs ys ≠ 2 →
    (forIn l ((none, ()) : Option Bool × Unit) (fun (f : Field) (_ : Option Bool × Unit) => if f.name = "_" then (pure (ForInStep.yield (none, ())) : Sem _) else do
      let a ← part f.type xl.toArray f.offset
      let b ← part f.type yl.toArray f.offset
      let r ← Op.equalIn (d + 1) f.type a b
      if r = false then pure (ForInStep.done (some false, ())) else pure (ForInStep.yield (none, ())))).run P w = .ok ((if eqCells cls xs ys = 1 then none else some false), ()) w := by
  intro l
  induction l with
  | nil =>
    intro i cls hf xs ys hx hy h2
    injection hf with hf
    subst hf
    have : eqCells [] xs ys = 1 := rfl
    rw [this]
    simp
  | cons f l ih =>
    intro i cls hf xs ys hx hy h2
    unfold flatFields at hf
    split at hf
    · rename_i c cs hc hcs
      split at hf
      · rename_i hcond
        obtain ⟨hoff, hname⟩ := hcond
        injection hf with hf
        subst hf
        obtain ⟨k2, k3⟩ := eqCells_cons h2
        generalize hxd : xl.drop i = xd at hx
        generalize hyd : yl.drop i = yd at hy
        cases hx with
        | nil => exact absurd rfl (eqCls_hd k2)
        | cons hx1 hx2 =>
          cases hy with
          | nil => exact absurd rfl (eqCls_tl k2)
          | cons hy1 hy2 =>
            rename_i x1 x2 xv xl' y1 y2 yv yl'
            have hxl : xl[i]? = some xv := by rw [← List.head?_drop, hxd]; rfl
            have hyl : yl[i]? = some yv := by rw [← List.head?_drop, hyd]; rfl
            have hx' : xl.drop (i + 1) = xl' := by rw [← List.drop_drop, hxd]; rfl
            have hy' : yl.drop (i + 1) = yl' := by rw [← List.drop_drop, hyd]; rfl
            have hr := eqCls_sound (w := w) hc hx1 hy1 k2 d
            have hi := run_isAgg (w := w) (clsT_isAgg hc)
            have hp1 : (part f.type xl.toArray f.offset).run P w = .ok xv w := by simp [part, hi, hoff, hxl]
            have hp2 : (part f.type yl.toArray f.offset).run P w = .ok yv w := by simp [part, hi, hoff, hyl]
            rw [List.forIn_cons]
            rcases k3 with ⟨k4, k5⟩ | ⟨k4, k5⟩
            · have k4' : eqCls c x1 y1 = 1 := k4
              rw [k4'] at hr
              rw [k5] at h2 ⊢
              have := ih (i + 1) hcs (by rw [hx']; exact hx2) (by rw [hy']; exact hy2) h2
              simp [hname, hp1, hp2, hr]
              exact this
            · have k4' : eqCls c x1 y1 = 0 := k4
              rw [k4'] at hr
              rw [k5]
              simp [hname, hp1, hp2, hr]
      · cases hf
    · cases hf

theorem flat_sound {t : TypeId} {cls : List Nat} (hf : flatT P t = some cls) {x y : V} {xv yv : Value} (hx : VR g ρ x xv) (hy : VR g ρ y yv) (h2 : eqAgg cls x y ≠ 2) (d : Nat) :
    (Op.equalIn (d + 2) t xv yv).run P w = .ok (eqAgg cls x y == 1) w ∧ P.eqGuardType P.depth t = false ∧ ∃ xs ys : Array Value, xv = .agg xs ∧ yv = .agg ys := by
  unfold flatT at hf
  split at hf
  · rename_i fs ht
    split at hf
    · rename_i hcond
      have hcond : P.stoodInHeld t = false ∧ P.eqGuardType P.depth t = false := by simpa using hcond
      obtain ⟨hs, hgt⟩ := hcond
      cases hx <;> first
        | exact absurd rfl h2
        | skip
      cases hy <;> first
        | exact absurd rfl h2
        | skip
      rename_i cs xl hxl hxc cs' yl hyl hyc
      have h2 : eqCells cls cs cs' ≠ 2 := h2
      refine ⟨?_, hgt, _, _, rfl, rfl⟩
      have hl := flat_loop (P := P) (w := w) (xl := xl) (yl := yl) d fs.toList 0 hf (by simpa using hxl) (by simpa using hyl) h2
      rw [Op.equalIn]
      simp only [Sem.run_bind, run_und ht, Result.andThen_ok]
      rw [Array.forIn_toList] at hl
      simp [hs, hl]
      show _ = Result.ok (eqCells cls cs cs' == 1) w
      by_cases h1 : eqCells cls cs cs' = 1 <;> simp [h1]
    · cases hf
  · cases hf

end
end Go.Ev

namespace Go.Ev
set_option linter.unusedVariables false
section
variable {P : Program} {gs : Nat → Bool} {g : G} {ρ : Rho} {base nt : Nat} {e : E2} {s s' : St} {a : Act} {w : World} {o : Oper}

theorem eqGuard_agg {op : BinOp} {t : TypeId} {x y : Operand} {xs ys : Array Value} (h : P.eqGuardType P.depth t = false) : (eqGuard op t x y (.agg xs) (.agg ys)).run P w = .ok () w := by
  cases op <;> simp [eqGuard, h]
theorem binOp_agg {op : BinOp} (hop : op = .eql ∨ op = .neq) {t : TypeId} {p q : Array Value} {b : Bool} (h : (Op.equal t (.agg p) (.agg q)).run P w = .ok b w) :
    (binOp op t (.agg p) (.agg q)).run P w = .ok (.bool (if negOf op then !b else b)) w := by
  rcases hop with rfl | rfl <;> simp [binOp, h, negOf]

theorem etab_find {t : Nat} {k : Bool → List Nat → RO} {r : RO} (hr : r.good) : ∀ {l : List Nat}, ETab.find t (ifaceTab P l) k = r →
    ∃ i a cls, P.info? t = some i ∧ i.comparable = true ∧ (a = false → ∃ c, clsT P t = some c ∧ cls = [c]) ∧ (a = true → flatT P t = some cls) ∧ k a cls = r := by
  intro l
  induction l with
  | nil => intro h; have h : RO.bad 90 = r := h; rw [← h] at hr; exact hr.elim
  | cons t' l ih =>
    intro h
    unfold ifaceTab at h
    split at h
    · rename_i i hi
      split at h
      · exact ih h
      · rename_i hcmp
        have hcmp : i.comparable = true := by simpa using hcmp
        split at h
        · rename_i c hc
          have h2 : Bool.rec (motive := fun _ => RO) (ETab.find t (ifaceTab P l) k) (k false [c]) (Nat.beq t t') = r := h
          cases hb : Nat.beq t t' with
          | false => rw [hb] at h2; exact ih h2
          | true =>
            rw [hb] at h2
            have ht := Nat.eq_of_beq_eq_true hb
            subst ht
            exact ⟨i, false, [c], hi, hcmp, fun _ => ⟨c, hc, rfl⟩, fun hh => (Bool.noConfusion hh), h2⟩
        · split at h
          · rename_i cs hcs
            have h2 : Bool.rec (motive := fun _ => RO) (ETab.find t (ifaceTab P l) k) (k true cs) (Nat.beq t t') = r := h
            cases hb : Nat.beq t t' with
            | false => rw [hb] at h2; exact ih h2
            | true =>
              rw [hb] at h2
              have ht := Nat.eq_of_beq_eq_true hb
              subst ht
              exact ⟨i, true, cs, hi, hcmp, fun hh => (Bool.noConfusion hh), fun _ => hcs, h2⟩
          · exact ih h
    · exact ih h

variable (hG : GlobR gs g) (hE : ER g ρ nt e a) (hW : WR g ρ base s w)
include hG hE hW

theorem op_eqFlat {op : BinOp} (hop : op = .eql ∨ op = .neq) {t u : TypeId} {cls : List Nat} (ht : flatT P t = some cls) {x y : Operand} {p q : Opd} {v : V} (ho : o.op = .binOp op t x y u) (hp : compOpd gs nt x = some p)
    (hq : compOpd gs nt y = some q) (h : evOp (.eqFlat (negOf op) cls p q) e s = .ok v s') : OpOK P g ρ base s w a o v s' := by
  obtain ⟨h1, h2⟩ := okCode_inv (show okCode (negOf op) (eqAgg cls (p.val e) (q.val e)) s = .ok v s' from h)
  subst h1
  have hx := opd_VR hG hE hp
  have hy := opd_VR hG hE hq
  generalize hax : a.eval x = xv at hx
  generalize hay : a.eval y = yv at hy
  have hc2 : eqAgg cls (p.val e) (q.val e) ≠ 2 := by rcases h2 with ⟨h2, _⟩ | ⟨h2, _⟩ <;> rw [h2] <;> decide
  obtain ⟨k1, k2, xs, ys, rfl, rfl⟩ := flat_sound (P := P) (w := w) ht hx hy hc2 9998
  have k1 : (Op.equal t (.agg xs) (.agg ys)).run P w = .ok (eqAgg cls (p.val e) (q.val e) == 1) w := k1
  refine .pure hW (x := .bool (if negOf op then !(eqAgg cls (p.val e) (q.val e) == 1) else (eqAgg cls (p.val e) (q.val e) == 1))) ?_ ?_
  · simp [execOp, ho, hax, hay, eqGuard_agg k2, binOp_agg hop k1]
  · rcases h2 with ⟨h2, h3⟩ | ⟨h2, h3⟩ <;> rw [h3, h2] <;> cases negOf op <;> exact .bool _

omit hG hE hW in
theorem binOp_if {op : BinOp} (hop : op = .eql ∨ op = .neq) {t : TypeId} {p q : Value} (hpq : (∃ u z, p = .iface u z) ∨ p = .nilIface) {b : Bool} (h : (Op.equal t p q).run P w = .ok b w) :
    (binOp op t p q).run P w = .ok (.bool (if negOf op then !b else b)) w := by
  rcases hpq with ⟨u, z, rfl⟩ | rfl <;> rcases hop with rfl | rfl <;> simp [binOp, h, negOf]
omit hG hE hW in
theorem eqGuard_if {op : BinOp} {t u : TypeId} {x y : Operand} {z : Value} : eqGuard op t x y .nilIface (.iface u z) = pure () := by
  cases op <;> rfl

theorem op_eqI {op : BinOp} (hop : op = .eql ∨ op = .neq) {t u : TypeId} {ms : Array (String × TypeId)} (ht : P.underlying t = some (.interface ms)) {x y : Operand} {p q : Opd} {v : V} (ho : o.op = .binOp op t x y u)
    (hp : compOpd gs nt x = some p) (hq : compOpd gs nt y = some q) {l : List Nat} (h : evOp (.eqI (negOf op) (ifaceTab P l) p q) e s = .ok v s') : OpOK P g ρ base s w a o v s' := by
  have h : eqIface (negOf op) (ifaceTab P l) (p.val e) (q.val e) s = .ok v s' := h
  have hx := opd_VR hG hE hp
  have hy := opd_VR hG hE hq
  generalize hax : a.eval x = xv at hx
  generalize hay : a.eval y = yv at hy
  generalize p.val e = pv at h hx
  generalize q.val e = qv at h hy
  unfold eqIface at h
  split at h
  · cases hx
    cases hy with | iface hz =>
    rw [okBool_eq] at h
    injection h with h1 h2
    subst h1 h2
    have k1 : ∀ u z, (Op.equal t .nilIface (.iface u z)).run P w = .ok false w := fun u z => by
      show (Op.equalIn (9999 + 1) t _ _).run P w = _
      rw [Op.equalIn]
      simp [run_und ht]
    refine .pure hW (x := .bool (if negOf op then !false else false)) (by simp [execOp, ho, hax, hay, eqGuard_if, binOp_if hop (.inr rfl) (k1 _ _)]) ?_
    cases negOf op <;> exact .bool _
  · cases hy
    cases hx with | iface hz =>
    rw [okBool_eq] at h
    injection h with h1 h2
    subst h1 h2
    have k1 : ∀ u z, (Op.equal t (.iface u z) .nilIface).run P w = .ok false w := fun u z => by
      show (Op.equalIn (9999 + 1) t _ _).run P w = _
      rw [Op.equalIn]
      simp [run_und ht]
    refine .pure hW (x := .bool (if negOf op then !false else false)) (by simp [execOp, ho, hax, hay, eqGuard_plain, binOp_if hop (.inl ⟨_, _, rfl⟩) (k1 _ _)]) ?_
    cases negOf op <;> exact .bool _
  · rename_i tx x' ty y'
    cases hx with | iface hx' =>
    cases hy with | iface hy' =>
    rename_i xw yw
    cases hb : Nat.beq tx ty with
    | false =>
      rw [hb] at h
      have h : okBool (negOf op) s = .ok v s' := h
      rw [okBool_eq] at h
      injection h with h1 h2
      subst h1 h2
      have hne : tx ≠ ty := fun he => by rw [he, Nat.beq_refl] at hb; cases hb
      have k1 : (Op.equal t (.iface tx xw) (.iface ty yw)).run P w = .ok false w := by
        show (Op.equalIn (9999 + 1) t _ _).run P w = _
        rw [Op.equalIn]
        simp [run_und ht, hne]
      refine .pure hW (x := .bool (if negOf op then !false else false)) (by simp [execOp, ho, hax, hay, eqGuard_plain, binOp_if hop (.inl ⟨_, _, rfl⟩) k1]) ?_
      cases negOf op <;> exact .bool _
    | true =>
      have hty := Nat.eq_of_beq_eq_true hb
      subst hty
      rw [hb] at h
      obtain ⟨i, ag, cls, hi, hcmp, hbas, hagg, h⟩ := etab_find (r := .ok v s') trivial (show ETab.find tx (ifaceTab P l) (fun a c => okCode (negOf op) (eqOf a c x' y') s) = .ok v s' from h)
      obtain ⟨h1, h2⟩ := okCode_inv h
      subst h1
      have hc2 : eqOf ag cls x' y' ≠ 2 := by rcases h2 with ⟨h2, _⟩ | ⟨h2, _⟩ <;> rw [h2] <;> decide
      have k0 : (Op.equalIn 9999 tx xw yw).run P w = .ok (eqOf ag cls x' y' == 1) w := by
        cases ag with
        | false =>
          obtain ⟨c, hc, rfl⟩ := hbas rfl
          exact eqCls_sound hc hx' hy' hc2 9998
        | true => exact (flat_sound (hagg rfl) hx' hy' hc2 9997).1
      have k1 : (Op.equal t (.iface tx xw) (.iface tx yw)).run P w = .ok (eqOf ag cls x' y' == 1) w := by
        show (Op.equalIn (9999 + 1) t _ _).run P w = _
        rw [Op.equalIn]
        simp [run_und ht, run_typeInfo hi, hcmp, k0]
      refine .pure hW (x := .bool (if negOf op then !(eqOf ag cls x' y' == 1) else (eqOf ag cls x' y' == 1))) (by simp [execOp, ho, hax, hay, eqGuard_plain, binOp_if hop (.inl ⟨_, _, rfl⟩) k1]) ?_
      rcases h2 with ⟨h2, h3⟩ | ⟨h2, h3⟩ <;> rw [h3, h2] <;> cases negOf op <;> exact .bool _
  · cases h
end
end Go.Ev

namespace Go.Ev
set_option linter.unusedVariables false

section
variable {P : Program} {gs : Nat → Bool} {g : G} {ρ : Rho} {base nt : Nat} {e : E2} {s s' : St} {a : Act} {w : World} {o : Oper}

theorem run_s2b {el : TypeId} (b : ByteArray) (hbig : b.size ≤ 1048576) : (Conv.stringToBytes el b).run P w =
    .ok (.slice (some ⟨w.heap.size, 0, none⟩) b.size (grownCap w b.size 0 el))
      ((w.drew.alloc (.cells (b.data.map (fun x : UInt8 => Value.int .u8 (x.toNat : Int)) ++ Array.replicate (grownCap w b.size 0 el - b.size) (Value.int .u8 0)) el)).freeze ⟨w.heap.size, grownCap w b.size 0 el, none⟩ 1) := by
  have hcap : b.size ≤ grownCap w b.size 0 el := by simp only [grownCap, Question.cut]; omega
  have hsz : (b.data.map (fun x : UInt8 => Value.int .u8 (x.toNat : Int)) ++ Array.replicate (grownCap w b.size 0 el - b.size) (Value.int .u8 0)).size = grownCap w b.size 0 el := by
    simp only [Array.size_append, Array.size_map, Array.size_replicate]
    have : b.data.size = b.size := rfl
    omega
  generalize hcs : (b.data.map (fun x : UInt8 => Value.int .u8 (x.toNat : Int)) ++ Array.replicate (grownCap w b.size 0 el - b.size) (Value.int .u8 0)) = cs at hsz
  have hheap : (w.drew.alloc (.cells cs el)).heap[w.heap.size]? = some (.cells cs el (0, 0)) := by
    show (w.heap.push _)[w.heap.size]? = _
    exact Array.getElem?_push_size
  have hmark : (markStringish ⟨w.heap.size, 0, none⟩).run P (w.drew.alloc (.cells cs el)) = .ok () ((w.drew.alloc (.cells cs el)).freeze ⟨w.heap.size, grownCap w b.size 0 el, none⟩ 1) := by
    have hs : (w.drew.alloc (.cells cs el)).shape? w.heap.size = some (el, grownCap w b.size 0 el) := by
      unfold World.shape?
      rw [hheap, ← hsz]
    generalize w.drew.alloc (.cells cs el) = w1 at hs
    simp [markStringish, shape, Sem.run, hs, Go.freeze]
  have hch : (choose (.appendCap b.size 0 el)).run P w = .ok (grownCap w b.size 0 el) w.drew := by
    simp [Question.forced, grownCap]
  have hnew : (newRow el cs).run P w.drew = .ok ⟨w.heap.size, 0, none⟩ (w.drew.alloc (.cells cs el)) := by
    simp [newRow]
    rfl
  simp only [Conv.stringToBytes, Sem.run_bind, hch, Result.andThen]
  rw [hcs]
  simp only [hnew, hmark, Sem.run_pure]

variable (hG : GlobR gs g) (hE : ER g ρ nt e a) (hW : WR g ρ base s w)
include hG hE hW
theorem op_s2b {x : Operand} {p : Opd} {v : V} {t u el : TypeId} (ho : o.op = .convert t u x) (ht : P.underlying t = some .string) (hu : P.underlying u = some (.slice el)) (hel : P.underlying el = some (.int .u8))
    (hp : compOpd gs nt x = some p) (h : evOp (.s2b el p) e s = .ok v s') : OpOK P g ρ base s w a o v s' := by
  have hx := opd_VR hG hE hp
  obtain ⟨l, d, hpv, h1⟩ := withStr_inv (show withStr (p.val e) (fun l d => evS2B el l d s) = .ok v s' from h) trivial
  obtain ⟨hbig, h2⟩ := ite_inv h1 trivial
  have hbig : l ≤ 1048576 := ble_iff.1 hbig
  rw [hpv] at hx
  generalize hax : a.eval x = xv at hx
  cases hx
  rename_i b _
  obtain ⟨hnone, h3⟩ := alloc_inv h2 trivial
  injection h3 with h4 h5
  subst h4 h5
  have hlen : b.data.toList.length = b.size := by simp
  have hcap : b.size ≤ grownCap w b.size 0 el := by simp only [grownCap, Question.cut]; omega
  have hcap2 : grownCap w b.size 0 el < 9223372036854775808 := by
    simp only [grownCap, Question.cut]
    have hpos : 0 < 2 ^ 63 - b.size := by omega
    have := Nat.mod_lt (w.tape w.drawn (.appendCap b.size 0 el)) hpos
    omega
  have hrun := run_s2b (P := P) (w := w) (el := el) b (by omega)
  generalize hcs : (b.data.map (fun x : UInt8 => Value.int .u8 (x.toNat : Int)) ++ Array.replicate (grownCap w b.size 0 el - b.size) (Value.int .u8 0)) = cs at hrun
  have hsz : cs.size = grownCap w b.size 0 el := by
    rw [← hcs]
    simp only [Array.size_append, Array.size_map, Array.size_replicate]
    have : b.data.size = b.size := rfl
    omega
  have hrow : RowR g ρ 1 0 (b.data.toList.length * 1) (V.putElems (bytesOf b.data.toList.length (encList b.data.toList)) 0 .nil) cs := by
    refine RowR.put (n := 0) (e0 := 0) (RowR.nil') (bytesOf_sound _ b.data.toList (Nat.le_refl _)) (Nat.zero_le _) (Nat.zero_le _) (by omega) ?_
    intro j hj
    rw [← hcs, Nat.zero_mul, Nat.sub_self, Nat.zero_add]
    have hj : j < b.data.size := by simpa using hj
    rw [Array.getElem?_append_left (by simpa using hj), List.take_of_length_le (Nat.le_refl _)]
    simp
  rw [Nat.mul_one] at hrow
  obtain ⟨g', hs, hg', hle⟩ := alloc_sound (elem := el) (sz := 1) hW.drew hnone cs Nat.one_pos (by rw [hsz]; omega) hrow
  have hheap : (w.drew.alloc (.cells cs el)).heap[w.heap.size]? = some (.cells cs el (0, 0)) := by
    show (w.heap.push _)[w.heap.size]? = _
    exact Array.getElem?_push_size
  have hfr := freeze_put (w := w.drew.alloc (.cells cs el)) (off := grownCap w b.size 0 el) (n := 1) hheap (by decide)
  have hobj : H4.at s.nk (H4.put s.nk (.cells el 1 false 0 0 (.more s.nx b.data.toList.length (V.putElems (bytesOf b.data.toList.length (encList b.data.toList)) 0 .nil) .none)) s.h) =
      .cells el 1 false 0 0 (.more s.nx b.data.toList.length (V.putElems (bytesOf b.data.toList.length (encList b.data.toList)) 0 .nil) .none) := by rw [H4.at_put, if_pos rfl]
  have hst := hs.wr.freeze (a2 := b.data.toList.length) (b2 := 18446744073709551616) (fz' := (grownCap w b.size 0 el, grownCap w b.size 0 el + 1)) hg' hobj (c := cs) (fz := (0, 0)) hheap
    ⟨Nat.le_succ _, fun i h1 h2 => by
      have h1 : grownCap w b.size 0 el ≤ i := h1
      have h2 : i < grownCap w b.size 0 el + 1 := h2
      show _ ≤ i + 0 ∧ i + 0 < _
      omega⟩ (fun i _ h2 => absurd h2 (Nat.not_lt_zero i))
  refine ⟨.slice (some ⟨w.heap.size, 0, none⟩) b.size (grownCap w b.size 0 el), _, g', .inl ?_, Step.of_drew (hs.trans hst), ?_⟩
  · rw [hfr] at hrun
    simp [execOp, ho, hax, convert, run_und ht, run_und hu, run_und hel, hrun]
  · rw [hlen]
    exact .sl (L := ⟨w.heap.size, 0, _⟩) hg' (Nat.le_refl 0) hcap (fun h => by cases h) (Nat.le_refl _) (by rw [hsz]; simp) (.inr rfl)

theorem op_b2s {x : Operand} {p : Opd} {v : V} {t u el : TypeId} (ho : o.op = .convert t u x) (ht : P.underlying t = some (.slice el)) (hu : P.underlying u = some .string) (hel : P.underlying el = some (.int .u8))
    (hp : compOpd gs nt x = some p) (h : evOp (.b2s p) e s = .ok v s') : OpOK P g ρ base s w a o v s' := by
  have hx := opd_VR hG hE hp
  have h1 : evB2S (p.val e) s = .ok v s' := h
  generalize hax : a.eval x = xv at hx
  generalize hpv : p.val e = pv at hx h1
  cases hx <;> first
    | exact absurd (show RO.bad 136 = .ok v s' from h1) (by simp)
    | skip
  · have h2 : RO.ok (.str 0 0) s = .ok v s' := h1
    injection h2 with h3 h4
    subst h3 h4
    exact .pure hW (x := .string .empty) (by simp [execOp, ho, hax, convert, run_und ht, run_und hu, run_und hel, Conv.bytesToString]) (VR.str .empty)
  · rename_i f i off len cap cap' es ex ad L hg hoff hcap hex hlen hfit had
    obtain ⟨hes, h2⟩ := ite_inv (show RO.ite (Nat.beq es 1) (getElems 1 len f i off s fun l => RO.ite (allBytes l) (okStr len (bytesNum l) s) (.bad 117)) (.bad 136) = .ok v s' from h1) trivial
    have hes := beq_iff.1 hes
    subst hes
    obtain ⟨l, ys, hl, hcell, h3⟩ := getElems_inv hW hg hoff h2 trivial
    obtain ⟨hall, h4⟩ := ite_inv h3 trivial
    obtain ⟨bs, hbl, hys, hnum⟩ := bytes_of_els hl hall
    have hnil : len = 0 → (loadCells ad len).run P w = .ok #[] w := by intro h0; subst h0; simp [loadCells, loadCellsFrom]
    have hload : (loadCells ad len).run P w = .ok ((bs.map fun b => (b.toNat : Int)).map (Value.int .u8)).toArray w := by
      have hys2 : ys = (bs.map fun b => (b.toNat : Int)).map (Value.int .u8) := by rw [hys]; simp [Lib.byteCells]
      rw [← hys2]
      by_cases h0 : len = 0
      · have : ys = [] := by rw [hys]; have : bs = [] := List.eq_nil_of_length_eq_zero (by omega); subst this; rfl
        rw [this]; exact hnil h0
      · have hc0 : cap' ≠ 0 := by omega
        have had := had.resolve_left hc0
        subst had
        have hyl : ys.length = len := by have := hl.length; omega
        have := run_loadCells_list (P := P) w ⟨L.blk, off - L.sh, none⟩ ys (fun j y hj => by rw [addr_add]; exact hcell j y hj)
        rw [hyl] at this
        exact this
    have hfold : ∀ (l : List UInt8) (r : ByteArray), (l.map fun b => (b.toNat : Int)).foldl (fun (r : ByteArray) n => r.push (UInt8.ofNat n.toNat)) r = ⟨r.data ++ l.toArray⟩ := by
      intro l
      induction l with
      | nil => intro r; simp
      | cons b l ih =>
        intro r
        simp only [List.map_cons, List.foldl_cons]
        rw [ih]
        simp [ByteArray.push]
    have hconv : (Conv.bytesToString (.slice (some ad) len cap')).run P w = .ok (.string ⟨bs.toArray⟩) w := by
      rw [run_bytesToString w ad len cap' _ hload, hfold]
      congr 3
      simp
    have hlen2 : len = (⟨bs.toArray⟩ : ByteArray).data.toList.length := by simp [hbl]
    have h5 : v = .str len (bytesNum l) ∧ s' = s := by
      cases len with
      | zero =>
        have hb0 : bs = [] := List.eq_nil_of_length_eq_zero (by omega)
        have : okStr 0 (bytesNum l) s = .ok (.str 0 0) s := rfl
        rw [this] at h4
        injection h4 with h5 h6
        rw [hnum, hb0]
        exact ⟨h5.symm, h6.symm⟩
      | succ n =>
        rw [okStr_eq _ _ _ (by intro h; cases h)] at h4
        injection h4 with h5 h6
        exact ⟨h5.symm, h6.symm⟩
    obtain ⟨h5, h6⟩ := h5
    subst h5 h6
    refine .pure hW (x := .string ⟨bs.toArray⟩) (by simp [execOp, ho, hax, convert, run_und ht, run_und hu, run_und hel, hconv]) ?_
    have := VR.str (g := g) (ρ := ρ) ⟨bs.toArray⟩
    rw [← hlen2] at this
    rw [hnum]
    simpa using this

theorem op_minmax3 {max : Bool} {x y z : Operand} {p q r : Opd} {v : V} {c : Call} (ho : o.op = .call c) (hc : c.callee = .builtin (if max then .max else .min)) (ha : c.args = #[x, y, z])
    (hp : compOpd gs nt x = some p) (hq : compOpd gs nt y = some q) (hr : compOpd gs nt z = some r) (h : evOp (.minmax3 max p q r) e s = .ok v s') : OpOK P g ρ base s w a o v s' := by
  obtain ⟨k, n, hpv, h1⟩ := withInt_inv h trivial
  obtain ⟨k', m, hqv, h2⟩ := withInt_inv h1 trivial
  obtain ⟨k2, l, hrv, h3⟩ := withInt_inv h2 trivial
  have hx := opd_VR hG hE hp
  have hy := opd_VR hG hE hq
  have hz := opd_VR hG hE hr
  rw [hpv] at hx
  rw [hqv] at hy
  rw [hrv] at hz
  generalize hax : a.eval x = xv at hx
  generalize hay : a.eval y = yv at hy
  generalize haz : a.eval z = zv at hz
  cases hx
  cases hy
  cases hz
  injection h3 with h4 h5
  subst h4 h5
  have hmx : ∀ a b : Int, mmF true a b = if b > a then b else a := by
    intro a b
    by_cases hle : a ≤ b
    · have : mmF true a b = b := by
        show (Bool.rec (motive := fun _ => Int) a b (ile a b) : Int) = b
        rw [(ile_iff a b).2 hle]
      rw [this]; split <;> omega
    · have hf : ile a b = false := by rw [← Bool.not_eq_true]; exact fun h => hle ((ile_iff a b).1 h)
      have : mmF true a b = a := by
        show (Bool.rec (motive := fun _ => Int) a b (ile a b) : Int) = a
        rw [hf]
      rw [this]; split <;> omega
  have hmn : ∀ a b : Int, mmF false a b = if b < a then b else a := by
    intro a b
    by_cases hle : a ≤ b
    · have : mmF false a b = a := by
        show (Bool.rec (motive := fun _ => Int) b a (ile a b) : Int) = a
        rw [(ile_iff a b).2 hle]
      rw [this]; split <;> omega
    · have hf : ile a b = false := by rw [← Bool.not_eq_true]; exact fun h => hle ((ile_iff a b).1 h)
      have : mmF false a b = b := by
        show (Bool.rec (motive := fun _ => Int) b a (ile a b) : Int) = b
        rw [hf]
      rw [this]; split <;> omega
  cases max with
  | true =>
    refine .pure hW (x := .int k (mmF true (mmF true n m) l)) ?_ (.int k _)
    rw [hmx, hmx]
    simp [execOp, ho, resolve, hc, ha, hax, hay, haz, invoke, builtin, Builtin.max_, Builtin.max2]
  | false =>
    refine .pure hW (x := .int k (mmF false (mmF false n m) l)) ?_ (.int k _)
    rw [hmn, hmn]
    simp [execOp, ho, resolve, hc, ha, hax, hay, haz, invoke, builtin, Builtin.min_, Builtin.min2]
end
end Go.Ev

namespace Go.Ev
set_option linter.unusedVariables false

/-! ## Maps: deleting, ranging -/
theorem WR.setMiter {g : G} {ρ : Rho} {base : Nat} {s : St} {w : World} (hW : WR g ρ base s w) {f : K} {v : Nat} {L : Loc} (hg : g f v = some L) {src : V} {since last : Nat} {seen : List Nat}
    (hobj : s.h.at f = .miter v src since seen last) {m : Option Nat} {se : Array Nat} (hm : VR g ρ src (.map m)) (last' : Nat) :
    Step g ρ base s w g ⟨H4.put f (.miter v src since se.toList last') s.h, s.nk, s.nx⟩ (World.put w L.blk (.mapIter m since se last')) := by
  have hlt := hW.lt hg
  have h0 := hW.obj hg
  rw [hobj] at h0
  refine ⟨.refl g w, ⟨by simp [World.put], ?_, rfl, rfl, rfl⟩, ⟨hW.fresh, hW.inj, fun h => by have := hW.lt h; simpa [World.put] using this, ?_, by simpa [World.put] using hW.base, ?_, hW.ro_put (by rw [hobj]; intro _ _ _ _ _ h; cases h)⟩, Nat.le_refl _, fun _ _ _ h _ => h⟩
  · intro b hb hor
    rw [heap_put]
    by_cases he : L.blk = b
    · exfalso
      rcases hor with hor | hor
      · have := h0.2.1; omega
      · exact hor f v L hg he
    · rw [if_neg he]
  · intro f' v1 L' hg'
    have h1 := hW.obj hg'
    show ObjR g ρ base v1 L' _ (H4.at f' (H4.put f _ s.h))
    rw [H4.at_put]
    by_cases hf : f' = f
    · subst hf
      rw [if_pos rfl]
      rw [hobj] at h1
      obtain ⟨e1, e2, e3, _⟩ := h1
      have hv : v1 = v := e1
      subst hv
      rw [hg] at hg'
      injection hg' with hg'
      subst hg'
      exact ⟨e1, e2, e3, m, se, by rw [heap_put, if_pos rfl, if_pos hlt], rfl, hm⟩
    · rw [if_neg hf]
      refine ObjR.mono (fun _ _ _ h => h) ?_ h1
      rw [heap_put, if_neg]
      intro hb
      exact hf (hW.inj hg hg' hb).1.symm
  · intro f' elem' sz' ro' a' b' vs' v' n' ch'' hf hv
    have hf : H4.at f' (H4.put f _ s.h) = _ := hf
    rw [H4.at_put] at hf
    by_cases he : f' = f
    · rw [if_pos he] at hf; cases hf
    · rw [if_neg he] at hf
      exact hW.ids hf hv

theorem mapDrop_cons (cls : Nat) (k h t : V) : mapDrop cls k (.cons h t) = Bool.rec (motive := fun _ => V) (.cons h (mapDrop cls k t)) t (Nat.beq (keyEq cls k (V.hd h)) 1) := rfl
theorem mapFind_drop {g : G} {ρ : Rho} {cls : Nat} {d : TypeDesc} (hd : KeyD cls d) {k : V} {kv : Value} (hk : VR g ρ k kv) {yes : V → RO} {no r : RO} (hr : r.good) : ∀ {es : V} {l : List MapEntry}, MapR g ρ es l → mapFind cls k es yes no = r → ∀ i,
    (∃ j e y, Instr.findNow d kv l i = some (some (i + j, e.val)) ∧ l[j]? = some e ∧ yes y = r ∧ MapR g ρ (mapDrop cls k es) (l.eraseIdx j)) ∨
    (Instr.findNow d kv l i = some none ∧ no = r)
  | _, _, .nil, h, i => .inr ⟨rfl, h⟩
  | _, _, .cons (k := k1) (x := x1) (t := t) (e := e) (l := l) hk1 hx1 ht, h, i => by
    rw [mapFind_cons] at h
    have hkey := keyEq_sound hd hk hk1
    have hhd : V.hd (.cons k1 (.cons x1 (.cons (.int .i64 (e.born : Int)) .nil))) = k1 := rfl
    rw [hhd] at h
    cases h1 : Nat.beq (keyEq cls k k1) 1 with
    | true =>
      rw [h1] at h
      have h : yes x1 = r := h
      obtain ⟨q1, q2, q3⟩ := hkey.1 (beq_iff.1 h1)
      refine .inl ⟨0, e, x1, ?_, rfl, h, ?_⟩
      · simp [Instr.findNow, q1]
      · rw [mapDrop_cons, hhd, h1]
        exact ht
    | false =>
      rw [h1] at h
      obtain ⟨h0, h2⟩ := brec_inv (show Bool.rec (motive := fun _ => RO) (.bad 131) (mapFind cls k t yes no) (Nat.beq (keyEq cls k k1) 0) = r from h) hr
      have q1 := hkey.2 (beq_iff.1 h0)
      rcases mapFind_drop hd hk hr ht h2 (i + 1) with ⟨j, e', y, a1, a2, a3, a4⟩ | ⟨a1, a2⟩
      · refine .inl ⟨j + 1, e', y, ?_, by simpa using a2, a3, ?_⟩
        · simp only [Instr.findNow, q1, a1]
          rw [show i + 1 + j = i + (j + 1) by omega]
        · rw [mapDrop_cons, hhd, h1]
          exact MapR.cons hk1 hx1 a4
      · exact .inr ⟨by simp only [Instr.findNow, q1, a1], a2⟩

theorem born_of (k x : V) (n : Nat) : bornOf (.cons k (.cons x (.cons (.int .i64 (n : Int)) .nil))) = n := rfl
theorem leftV_R {g : G} {ρ : Rho} (seen : List Nat) {es : V} {l : List MapEntry} (h : MapR g ρ es l) : MapR g ρ (leftV seen es) (l.filter fun e => !seen.contains e.born) := by
  induction h with
  | nil => exact .nil
  | cons hk hx ht ih =>
    rename_i k x t e l
    have e1 : leftV seen (.cons (.cons k (.cons x (.cons (.int .i64 (e.born : Int)) .nil))) t) = Bool.rec (motive := fun _ => V) (.cons (.cons k (.cons x (.cons (.int .i64 (e.born : Int)) .nil))) (leftV seen t)) (leftV seen t) (List.elem e.born seen) := rfl
    rw [e1, List.filter_cons]
    cases hc : List.elem e.born seen with
    | true =>
      have : seen.contains e.born = true := hc
      rw [this]
      exact ih
    | false =>
      have : seen.contains e.born = false := hc
      rw [this]
      exact .cons hk hx ih
theorem newV_eq {g : G} {ρ : Rho} (last : Nat) {es : V} {l : List MapEntry} (h : MapR g ρ es l) : newV last es = l.all fun e => decide (e.born ≥ last) := by
  induction h with
  | nil => rfl
  | cons hk hx ht ih =>
    rename_i k x t e l
    have e1 : newV last (.cons (.cons k (.cons x (.cons (.int .i64 (e.born : Int)) .nil))) t) = band (Nat.ble last e.born) (newV last t) := rfl
    rw [e1, ih, List.all_cons]
    cases hb : Nat.ble last e.born with
    | true =>
      have : decide (e.born ≥ last) = true := by simpa using ble_iff.1 hb
      rw [this]
      cases l.all fun e => decide (e.born ≥ last) <;> rfl
    | false =>
      have : decide (e.born ≥ last) = false := by
        simp only [decide_eq_false_iff_not]
        intro h
        rw [ble_iff.2 h] at hb
        cases hb
      rw [this]
      cases l.all fun e => decide (e.born ≥ last) <;> rfl
theorem isCons_R {g : G} {ρ : Rho} {es : V} {l : List MapEntry} (h : MapR g ρ es l) : V.isCons es = !l.isEmpty := by cases h <;> rfl

theorem next_over {P : Program} {w : World} {l m since last clock : Nat} {se : Array Nat} {es : Array MapEntry} {ty : TypeId} (hI : (getObj l).run P w = .ok (.mapIter (some m) since se last) w) (hM : (getObj m).run P w = .ok (.map es clock) w)
    (hg : (!se.isEmpty && !es.isEmpty && es.all (fun e => decide (e.born ≥ last))) = false) (hl : (es.filter fun e => !se.contains e.born) = #[]) :
    (Instr.next (.pointer (some ⟨l, 0, none⟩)) false ty).run P w = .ok (.tuple #[.bool false]) w := by
  unfold Instr.next
  simp only [Sem.run_bind, hI, hM, Result.andThen_ok, hg, hl, Bool.false_eq_true, if_false]
  simp [Question.forced]
theorem next_one {P : Program} {w : World} {l m since last clock : Nat} {se : Array Nat} {es : Array MapEntry} {e : MapEntry} {ty : TypeId} (hI : (getObj l).run P w = .ok (.mapIter (some m) since se last) w) (hM : (getObj m).run P w = .ok (.map es clock) w)
    (hg : (!se.isEmpty && !es.isEmpty && es.all (fun e => decide (e.born ≥ last))) = false) (hl : (es.filter fun e => !se.contains e.born) = #[e]) (hlt : e.born < since)
    (hset : ∀ o', (setObj l o').run P w = .ok () (World.put w l o')) :
    (Instr.next (.pointer (some ⟨l, 0, none⟩)) false ty).run P w = .ok (.tuple #[.bool true, e.key, e.val]) (World.put w l (.mapIter (some m) since (se.push e.born) clock)) := by
  have h1 : (#[e] : Array MapEntry).filter (fun x => decide (x.born < since)) = #[e] := by simp [hlt]
  have h2 : (#[e] : Array MapEntry).filter (fun x => decide (x.born ≥ since)) = #[] := by simp; omega
  unfold Instr.next
  simp only [Sem.run_bind, hI, hM, Result.andThen_ok, hg, hl, h1, h2, Bool.false_eq_true, if_false]
  simp [Question.forced, hset]

section
variable {P : Program} {gs : Nat → Bool} {g : G} {ρ : Rho} {base nt : Nat} {e : E2} {s s' : St} {a : Act} {w : World} {o : Oper}
variable (hG : GlobR gs g) (hE : ER g ρ nt e a) (hW : WR g ρ base s w)
include hG hE hW

theorem op_delM {x y : Operand} {p q : Opd} {v : V} {c : Call} {t u kt el : TypeId} {d : TypeDesc} {cls : Nat} (ho : o.op = .call c) (hc : c.callee = .builtin .delete) (ha : c.args = #[x, y]) (hat : c.argTypes = #[t, u]) (ht : P.underlying t = some (.map kt el))
    (hkt : P.underlying kt = some d) (hd : KeyD cls d) (hchk : KeyChk P cls kt) (hp : compOpd gs nt x = some p) (hq : compOpd gs nt y = some q) (h : evOp (.delM cls p q) e s = .ok v s') : OpOK P g ρ base s w a o v s' := by
  have hx := opd_VR hG hE hp
  have hy := opd_VR hG hE hq
  obtain ⟨hko, h1⟩ := ite_inv (show RO.ite (keyOK cls (q.val e)) (evDel cls (p.val e) (q.val e) s) (.bad 155) = .ok v s' from h) trivial
  generalize hax : a.eval x = xv at hx
  generalize hay : a.eval y = yv at hy
  generalize hpv : p.val e = pv at hx h1
  have hck : ∀ (b : Bool), (Instr.checkKey b 10000 kt yv).run P w = .ok () w := fun b => hchk g ρ _ _ w b hy hko
  cases hx <;> first
    | exact absurd (show RO.bad 158 = .ok v s' from h1) (by simp)
    | skip
  · have h1 : RO.ok .undef s = .ok v s' := h1
    injection h1 with h2 h3
    subst h2 h3
    exact .pure hW (by simp [execOp, ho, resolve, hc, ha, hax, hay, hat, invoke, builtin, Builtin.delete_, run_und ht, hck]) .undef
  · rename_i f i L hg
    have h1 : (match H4.at f s.h with
      | .map v' es clock => RO.ite (Nat.beq i v') (mapFind cls (q.val e) es (fun _ => .ok .undef ⟨H4.put f (.map v' (mapDrop cls (q.val e) es) clock) s.h, s.nk, s.nx⟩) (.ok .undef ⟨H4.put f (.map v' es clock) s.h, s.nk, s.nx⟩)) (.bad 158)
      | _ => .bad 158) = .ok v s' := h1
    cases hobj : H4.at f s.h with
    | map v' es clock =>
      rw [hobj] at h1
      obtain ⟨_, h2⟩ := ite_inv (show RO.ite (Nat.beq i v') (mapFind cls (q.val e) es (fun _ => .ok .undef ⟨H4.put f (.map v' (mapDrop cls (q.val e) es) clock) s.h, s.nk, s.nx⟩) (.ok .undef ⟨H4.put f (.map v' es clock) s.h, s.nk, s.nx⟩)) (.bad 158) = .ok v s' from h1) trivial
      have h0 := hW.obj hg
      rw [hobj] at h0
      obtain ⟨_, _, _, es', hheap, hm⟩ := h0
      have hget : (getObj L.blk).run P w = .ok (.map es' clock) w := by simp [getObj, Sem.run, hheap]
      have hset : ∀ o', (setObj L.blk o').run P w = .ok () (World.put w L.blk o') := fun o' => by simp [setObj, Sem.run, hheap, World.put]
      rcases mapFind_drop hd hy (r := .ok v s') trivial hm h2 0 with ⟨j, en, y', a1, a2, a3, a4⟩ | ⟨a1, a2⟩
      · injection a3 with h3 h4
        subst h3 h4
        rw [Nat.zero_add] at a1
        have hlt : j < es'.size := by
          have := (List.getElem?_eq_some_iff.1 a2).1
          simpa using this
        have hstep := hW.mapSet (clock' := clock) hg hobj (ents' := es'.eraseIdxIfInBounds j) (by rw [Array.eraseIdxIfInBounds, dif_pos hlt, Array.toList_eraseIdx]; exact a4)
        refine ⟨.tuple #[], _, g, .inl ?_, hstep, .undef⟩
        simp [execOp, ho, resolve, hc, ha, hax, hay, hat, invoke, builtin, Builtin.delete_, run_und ht, hget, hck, Instr.findKey, run_und hkt, a1, hset]
      · injection a2 with h3 h4
        subst h3 h4
        have hstep := hW.mapSet (clock' := clock) hg hobj (ents' := es') hm
        refine ⟨.tuple #[], _, g, .inl ?_, hstep, .undef⟩
        simp [execOp, ho, resolve, hc, ha, hax, hay, hat, invoke, builtin, Builtin.delete_, run_und ht, hget, hck, Instr.findKey, run_und hkt, a1, hset]
    | _ => rw [hobj] at h1; exact absurd (show RO.bad 158 = .ok v s' from h1) (by simp)

theorem op_rngM {t kt el : TypeId} {x : Operand} {p : Opd} {v : V} (ho : o.op = .range t x) (ht : P.underlying t = some (.map kt el)) (hp : compOpd gs nt x = some p) (h : evOp (.rngM p) e s = .ok v s') : OpOK P g ρ base s w a o v s' := by
  have hx := opd_VR hG hE hp
  have h1 : evRngM (p.val e) s = .ok v s' := h
  generalize hax : a.eval x = xv at hx
  generalize hpv : p.val e = pv at hx h1
  unfold evRngM at h1
  cases hnx : s.nx with
  | zero => rw [hnx] at h1; exact absurd (show RO.bad 100 = .ok v s' from h1) (by simp)
  | succ m =>
    rw [hnx] at h1
    obtain ⟨hnone, h2⟩ := brec_inv h1 trivial
    have hnone : s.h.at s.nk = .none := by
      cases hf : H4.at s.nk s.h with
      | none => rfl
      | _ => rw [hf] at hnone; cases hnone
    have hle := G.le_add (L := ⟨w.heap.size, 0, 0⟩) (hW.fresh s.nk s.nx (Nat.le_refl _))
    cases hx <;> first
      | exact absurd (show RO.bad 159 = .ok v s' from h2) (by simp)
      | skip
    · have h2 : RO.ok (.ptr s.nk (Nat.succ m) 0) ⟨H4.put s.nk (.miter (Nat.succ m) .nilm 0 [] 0) s.h, K.succ s.nk, Nat.succ (Nat.succ m)⟩ = .ok v s' := h2
      injection h2 with h3 h4
      subst h3 h4
      have hst := hW.alloc hnone (.mapIter none 0 #[] 0) (.miter s.nx .nilm 0 [] 0) 0 (K.succ s.nk)
        ⟨rfl, hW.base, rfl, none, #[], by simp only [World.alloc, Array.getElem?_push_size], rfl, .nilm⟩ (fun he _ => by cases he)
      rw [hnx] at hst
      refine ⟨.pointer (some ⟨w.heap.size, 0, none⟩), _, _, .inl ?_, hst, .ptr (L := ⟨w.heap.size, 0, 0⟩) (G.add_same _ _ _ _) (Nat.le_refl 0)⟩
      simp [execOp, ho, Instr.range, run_und ht, hax]
    · rename_i f i L hg
      have h2 : (match H4.at f s.h with
        | .map v' es clock => RO.ite (Nat.beq i v') (.ok (.ptr s.nk (Nat.succ m) 0) ⟨H4.put s.nk (.miter (Nat.succ m) (.map f i) clock [] clock) s.h, K.succ s.nk, Nat.succ (Nat.succ m)⟩) (.bad 159)
        | _ => .bad 159) = .ok v s' := h2
      cases hobj : H4.at f s.h with
      | map v' es clock =>
        rw [hobj] at h2
        obtain ⟨_, h2⟩ := ite_inv (show RO.ite (Nat.beq i v') (.ok (.ptr s.nk (Nat.succ m) 0) ⟨H4.put s.nk (.miter (Nat.succ m) (.map f i) clock [] clock) s.h, K.succ s.nk, Nat.succ (Nat.succ m)⟩) (.bad 159) = .ok v s' from h2) trivial
        injection h2 with h3 h4
        subst h3 h4
        have h0 := hW.obj hg
        rw [hobj] at h0
        obtain ⟨_, _, _, es', hheap, hm⟩ := h0
        have hget : (getObj L.blk).run P w = .ok (.map es' clock) w := by simp [getObj, Sem.run, hheap]
        have hst := hW.alloc hnone (.mapIter (some L.blk) clock #[] clock) (.miter s.nx (.map f i) clock [] clock) 0 (K.succ s.nk)
          ⟨rfl, hW.base, rfl, some L.blk, #[], by simp only [World.alloc, Array.getElem?_push_size], rfl, .map (hle _ _ _ hg)⟩ (fun he _ => by cases he)
        rw [hnx] at hst
        refine ⟨.pointer (some ⟨w.heap.size, 0, none⟩), _, _, .inl ?_, hst, .ptr (L := ⟨w.heap.size, 0, 0⟩) (G.add_same _ _ _ _) (Nat.le_refl 0)⟩
        simp [execOp, ho, Instr.range, run_und ht, hax, hget]
      | _ => rw [hobj] at h2; exact absurd (show RO.bad 159 = .ok v s' from h2) (by simp)

theorem op_nxtM {x : Operand} {p : Opd} {v : V} (ho : o.op = .next x false) (hp : compOpd gs nt x = some p) (h : evOp (.nxtM p) e s = .ok v s') : OpOK P g ρ base s w a o v s' := by
  have hx := opd_VR hG hE hp
  have h1 : evNxtM (p.val e) s = .ok v s' := h
  generalize hax : a.eval x = xv at hx
  generalize hpv : p.val e = pv at hx h1
  cases hx <;> first
    | exact absurd (show RO.bad 163 = .ok v s' from h1) (by simp)
    | skip
  rename_i f i off L hg hoff
  have h1 : (match H4.at f s.h with
    | .miter v' src since seen last => RO.ite (band (Nat.beq off 0) (Nat.beq i v')) (match src with
      | .nilm => overR s
      | .map f2 i2 => match H4.at f2 s.h with
        | .map i' es clock => RO.ite (Nat.beq i2 i') (nxtGo f v' src since seen last es clock s) (.bad 163)
        | _ => .bad 163
      | _ => .bad 163) (.bad 163)
    | _ => .bad 163) = .ok v s' := h1
  cases hobj : H4.at f s.h with
  | miter v' src since seen last =>
    rw [hobj] at h1
    obtain ⟨hb, h2⟩ := ite_inv h1 trivial
    obtain ⟨hb1, hb2⟩ := band_iff.1 hb
    have hoff0 := beq_iff.1 hb1
    have hiv := beq_iff.1 hb2
    subst hoff0 hiv
    have h0 := hW.obj hg
    rw [hobj] at h0
    obtain ⟨_, _, hsh, m, se, hheap, hse, hsrc⟩ := h0
    have hgetI : (getObj L.blk).run P w = .ok (.mapIter m since se last) w := by simp [getObj, Sem.run, hheap]
    cases hsrc <;> first
      | exact absurd (show RO.bad 163 = .ok v s' from h2) (by simp)
      | skip
    · have h2 : RO.ok (.tup (.cons (.bool false) .nil)) s = .ok v s' := h2
      injection h2 with h3 h4
      subst h3 h4
      refine .pure hW (x := .tuple #[.bool false]) ?_ (VR.tup (xs := [.bool false]) (.cons (.bool false) .nil))
      simp [execOp, ho, Instr.next, hax, hsh, hgetI]
    · rename_i f2 i2 L2 hg2
      have h2 : (match H4.at f2 s.h with
        | .map i' es clock => RO.ite (Nat.beq i2 i') (nxtGo f i (.map f2 i2) since seen last es clock s) (.bad 163)
        | _ => .bad 163) = .ok v s' := h2
      cases hobj2 : H4.at f2 s.h with
      | map i' es clock =>
        rw [hobj2] at h2
        obtain ⟨_, h3⟩ := ite_inv (show RO.ite (Nat.beq i2 i') (nxtGo f i (.map f2 i2) since seen last es clock s) (.bad 163) = .ok v s' from h2) trivial
        have h0 := hW.obj hg2
        rw [hobj2] at h0
        obtain ⟨_, _, _, es', hheap2, hm⟩ := h0
        have hgetM : (getObj L2.blk).run P w = .ok (.map es' clock) w := by simp [getObj, Sem.run, hheap2]
        unfold nxtGo at h3
        obtain ⟨hnew, h4⟩ := brecF_inv h3 trivial
        have hguard : (!se.isEmpty && !es'.isEmpty && es'.all (fun e => decide (e.born ≥ last))) = false := by
          rw [newV_eq last hm, isCons_R hm, bnot_eq] at hnew
          have e1 : se.isEmpty = List.isEmpty seen := by rw [← hse]; simp
          have e2 : es'.isEmpty = List.isEmpty es'.toList := by simp
          have e3 : es'.all (fun e => decide (e.born ≥ last)) = es'.toList.all (fun e => decide (e.born ≥ last)) := by simp
          rw [e1, e2, e3, Bool.and_assoc]
          cases h5 : List.isEmpty seen <;> cases h6 : List.isEmpty es'.toList <;> cases h7 : (es'.toList.all fun e => decide (e.born ≥ last)) <;> rw [h5, h6, h7] at hnew <;> first
            | rfl
            | exact absurd hnew (by decide)
        have hleft := leftV_R seen hm
        have hfil : (es'.filter fun e => !se.contains e.born).toList = es'.toList.filter fun e => !seen.contains e.born := by
          rw [Array.toList_filter, ← hse]
          simp
        generalize hlv : leftV seen es = lv at hleft h4
        generalize hll : (es'.toList.filter fun e => !seen.contains e.born) = ll at hleft hfil
        have hleftA : (es'.filter fun e => !se.contains e.born) = ll.toArray := by
          rw [← hfil]
        cases hleft with
        | nil =>
          have h4 : RO.ok (.tup (.cons (.bool false) .nil)) s = .ok v s' := h4
          injection h4 with h5 h6
          subst h5 h6
          refine .pure hW (x := .tuple #[.bool false]) ?_ (VR.tup (xs := [.bool false]) (.cons (.bool false) .nil))
          have hrun := fun ty => next_over (P := P) (ty := ty) hgetI hgetM hguard hleftA
          simp [execOp, ho, hax, hsh, hrun]
        | cons hk hx ht =>
          rename_i k0 x0 t0 e0 l0
          cases ht with
          | cons hk' hx' ht' => exact absurd (show RO.bad 161 = .ok v s' from h4) (by simp)
          | nil =>
            obtain ⟨hlt, h5⟩ := ite_inv (show RO.ite (Nat.blt (bornOf (.cons k0 (.cons x0 (.cons (.int .i64 (e0.born : Int)) .nil)))) since) (.ok (.tup (.cons (.bool true) (.cons k0 (.cons x0 .nil)))) ⟨H4.put f (.miter i (.map f2 i2) since (seen ++ [e0.born]) clock) s.h, s.nk, s.nx⟩) (.bad 160) = .ok v s' from h4) trivial
            injection h5 with h6 h7
            subst h6 h7
            have hlt : e0.born < since := Nat.le_of_ble_eq_true hlt
            have hstep := hW.setMiter hg hobj (se := se.push e0.born) (VR.map hg2) clock
            rw [Array.toList_push, hse] at hstep
            refine ⟨.tuple #[.bool true, e0.key, e0.val], _, g, .inl ?_, hstep, VR.tup (xs := [.bool true, e0.key, e0.val]) (.cons (.bool true) (.cons hk (.cons hx .nil)))⟩
            have hset : ∀ o', (setObj L.blk o').run P w = .ok () (World.put w L.blk o') := fun o' => by simp [setObj, Sem.run, hheap, World.put]
            have hrun := fun ty => next_one (P := P) (ty := ty) hgetI hgetM hguard hleftA hlt hset
            simp [execOp, ho, hax, hsh, hrun]
      | _ => rw [hobj2] at h2; exact absurd (show RO.bad 163 = .ok v s' from h2) (by simp)
  | _ => rw [hobj] at h1; exact absurd (show RO.bad 163 = .ok v s' from h1) (by simp)
end
end Go.Ev

namespace Go.Ev
set_option linter.unusedVariables false

/-! ## Regions, code, calls -/
section
variable {P : Program} {gs : Nat → Bool} {ρ : Rho} {base : Nat}

/-- a function with a body, that the model knows by no other way -/
def GoodFn (P : Program) (f : Nat) : Prop := ∃ fn, P.funcs[f]? = some fn ∧ fn.body ≠ none ∧ fn.name ≠ "runtime.NumGoroutine"

/-- where a call leads: to a function, or to a round of a range over a function -/
def CallTo (P : Program) (g : G) (ρ : Rho) (w : World) (f : Nat) (args : V) (res : Result Next) : Prop :=
  (∃ xs : List Value, VL g ρ args xs ∧ (GoodFn P f → res = .ok (.enter f xs.toArray) w)) ∨
  (f = 4095 ∧ ∃ (k : K) (i : Nat) (rest : V) (L : Loc) (xs : List Value), args = .agg (.cons (yldV k i) rest) ∧ g k i = some L ∧ VL g ρ rest xs ∧ res = (Instr.yield L.blk xs.toArray).run P w)

/-- every operation that is compiled does what its evaluation says -/
def OpSound (P : Program) (gs : Nat → Bool) (ρ : Rho) (base : Nat) : Prop :=
  ∀ (nt : Nat) (o : Oper) (iop : IOp), compOp P gs nt o.op = some iop → ∀ (g : G) (e : E2) (s : St) (a : Act) (w : World), GlobR gs g → ER g ρ nt e a → WR g ρ base s w →
    (∀ v s', evOp iop e s = .ok v s' → OpOK P g ρ base s w a o v s') ∧
    (∀ f args s', evOp iop e s = .call f args s' → s' = s ∧ CallTo P g ρ w f args ((execOp a.eval o).run P w))

/-- calls that the evaluator answers are so -/
def CallSound (P : Program) (gs : Nat → Bool) (ρ : Rho) (base : Nat) (call : Nat → V → St → RC) : Prop :=
  ∀ (f : Nat) (args : V) (s : St) (v : V) (s' : St), call f args s = .ok v s' →
    ((∀ c, args ≠ .agg c) → GoodFn P f ∧ ∀ (g : G) (w : World) (xs : List Value), GlobR gs g → WR g ρ base s w → VL g ρ args xs →
      Calls P f xs.toArray w fun en w' => ∃ x g', en = .returned x ∧ Step g ρ base s w g' s' w' ∧ VR g' ρ v x) ∧
    (f = 4095 → ∀ (k : K) (i : Nat) (rest : V), args = .agg (.cons (yldV k i) rest) → ∀ (g : G) (w : World) (L : Loc) (xs : List Value), GlobR gs g → WR g ρ base s w → g k i = some L → VL g ρ rest xs →
      ∃ fn tmps A B, (Instr.yield L.blk xs.toArray).run P w = .ok (.round L.blk fn tmps A B) w ∧ ∀ n, RoundIn Fence.wide n P L.blk fn tmps A B w fun en w' => ∃ x g', en = .returned x ∧ Step g ρ base s w g' s' w' ∧ VR g' ρ v x)

theorem gd_wanted {g : G} {nt : Nat} {e : E2} {a : Act} (hE : ER g ρ nt e a) {ops : Array Oper} {o : Oper} {d : Gd} (hd : compGd ops nt o.guard = some d) :
    Region.wanted o (yielded ops a.tmps) = Gd.ok d e := by
  unfold compGd at hd
  unfold Region.wanted
  cases hg : o.guard with
  | none => rw [hg] at hd; injection hd with hd; subst hd; rfl
  | some jw =>
    obtain ⟨j, want⟩ := jw
    rw [hg] at hd
    dsimp only at hd ⊢
    cases hj : (ops[j]?).bind (·.dst) with
    | none => rw [hj] at hd; cases hd
    | some t =>
      rw [hj] at hd
      dsimp only at hd
      split at hd
      · rename_i ht
        have ht : @LT.lt Nat _ t nt := ht
        injection hd with hd
        subst hd
        have hv := hE.2.2 t ht
        have hsz : t < a.tmps.size := by rw [hE.1]; exact ht
        have hget : a.tmps[t]? = some (a.tmps.getD t undef) := by
          rw [Array.getD_eq_getD_getElem?, Array.getElem?_eq_getElem hsz]; rfl
        unfold yielded
        rw [hj, Option.bind_some, hget]
        rw [Gd.ok_yes]
        generalize a.tmps.getD t undef = x at hv
        generalize E2.at (D.dig (t / 16)) (D.dig (t % 16)) e = y at hv
        cases hv <;> first
          | rfl
          | (rename_i b; cases b <;> cases want <;> rfl)
      · cases hd

theorem evOps_cons (call : Nat → V → St → RC) (op : IOp) (f : E2 → St → RO) (d : Dst) (gd : Gd) (l : OpL) (e : E2) (s : St) :
    evOps call (.cons op f d gd l) e s = Bool.rec (motive := fun _ => R) (evOps call l (d.put .undef e) s)
      (RO.rec (motive := fun _ => R) (fun v s' => evOps call l (d.put v e) s')
        (fun f as s' => RC.rec (motive := fun _ => R) (fun v s'' => evOps call l (d.put v e) s'') (fun w => .bad w) (call f as s')) (fun w => .bad w) (f e s)) (Gd.ok gd e) := rfl

theorem mvOf_yes {op : IOp} {x : Opd} (h : mvOf op = .yes x) : op = .mv x := by
  cases op <;> first
    | (injection h with h; subst h; rfl)
    | exact absurd h (by simp [mvOf])
theorem evOps_move (call : Nat → V → St → RC) (f : E2 → E2) (l : OpL) (e : E2) (s : St) : evOps call (OpL.move f l) e s = evOps call l (f e) s := by cases l <;> rfl
theorem evOps_run (call : Nat → V → St → RC) (op : IOp) (d : Dst) (gd : Gd) (l : OpL) (e : E2) (s : St) :
    evOps call (OpL.run op d gd l) e s = Bool.rec (motive := fun _ => R) (evOps call l (d.put .undef e) s)
      (RO.rec (motive := fun _ => R) (fun v s' => evOps call l (d.put v e) s')
        (fun f as s' => RC.rec (motive := fun _ => R) (fun v s'' => evOps call l (d.put v e) s'') (fun w => .bad w) (call f as s')) (fun w => .bad w) (evOp op e s)) (Gd.ok gd e) := by
  unfold OpL.run
  rw [runOf_eq]
  rfl
theorem evOps_consOp (call : Nat → V → St → RC) (op : IOp) (d : Dst) (gd : Gd) (l : OpL) (e : E2) (s : St) :
    evOps call (consOp op d gd l) e s = Bool.rec (motive := fun _ => R) (evOps call l (d.put .undef e) s)
      (RO.rec (motive := fun _ => R) (fun v s' => evOps call l (d.put v e) s')
        (fun f as s' => RC.rec (motive := fun _ => R) (fun v s'' => evOps call l (d.put v e) s'') (fun w => .bad w) (call f as s')) (fun w => .bad w) (evOp op e s)) (Gd.ok gd e) := by
  cases gd with
  | is f w => exact evOps_run ..
  | no => cases d with
    | no => exact evOps_run ..
    | lay f =>
      cases hm : mvOf op with
      | no =>
        unfold consOp
        rw [hm]
        exact evOps_run ..
      | yes x =>
        have := mvOf_yes hm
        subst this
        show evOps call (FnV.rec (motive := fun _ => OpL) (fun h => OpL.move (fun e => f (h e) e) l) (Opd.fn x)) e s = _
        cases x <;> exact evOps_move ..

/-- the fence that lets in everything; the frame's make: of a round or not -/
abbrev FR (r : Option Nat) : Fence := { Fence.wide with round := r }
theorem calls_in {P : Program} {f : FuncId} {args : Array Value} {w : World} {R : Ending → World → Prop} {r : Option Nat} {n : Nat} (h : Calls P f args w R) : CallsIn (FR r) n P f args w R := callsIn_wide.2 h
theorem FR.fn (r : Option Nat) (f : FuncId) : (FR r).fn f := trivial
theorem FR.depth {r : Option Nat} {n : Nat} (h : (FR r).depth.isSome = true) : 1 ≤ n := by cases h
theorem compOp_noDefer {P : Program} {gs : Nat → Bool} {nt : Nat} {op : Op} {iop : IOp} (h : compOp P gs nt op = some iop) : ∀ c, op ≠ .defer c := by
  intro c hc
  subst hc
  simp [compOp, compOp0] at h

theorem put_defers (a : Act) (d : Option Tmp) (v : Value) : (a.put d v).defers = a.defers := by cases d <;> rfl

theorem call_upon {call : Nat → V → St → RC} (hC : CallSound P gs ρ base call) {f : Nat} {args v : V} {s s' : St} (hcl : call f args s = .ok v s') {g : G} {w : World} {a : Act} {o : Oper} {res : Result Next}
    (hto : CallTo P g ρ w f args res) (hG : GlobR gs g) (hW : WR g ρ base s w) {next : Act → World → Prop} {Q : Exit → Act → World → Prop} {r : Option Nat} {n : Nat}
    (hnext : ∀ x g1 w1, Step g ρ base s w g1 s' w1 → VR g1 ρ v x → next (a.put o.dst x) w1) : o.uponIn (FR r) n P a next Q res := by
  rcases hto with ⟨xs, hxs, hrun⟩ | ⟨rfl, k, i, rest, L, xs, rfl, hg, hxs, rfl⟩
  · have hne : ∀ c, args ≠ .agg c := by rintro c rfl; cases hxs
    obtain ⟨hgood, hcalls⟩ := (hC f args s v s' hcl).1 hne
    rw [hrun hgood]
    refine ⟨FR.depth, CallsIn.mono (calls_in (hcalls g w xs hG hW hxs)) ?_⟩
    rintro en w1 ⟨x, g1, rfl, hstep, hv⟩
    exact hnext x g1 w1 hstep hv
  · obtain ⟨fn, tmps, A, B, hy, hR⟩ := (hC _ _ s v s' hcl).2 rfl k i rest rfl g w L xs hG hW hg hxs
    rw [hy]
    refine ⟨FR.depth, RoundIn.mono (F := FR r) (hR (n - 1)) ?_⟩
    rintro en w1 ⟨x, g1, rfl, hstep, hv⟩
    exact hnext x g1 w1 hstep hv

theorem evOps_sound (hO : OpSound P gs ρ base) {call : Nat → V → St → RC} (hC : CallSound P gs ρ base call) {ops : Array Oper} {nt : Nat} {Q : Exit → Act → World → Prop} {r : Option Nat} {n : Nat} :
    ∀ (os : List Oper) (is : List Nat), is.map (fun i => ops[i]?) = os.map some → ∀ {e e' : E2} {s s' : St} {g : G} {a : Act} {w : World}, evOps call (compOps P gs ops nt os) e s = .norm e' s' → GlobR gs g → ER g ρ nt e a → WR g ρ base s w →
      (∀ a' w' g', Step g ρ base s w g' s' w' → ER g' ρ nt e' a' → a'.defers = a.defers → Q .normal a' w') → wpOpsIn (FR r) n P ops Q is a w
  | [], is, his, e, e', s, s', g, a, w, h, hG, hE, hW, hQ => by
    have : is = [] := by cases is <;> simp at his <;> rfl
    subst this
    have h : R.norm e s = .norm e' s' := h
    injection h with h1 h2
    subst h1 h2
    exact hQ a w g (.refl hW) hE rfl
  | o :: os, is, his, e, e', s, s', g, a, w, h, hG, hE, hW, hQ => by
    cases is with
    | nil => simp at his
    | cons i is =>
      simp only [List.map_cons, List.cons.injEq] at his
      obtain ⟨hi, his⟩ := his
      simp only [compOps] at h
      cases hop : compOp P gs nt o.op with
      | none => simp only [hop] at h; exact absurd (show R.bad _ = .norm e' s' from h) (by simp)
      | some iop =>
        cases hds : compDst nt o.dst with
        | none => simp only [hop, hds] at h; exact absurd (show R.bad _ = .norm e' s' from h) (by simp)
        | some d =>
          cases hgd : compGd ops nt o.guard with
          | none => simp only [hop, hds, hgd] at h; exact absurd (show R.bad _ = .norm e' s' from h) (by simp)
          | some gd =>
            simp only [hop, hds, hgd] at h
            rw [evOps_consOp] at h
            simp only [wpOpsIn, hi, gd_wanted hE hgd]
            cases hb : Gd.ok gd e with
            | false =>
              rw [hb] at h
              have h : evOps call (compOps P gs ops nt os) (d.put .undef e) s = .norm e' s' := h
              simp only [Bool.false_eq_true, if_false]
              refine ⟨fun _ _ => trivial, ?_⟩
              exact evOps_sound hO hC (r := r) (n := n) os is his h hG (hE.put .undef hds) hW fun a' w' g' h1 h2 h3 => hQ a' w' g' h1 h2 (h3.trans (put_defers _ _ _))
            | true =>
              rw [hb] at h
              simp only [if_true]
              refine ⟨fun _ _ => trivial, ?_⟩
              rw [Oper.semAt_eq _ _ _ (compOp_noDefer hop)]
              obtain ⟨hok, hcall⟩ := hO nt o iop hop g e s a w hG hE hW
              cases hev : evOp iop e s with
              | bad x => rw [hev] at h; exact absurd (show R.bad x = .norm e' s' from h) (by simp)
              | ok v s1 =>
                rw [hev] at h
                have h : evOps call (compOps P gs ops nt os) (d.put v e) s1 = .norm e' s' := h
                obtain ⟨x, w1, g1, hrun, hstep, hv⟩ := hok v s1 hev
                have hnext := evOps_sound hO hC (Q := Q) (r := r) (n := n) os is his h (hG.mono hstep.ext.le) ((hE.mono hstep.ext.le).put hv hds) hstep.wr fun a' w' g' h1 h2 h3 => hQ a' w' g' (hstep.trans h1) h2 (h3.trans (put_defers _ _ _))
                rcases hrun with hrun | ⟨hx, hrun⟩
                · rw [hrun]; exact hnext
                · rw [hrun]; subst hx; exact hnext
              | call f args s1 =>
                rw [hev] at h
                obtain ⟨hs1, hto⟩ := hcall f args s1 hev
                subst hs1
                have h : RC.rec (motive := fun _ => R) (fun v s'' => evOps call (compOps P gs ops nt os) (d.put v e) s'') (fun w => .bad w) (call f args s1) = .norm e' s' := h
                cases hcl : call f args s1 with
                | bad x => rw [hcl] at h; exact absurd (show R.bad x = .norm e' s' from h) (by simp)
                | ok v s2 =>
                  rw [hcl] at h
                  have h : evOps call (compOps P gs ops nt os) (d.put v e) s2 = .norm e' s' := h
                  refine call_upon hC hcl hto hG hW fun x g1 w1 hstep hv => ?_
                  exact evOps_sound hO hC (Q := Q) (r := r) (n := n) os is his h (hG.mono hstep.ext.le) ((hE.mono hstep.ext.le).put hv hds) hstep.wr fun a' w' g' h1 h2 h3 => hQ a' w' g' (hstep.trans h1) h2 (h3.trans (put_defers _ _ _))

end
end Go.Ev

namespace Go.Ev
set_option linter.unusedVariables false

/-! ## A range over a function -/
theorem loop_inv {v : Nat} {x : Obj} {env : E2} {ps : List Nat} {A B : Code} {nt : Nat} {st : LoopState} {pend : Option Code} (h : Obj.loop? v x = .yes env ps A B nt st pend) : x = .loop v env ps A B nt st pend := by
  unfold Obj.loop? at h
  cases x with
  | loop v' env' ps' A' B' nt' st' pend' =>
    have h : (bif Nat.beq v v' then OLp.yes env' ps' A' B' nt' st' pend' else .no) = .yes env ps A B nt st pend := h
    cases hb : Nat.beq v v' with
    | false => rw [hb] at h; cases h
    | true =>
      rw [hb] at h
      have h : OLp.yes env' ps' A' B' nt' st' pend' = .yes env ps A B nt st pend := h
      injection h with h1 h2 h3 h4 h5 h6 h7
      subst h1 h2 h3 h4 h5 h6 h7
      rw [beq_iff.1 hb]
  | _ => cases h

/-- the record turns: how it stands, what is pending -/
theorem WR.setLoop {g : G} {ρ : Rho} {base : Nat} {s : St} {w : World} (hW : WR g ρ base s w) {f : K} {v : Nat} {L : Loc} (hg : g f v = some L) {env : E2} {ps : List Nat} {A B : Code} {nt : Nat} {st : LoopState} {pend : Option Code}
    (hobj : s.h.at f = .loop v env ps A B nt st pend) {r : Go.Loop} (hr : w.heap[L.blk]? = some (.loop r)) (st' : LoopState) (pend' : Option Code) :
    Step g ρ base s w g ⟨H4.put f (.loop v env ps A B nt st' pend') s.h, s.nk, s.nx⟩ (World.put w L.blk (.loop { r with state := st', pending := pend' })) := by
  have hlt := hW.lt hg
  have h0 := hW.obj hg
  rw [hobj] at h0
  refine ⟨.refl g w, ⟨by simp [World.put], ?_, rfl, rfl, rfl⟩, ⟨hW.fresh, hW.inj, fun h => by have := hW.lt h; simpa [World.put] using this, ?_, by simpa [World.put] using hW.base, ?_, hW.ro_put (by rw [hobj]; intro _ _ _ _ _ h; cases h)⟩, Nat.le_refl _, fun _ _ _ h _ => h⟩
  · intro b hb hor
    rw [heap_put]
    by_cases he : L.blk = b
    · exfalso
      rcases hor with hor | hor
      · have := h0.2.1; omega
      · exact hor f v L hg he
    · rw [if_neg he]
  · intro f' v1 L' hg'
    have h1 := hW.obj hg'
    show ObjR g ρ base v1 L' _ (H4.at f' (H4.put f _ s.h))
    rw [H4.at_put]
    by_cases hf : f' = f
    · subst hf
      rw [if_pos rfl]
      rw [hobj] at h1
      obtain ⟨e1, e2, e3, r', e4, ⟨e5, e6, e7, e8, e9⟩, e10, e11, e12⟩ := h1
      have hv : v1 = v := e1
      subst hv
      rw [hg] at hg'
      injection hg' with hg'
      subst hg'
      rw [hr] at e4
      injection e4 with e4
      injection e4 with e4
      subst e4
      exact ⟨e1, e2, e3, { r with state := st', pending := pend' }, by rw [heap_put, if_pos rfl, if_pos hlt], ⟨e5, e6, e7, rfl, rfl⟩, e10, e11, e12⟩
    · rw [if_neg hf]
      refine ObjR.mono (fun _ _ _ h => h) ?_ h1
      rw [heap_put, if_neg]
      intro hb
      exact hf (hW.inj hg hg' hb).1.symm
  · intro f' elem' sz' ro' a' b' vs' v' n' ch'' hf hv
    have hf : H4.at f' (H4.put f _ s.h) = _ := hf
    rw [H4.at_put] at hf
    by_cases he : f' = f
    · rw [if_pos he] at hf; cases hf
    · rw [if_neg he] at hf
      exact hW.ids hf hv

/-- a block that is none of the families' -/
theorem WR.push {g : G} {ρ : Rho} {base : Nat} {s : St} {w : World} (hW : WR g ρ base s w) (o : Go.Obj) : Step g ρ base s w g s (w.alloc o) := by
  have hget : ∀ b, b < w.heap.size → (w.alloc o).heap[b]? = w.heap[b]? := by
    intro b hb
    show (w.heap.push o)[b]? = _
    rw [Array.getElem?_push, if_neg (by omega)]
  have hsz : (w.alloc o).heap.size = w.heap.size + 1 := by show (w.heap.push o).size = _; simp
  refine ⟨.refl g w, ⟨by omega, fun b hb _ => hget b hb, rfl, rfl, rfl⟩, ⟨hW.fresh, hW.inj, fun h => by have := hW.lt h; omega, fun h => ?_, by have := hW.base; omega, hW.ids, hW.ro⟩, Nat.le_refl _, fun _ _ _ h _ => h⟩
  exact ObjR.mono (fun _ _ _ h => h) (hget _ (hW.lt h)) (hW.obj h)

/-- a block that is none of the families' turns -/
theorem Step.turn {g g' : G} {ρ : Rho} {base : Nat} {s s' : St} {w w' : World} (h : Step g ρ base s w g' s' w') {b : Nat} (hb : w.heap.size ≤ b) (hno : ∀ f v L, g' f v = some L → L.blk ≠ b) (o : Go.Obj) :
    Step g ρ base s w g' s' (World.put w' b o) := by
  have hget : ∀ k, k ≠ b → (World.put w' b o).heap[k]? = w'.heap[k]? := by
    intro k hk
    rw [heap_put, if_neg (Ne.symm hk)]
  have hsz : (World.put w' b o).heap.size = w'.heap.size := by simp [World.put]
  refine ⟨h.ext, ⟨by rw [hsz]; exact h.keep.size, fun k hk hor => by rw [hget k (by omega)]; exact h.keep.blk k hk hor, h.keep.os, h.keep.output, h.keep.tape⟩,
    ⟨h.wr.fresh, h.wr.inj, fun hg => by rw [hsz]; exact h.wr.lt hg, fun hg => ?_, by rw [hsz]; exact h.wr.base, h.wr.ids, h.wr.ro⟩, h.nx, h.old⟩
  exact ObjR.mono (fun _ _ _ h => h) (hget _ (hno _ _ _ hg)) (h.wr.obj hg)

/-- a mark among the deferred calls -/
def mark (r : Nat) : Deferred := { target := .collected r, args := #[] }
/-- the marks' blocks: new, none of the families', empty -/
def MarksOK (w w' : World) (g' : G) (rs : List Nat) : Prop :=
  rs.Nodup ∧ ∀ r ∈ rs, w.heap.size ≤ r ∧ w'.heap[r]? = some (.deferred (some [])) ∧ ∀ f v L, g' f v = some L → L.blk ≠ r
theorem MarksOK.nil (w w' : World) (g' : G) : MarksOK w w' g' [] := ⟨List.nodup_nil, fun _ h => by cases h⟩
theorem MarksOK.trans {g g1 g2 : G} {ρ : Rho} {base : Nat} {s s1 s2 : St} {w w1 w2 : World} (h1 : Step g ρ base s w g1 s1 w1) (h2 : Step g1 ρ base s1 w1 g2 s2 w2) {rs rs' : List Nat} (hm : MarksOK w w1 g1 rs) (hm' : MarksOK w1 w2 g2 rs') :
    MarksOK w w2 g2 (rs' ++ rs) := by
  have hlt : ∀ r ∈ rs, r < w1.heap.size := fun r hr => (Array.getElem?_eq_some_iff.1 (hm.2 r hr).2.1).1
  refine ⟨List.nodup_append.2 ⟨hm'.1, hm.1, fun a ha b hb => ?_⟩, fun r hr => ?_⟩
  · have := (hm'.2 a ha).1
    have := hlt b hb
    omega
  · rcases List.mem_append.1 hr with hr | hr
    · exact ⟨Nat.le_trans h1.keep.size (hm'.2 r hr).1, (hm'.2 r hr).2⟩
    · obtain ⟨e1, e2, e3⟩ := hm.2 r hr
      refine ⟨e1, ?_, fun f v L hg he => ?_⟩
      · rw [h2.keep.blk r (hlt r hr) (.inr e3)]; exact e2
      · obtain ⟨f0, v0, L0, hg0, hb0⟩ := h2.ext.new f v L hg (he ▸ hlt r hr)
        exact e3 f0 v0 L0 hg0 (hb0.trans he)

/-- the way out: the marks are taken, one by one -/
theorem leaves_marks {P : Program} {n : Nat} {fn : Func} {tmps : Array Value} {g g' : G} {ρ : Rho} {base : Nat} {s s' : St} {w : World} {R : Ending → World → Prop}
    (hres : ∀ w', Step g ρ base s w g' s' w' → ∃ v, (Go.results fn tmps).run P w' = .ok v w' ∧ R (.returned v) w') :
    ∀ (rs : List Nat) {w1 : World}, Step g ρ base s w g' s' w1 → MarksOK w w1 g' rs → LeavesInM (FR none) n P fn tmps R (rs.map mark) .returning w1
  | [], w1, hS, hm => hres w1 hS
  | r :: rs, w1, hS, hm => by
    obtain ⟨e1, e2, e3⟩ := hm.2 r (List.mem_cons_self ..)
    refine ⟨by simp, .inl ⟨r, World.put w1 r (.deferred none), rfl, ?_, leaves_marks hres rs (hS.turn e1 e3 _) ⟨(List.nodup_cons.1 hm.1).2, fun r' hr' => ?_⟩⟩⟩
    · simp [Instr.takeDeferred, getObj, setObj, Sem.run, e2, World.put]
    · obtain ⟨d1, d2, d3⟩ := hm.2 r' (List.mem_cons_of_mem _ hr')
      have hne : r ≠ r' := fun he => (List.nodup_cons.1 hm.1).1 (he ▸ hr')
      exact ⟨d1, by rw [heap_put, if_neg hne]; exact d2, d3⟩

section
variable {P : Program} {gs : Nat → Bool} {g : G} {ρ : Rho} {base : Nat} {s : St} {w : World}
theorem run_getLoop {l : Nat} {r : Go.Loop} (h : w.heap[l]? = some (.loop r)) : (Instr.getLoop l).run P w = .ok r w := by
  simp [Instr.getLoop, getObj, Sem.run, h]
theorem run_setObj {l : Nat} {r : Go.Loop} {o' : Go.Obj} (h : w.heap[l]? = some (.loop r)) : (setObj l o').run P w = .ok () (World.put w l o') := by
  simp [setObj, Sem.run, h, World.put]
theorem run_beginRound {l : Nat} {r : Go.Loop} (h : w.heap[l]? = some (.loop r)) (hs : r.state = .ready) : (Instr.beginRound l).run P w = .ok () (World.put w l (.loop { r with state := .busy, pending := r.pending })) := by
  unfold Instr.beginRound
  rw [Sem.run_bind, run_getLoop h]
  simp only [Result.andThen_ok]
  rw [Sem.run_bind, run_setObj h]
  simp only [Result.andThen_ok, hs]
  rfl
theorem run_endRound {l : Nat} {r : Go.Loop} (h : w.heap[l]? = some (.loop r)) (jump : Option Code) :
    (Instr.endRound l jump).run P w = .ok (.bool jump.isNone) (World.put w l (.loop { r with state := if jump.isNone then .ready else .done, pending := jump })) := by
  unfold Instr.endRound
  rw [Sem.run_bind, run_getLoop h]
  simp only [Result.andThen_ok]
  rw [Sem.run_bind, run_setObj h]
  rfl
theorem run_endLoop {l : Nat} {r : Go.Loop} (h : w.heap[l]? = some (.loop r)) (hs : r.state ≠ .busy) :
    (Instr.endLoop l).run P w = .ok r.pending (World.put w l (.loop { r with state := .exhausted, pending := r.pending })) := by
  unfold Instr.endLoop
  rw [Sem.run_bind, run_getLoop h]
  simp only [Result.andThen_ok]
  have hb : (r.state == LoopState.busy) = false := by
    cases hr : r.state <;> first
      | rfl
      | exact absurd hr hs
  rw [hb]
  simp only [Bool.false_eq_true, if_false]
  rw [Sem.run_bind]
  simp only [Sem.run_pure]
  rw [run_setObj h]
  rfl
end
end Go.Ev

namespace Go.Ev
set_option linter.unusedVariables false

/-! ## Rows that are made at any time -/
def Fresh (P : Program) (g : G) (ρ : Rho) (a : Act) (o : Oper) (v : V) (s s' : St) : Prop :=
  ∃ (elem sz n : Nat) (ch : V) (c : Array Value) (mk : K → Nat → V) (X : Nat → Value), s.h.at s.nk = .none ∧
    s' = ⟨H4.put s.nk (.cells elem sz false 0 0 (.more s.nx n ch .none)) s.h, K.succ s.nk, s.nx + 1⟩ ∧ v = mk s.nk s.nx ∧ 0 < sz ∧ n ≤ c.size ∧ RowR g ρ sz 0 n ch c ∧
    (∀ w, (execOp a.eval o).run P w = .ok (.value (X w.heap.size)) (w.alloc (.cells c elem))) ∧
    ∀ (g' : G) k ver b, g' k ver = some ⟨b, 0, c.size⟩ → VR g' ρ (mk k ver) (X b)

section
variable {P : Program} {gs : Nat → Bool} {g : G} {ρ : Rho} {base nt : Nat} {e : E2} {s s' : St} {a : Act} {w : World} {o : Oper}
variable (hG : GlobR gs g) (hE : ER g ρ nt e a)
include hG hE

theorem op_newF {t : TypeId} {n : Nat} {z : Value} {zc v : V} (ho : o.op = .alloc t) (hn : sizeT P t = some (n + 1)) (hz : (P.info? t).bind (·.zero) = some z) (hzc : ofCells z.cells.toList = some zc)
    (hlen : V.lenIs (n + 1) zc = true) (h : evOp (.new t (n + 1) zc) e s = .ok v s') : Fresh P g ρ a o v s s' := by
  have _ := hG
  have _ := hE
  have h : alloc t (n + 1) (n + 1) (.cons (.cons zc .nil) .nil) s (fun f v s' => .ok (.ptr f v 0) s') = .ok v s' := h
  obtain ⟨hnone, h⟩ := alloc_inv h trivial
  injection h with h1 h2
  subst h1 h2
  obtain ⟨hv, hc⟩ := ofCells_VL (g := g) (ρ := ρ) hzc
  have hl := hv.lenIs hlen
  refine ⟨t, n + 1, n + 1, .cons (.cons zc .nil) .nil, z.cells, fun k v => .ptr k v 0, fun b => .pointer (some ⟨b, 0, none⟩), hnone, rfl, rfl, Nat.succ_pos n, by rw [← hl]; simp, ?_, ?_, ?_⟩
  · have := RowR.single hv hl hc
    simpa using this
  · intro w
    simp [execOp, ho, Instr.alloc, run_zero hz, newVar, newRow]
  · intro g' k ver b hg
    exact .ptr (L := ⟨b, 0, _⟩) hg (Nat.le_refl 0)

theorem op_mkSlF {t el : TypeId} {es len : Nat} {z : Value} {zc : V} {parts : Array (Nat × Operand)} {ps : PartL} {v : V} (ho : o.op = .buildSlice t len parts) (ht : P.underlying t = some (.slice el))
    (hn : sizeT P el = some (es + 1)) (hz : (P.info? el).bind (·.zero) = some z) (hzc : ofCells z.cells.toList = some zc) (hzl : V.lenIs (es + 1) zc = true) (hfit : ¬ len * (es + 1) > 2 ^ 24)
    (hps : compParts P gs nt (fun i => some (i, es + 1)) parts.toList = some ps)
    (h : evOp (.mkSl el (es + 1) len zc ps) e s = .ok v s') : Fresh P g ρ a o v s s' := by
  obtain ⟨hv, hc⟩ := ofCells_VL (g := g) (ρ := ρ) hzc
  have hl := hv.lenIs hzl
  have hrow0 : RowR g ρ (es + 1) 0 (len * (es + 1)) (V.putElems (V.rep len zc) 0 .nil) ((Array.range (len * (es + 1))).map fun i => z.cells.toList.toArray[i % (es + 1)]!) :=
    RowR.zeros hv hc hl len _ fun e r he hr => zeros_get hl (Nat.succ_pos _) he hr
  obtain ⟨z', c', g1, g2, g3, g4⟩ := fillElems_sound (P := P) (es := es + 1) hG hE (Nat.succ_pos es) (r := .ok v s') trivial hps hrow0 (by simp)
    (show fillElems ps (es + 1) len e (V.putElems (V.rep len zc) 0 .nil) (fun ch => alloc el (es + 1) (Nat.mul len (es + 1)) ch s fun f v s' => .ok (.sl f v 0 len len true (es + 1)) s') = .ok v s' from h)
  obtain ⟨hnone, h1⟩ := alloc_inv g4 trivial
  injection h1 with h2 h3
  subst h2 h3
  refine ⟨el, es + 1, len * (es + 1), z', c', fun k v => .sl k v 0 len len true (es + 1), fun b => .slice (some ⟨b, 0, none⟩) len len, hnone, rfl, rfl, Nat.succ_pos es, by omega, g1, ?_, ?_⟩
  · intro w
    have hzs : z.cells.size = es + 1 := by rw [← hl]; simp
    have hcells : ((Array.range (len * (es + 1))).map fun i => (if len * (es + 1) = 0 then #[] else z.cells)[i % (if len * (es + 1) = 0 then (#[] : Array Value) else z.cells).size]!) = (Array.range (len * (es + 1))).map fun i => z.cells.toList.toArray[i % (es + 1)]! := by
      by_cases h0 : len * (es + 1) = 0
      · rw [h0]; simp
      · simp only [if_neg h0, hzs]
    have hfill : Instr.fill (fun i => some (i * (es + 1), es + 1)) ((Array.range (len * (es + 1))).map fun i => (if len * (es + 1) = 0 then #[] else z.cells)[i % (if len * (es + 1) = 0 then (#[] : Array Value) else z.cells).size]!) (parts.map fun x => (x.1, a.eval x.2)).toList = some c' := by
      rw [hcells, Array.toList_map]
      exact g3
    have hb : (Instr.buildSlice t len (parts.map fun (i, x) => (i, a.eval x))).run P w = .ok (.slice (some ⟨w.heap.size, 0, none⟩) len len) (w.alloc (.cells c' el)) := by
      simp only [Instr.buildSlice, Sem.run_bind, run_und ht, Result.andThen_ok, run_sizeOf hn, Sem.run_ite, if_neg hfit, Sem.run_pure, run_zero hz]
      by_cases h0 : len * (es + 1) = 0
      · simp only [if_pos h0] at hfill ⊢
        rw [hfill]
        simp [newRow]
      · simp only [if_neg h0] at hfill ⊢
        rw [hfill]
        simp [newRow]
    simp [execOp, ho, hb]
  · intro g' k ver b hg
    exact .sl (L := ⟨b, 0, c'.size⟩) hg (Nat.le_refl 0) (Nat.le_refl _) (fun _ => rfl) (Nat.le_refl _) (by simp only [g2]; omega) (.inr rfl)
end

/-- a row that lies ahead in the evaluator's memory, and nowhere in the real one -/
theorem WR.ahead {g : G} {ρ : Rho} {base : Nat} {s : St} {w : World} (hW : WR g ρ base s w) (hnone : s.h.at s.nk = .none) (ob : Obj) (nk' : K)
    (hids : ∀ {elem sz ro a b vs v n ch}, ob = .cells elem sz ro a b vs → Ver.has v n ch vs → v = s.nx) :
    WR g ρ base ⟨H4.put s.nk ob s.h, nk', s.nx + 1⟩ w := by
  refine ⟨fun f v h => hW.fresh f v (Nat.le_of_succ_le h), hW.inj, hW.lt, ?_, hW.base, ?_, hW.ro_put (by rw [hnone]; intro _ _ _ _ _ h; cases h)⟩
  · intro f v L hg
    have ho := hW.obj hg
    have hne : f ≠ s.nk := fun h => by rw [h, hnone] at ho; exact ho
    show ObjR g ρ base v L w (H4.at f (H4.put s.nk ob s.h))
    rw [H4.at_put, if_neg hne]
    exact ho
  · intro f elem sz ro a b vs v n ch he hv
    have he : H4.at f (H4.put s.nk ob s.h) = .cells elem sz ro a b vs := he
    rw [H4.at_put] at he
    split at he
    · show v < s.nx + 1
      rw [hids he hv]
      exact Nat.lt_succ_self _
    · exact Nat.lt_succ_of_lt (hW.ids he hv)

/-- it is made -/
theorem Step.adopt {g0 g : G} {ρ : Rho} {base : Nat} {s0 s : St} {w0 w : World} (hS : Step g0 ρ base s0 w0 g s w) {k : K} {v : Nat} {elem sz n : Nat} {ch : V} (hob : s.h.at k = .cells elem sz false 0 0 (.more v n ch .none))
    (hg : g k v = none) (hv : s0.nx ≤ v) {c : Array Value} (hz : 0 < sz) (hn : n ≤ c.size) (hrow : RowR g ρ sz 0 n ch c) :
    Step g0 ρ base s0 w0 (G.add g k v ⟨w.heap.size, 0, c.size⟩) s (w.alloc (.cells c elem)) ∧ G.le g (G.add g k v ⟨w.heap.size, 0, c.size⟩) := by
  have hW := hS.wr
  have hle := G.le_add (L := ⟨w.heap.size, 0, c.size⟩) hg
  have hinv : ∀ {f v' L}, G.add g k v ⟨w.heap.size, 0, c.size⟩ f v' = some L → (f = k ∧ v' = v ∧ L = ⟨w.heap.size, 0, c.size⟩) ∨ g f v' = some L := by
    intro f v' L h
    unfold G.add at h
    by_cases he : f = k ∧ v' = v
    · rw [if_pos he] at h
      injection h with h
      exact .inl ⟨he.1, he.2, h.symm⟩
    · rw [if_neg he] at h
      exact .inr h
  have hold : ∀ b, b < w.heap.size → (w.alloc (.cells c elem)).heap[b]? = w.heap[b]? := by
    intro b hb
    simp only [World.alloc, Array.getElem?_push, if_neg (Nat.ne_of_lt hb)]
  have hsz : (w.alloc (.cells c elem)).heap.size = w.heap.size + 1 := by simp
  have hvlt : v < s.nx := hW.ids hob (.inl ⟨rfl, rfl, rfl⟩)
  refine ⟨⟨⟨fun f v' L h => hle _ _ _ (hS.ext.le _ _ _ h), ?_⟩, ⟨Nat.le_trans hS.keep.size (by rw [hsz]; omega), ?_, hS.keep.os, hS.keep.output, hS.keep.tape⟩, ⟨?_, ?_, ?_, ?_, Nat.le_trans hW.base (by rw [hsz]; omega), hW.ids, hW.ro⟩, hS.nx, ?_⟩, hle⟩
  · intro f v' L h hlt
    rcases hinv h with ⟨_, _, rfl⟩ | h
    · exact absurd hlt (Nat.not_lt.2 hS.keep.size)
    · exact hS.ext.new f v' L h hlt
  · intro b hb hor
    rw [hold b (Nat.lt_of_lt_of_le hb hS.keep.size)]
    exact hS.keep.blk b hb hor
  · intro f v' h
    unfold G.add
    rw [if_neg (by rintro ⟨_, rfl⟩; omega)]
    exact hW.fresh f v' h
  · intro f v1 f' v1' L L' h h' hb
    rcases hinv h with ⟨e1, _, e3⟩ | h1
    · rcases hinv h' with ⟨f1, _, f3⟩ | h1'
      · rw [e1, f1, e3, f3]; exact ⟨rfl, rfl, rfl⟩
      · exact absurd (hW.lt h1') (by rw [← hb, e3]; exact Nat.lt_irrefl _)
    · rcases hinv h' with ⟨_, _, f3⟩ | h1'
      · exact absurd (hW.lt h1) (by rw [hb, f3]; exact Nat.lt_irrefl _)
      · exact hW.inj h1 h1' hb
  · intro f v' L h
    rw [hsz]
    rcases hinv h with ⟨_, _, rfl⟩ | h1
    · exact Nat.lt_succ_self _
    · exact Nat.lt_succ_of_lt (hW.lt h1)
  · intro f v' L h
    rcases hinv h with ⟨rfl, rfl, rfl⟩ | h
    · rw [hob]
      refine ⟨fun _ => hW.base, Nat.dvd_zero _, hz, c, (0, 0), by simp only [World.alloc, Array.getElem?_push_size], rfl, ⟨Nat.le_refl 0, fun i h1 h2 => absurd h2 (Nat.not_lt_zero _)⟩, ?_⟩
      intro n' ch' hv
      rcases hv with ⟨_, h2, h3⟩ | hv
      · subst h2 h3
        exact ⟨by simpa using hn, hrow.mono hle⟩
      · exact hv.elim
    · exact (hW.obj h).mono hle (hold _ (hW.lt h))
  · intro f v' L h hlt
    rcases hinv h with ⟨_, rfl, _⟩ | h
    · omega
    · exact hS.old f v' L h hlt
end Go.Ev

namespace Go.Ev
set_option linter.unusedVariables false


/-- what is said of a region whose order is drawn: who is ahead of whom, what each operation yields, in which states it may be met -/
structure DD where
  B : Nat → List Nat
  cls : Nat → Nat
  val : Nat → V
  env : Nat → E2
  node : Nat → Bool
  has : Nat → Nat → Bool
  T : Nat → St
  key : Nat → K
  ver : Nat → Nat

def DD.compat (D : DD) (n i : Nat) : Prop :=
  (∀ j ∈ D.B i, D.cls j = 1 → D.has n j = true) ∧ (∀ j, D.cls j = 1 → i ∈ D.B j → D.has n j = false) ∧ (D.cls i = 1 → D.has n i = false)

def FreshSound (P : Program) (gs : Nat → Bool) (ρ : Rho) : Prop :=
  ∀ (nt : Nat) (o : Oper) (iop : IOp), compOp P gs nt o.op = some iop → isFresh iop = true → ∀ (g : G) (e : E2) (s s' : St) (a : Act) (v : V), GlobR gs g → ER g ρ nt e a →
    evOp iop e s = .ok v s' → Fresh P g ρ a o v s s'

def Sub (ρ : Rho) (base : Nat) (s s' : St) : Prop := s.nx ≤ s'.nx ∧ ∀ g w, WR g ρ base s w → WR g ρ base s' w
theorem Sub.refl (ρ : Rho) (base : Nat) (s : St) : Sub ρ base s s := ⟨Nat.le_refl _, fun _ _ h => h⟩
theorem Sub.trans {ρ : Rho} {base : Nat} {s s1 s2 : St} (h : Sub ρ base s s1) (h1 : Sub ρ base s1 s2) : Sub ρ base s s2 :=
  ⟨Nat.le_trans h.1 h1.1, fun g w hw => h1.2 g w (h.2 g w hw)⟩
theorem Step.sub {g g' : G} {ρ : Rho} {base : Nat} {s s1 s2 : St} {w w' : World} (h : Step g ρ base s w g' s1 w') (hs : Sub ρ base s1 s2) : Step g ρ base s w g' s2 w' :=
  ⟨h.ext, h.keep, hs.2 _ _ h.wr, Nat.le_trans h.nx hs.1, h.old⟩

section
variable {P : Program} {gs : Nat → Bool} {ρ : Rho} {base nt : Nat} {ops : Array Oper} {call : Nat → V → St → RC} {e0 efin : E2} {s0 sfin : St} {D : DD}

structure DrawOK (P : Program) (gs : Nat → Bool) (ρ : Rho) (base nt : Nat) (ops : Array Oper) (call : Nat → V → St → RC) (e0 : E2) (s0 : St) (efin : E2) (sfin : St) (D : DD) : Prop where
  anc : ∀ (i : Nat) (o : Oper), ops[i]? = some o → ∀ x ∈ D.B i, ∃ e ∈ o.after, Region.binds .any e = true ∧ (x = e.on ∨ x ∈ D.B e.on)
  out : ∀ j, ops.size ≤ j → D.cls j ≠ 1
  dst1 : ∀ (i j : Nat) (oi oj : Oper) (t : Nat), ops[i]? = some oi → ops[j]? = some oj → oi.dst = some t → oj.dst = some t → i = j
  look : ∀ (i : Nat) (o : Oper), ops[i]? = some o → ∀ t, t < nt → t ∈ o.looksAt ops →
    (∃ (j : Nat) (oj : Oper), ops[j]? = some oj ∧ oj.dst = some t ∧ j ∈ D.B i ∧ E2.rd t (D.env i) = D.val j) ∨ ((∀ (j : Nat) (oj : Oper), ops[j]? = some oj → oj.dst = some t → i ∈ D.B j) ∧ E2.rd t (D.env i) = E2.rd t e0)
  nolook : ∀ (i : Nat) (o : Oper), ops[i]? = some o → ∀ t, t < nt → t ∉ o.looksAt ops → E2.rd t (D.env i) = E2.rd t e0
  keys : ∀ i j, i < ops.size → j < ops.size → D.cls i = 2 → D.cls j = 2 → D.key i = D.key j → i = j
  vers : ∀ i n, i < ops.size → D.cls i = 2 → D.node n = true → D.ver i < (D.T n).nx
  vers0 : ∀ i, i < ops.size → D.cls i = 2 → s0.nx ≤ D.ver i
  node0 : D.node 0 = true ∧ (∀ j, D.cls j = 1 → D.has 0 j = false) ∧ Sub ρ base s0 (D.T 0)
  op : ∀ (i : Nat) (o : Oper), ops[i]? = some o → ∃ iop d gd, compOp P gs nt o.op = some iop ∧ compDst nt o.dst = some d ∧ compGd ops nt o.guard = some gd ∧ ∀ n, D.node n = true → D.compat n i →
    (D.cls i = 0 ∧ Gd.ok gd (D.env i) = false ∧ D.val i = .undef) ∨
    (D.cls i = 0 ∧ Gd.ok gd (D.env i) = true ∧ evOp iop (D.env i) (D.T n) = .ok (D.val i) (D.T n)) ∨
    (D.cls i = 1 ∧ ∃ n' s', D.node n' = true ∧ (∀ j, D.has n' j = (D.has n j || j == i)) ∧ Sub ρ base s' (D.T n') ∧
      ((Gd.ok gd (D.env i) = false ∧ D.val i = .undef ∧ s' = D.T n) ∨ (Gd.ok gd (D.env i) = true ∧ evOp iop (D.env i) (D.T n) = .ok (D.val i) s') ∨
        (Gd.ok gd (D.env i) = true ∧ ∃ f as s1, evOp iop (D.env i) (D.T n) = .call f as s1 ∧ call f as s1 = .ok (D.val i) s'))) ∨
    (D.cls i = 2 ∧ Gd.ok gd (D.env i) = true ∧ isFresh iop = true ∧ ∃ sA sA', evOp iop (D.env i) sA = .ok (D.val i) sA' ∧ sA.nk = D.key i ∧ sA.nx = D.ver i ∧
      (D.T n).h.at (D.key i) = sA'.h.at (D.key i))
  fin : ∀ n, D.node n = true → (∀ i, i < ops.size → D.cls i = 1 → D.has n i = true) → Sub ρ base (D.T n) sfin
  efin1 : ∀ t, t < nt → ∀ (i : Nat) (o : Oper), ops[i]? = some o → o.dst = some t → E2.rd t efin = D.val i
  efin0 : ∀ t, t < nt → (∀ (i : Nat) (o : Oper), ops[i]? = some o → o.dst ≠ some t) → E2.rd t efin = E2.rd t e0

/-- where a run of the region stands -/
structure DInv (gs : Nat → Bool) (ρ : Rho) (base nt : Nat) (ops : Array Oper) (D : DD) (e0 : E2) (s0 : St) (g0 : G) (w0 : World) (dfs : List Deferred) (n : Nat) (g : G) (L : Array Bool) (a : Act) (w : World) : Prop where
  node : D.node n = true
  size : L.size = ops.size
  closed : ∀ (i : Nat) (o : Oper), ops[i]? = some o → L.getD i false = true → ∀ x ∈ D.B i, L.getD x false = true
  eff : ∀ i, i < ops.size → D.cls i = 1 → L.getD i false = D.has n i
  step : Step g0 ρ base s0 w0 g (D.T n) w
  defers : a.defers = dfs
  tsize : a.tmps.size = nt
  wrote : ∀ (i : Nat) (o : Oper) (t : Nat), ops[i]? = some o → L.getD i false = true → o.dst = some t → t < nt → VR g ρ (D.val i) (a.tmps.getD t undef)
  kept : ∀ t, t < nt → (∀ (i : Nat) (o : Oper), ops[i]? = some o → L.getD i false = true → o.dst ≠ some t) → VR g ρ (E2.rd t e0) (a.tmps.getD t undef)
  away : ∀ i, i < ops.size → D.cls i = 2 → L.getD i false = false → g (D.key i) (D.ver i) = none

theorem binds_any {e : Edge} (md : Region.Mode) (h : Region.binds .any e = true) : Region.binds md e = true := by
  unfold Region.binds at h ⊢
  cases he : e.ground <;> simp [he] at h ⊢

theorem set_getD (L : Array Bool) (i j : Nat) (hi : i < L.size) : (L.setIfInBounds i true).getD j false = (L.getD j false || j == i) := by
  by_cases h : i = j
  · subst h
    simp [hi]
  · have h' : (j == i) = false := by simpa using Ne.symm h
    rw [h', Bool.or_false]
    simp [Array.getElem?_setIfInBounds_ne h]

variable {g0 g : G} {w0 w : World} {dfs : List Deferred} {n i : Nat} {L : Array Bool} {a : Act} {o : Oper}

theorem DInv.put (hK : DrawOK P gs ρ base nt ops call e0 s0 efin sfin D) (hI : DInv gs ρ base nt ops D e0 s0 g0 w0 dfs n g L a w) (ho : ops[i]? = some o) (hun : L.getD i false = false) (hB : ∀ x ∈ D.B i, L.getD x false = true)
    {g' : G} {n' : Nat} {w' : World} {x : Value} (hn : D.node n' = true) (hle : G.le g g') (hS : Step g0 ρ base s0 w0 g' (D.T n') w') (hhas : ∀ j, j < ops.size → D.cls j = 1 → D.has n' j = (D.has n j || j == i))
    (hx : VR g' ρ (D.val i) x) (haway : ∀ j, j < ops.size → D.cls j = 2 → L.getD j false = false → j ≠ i → g' (D.key j) (D.ver j) = none) :
    DInv gs ρ base nt ops D e0 s0 g0 w0 dfs n' g' (L.setIfInBounds i true) (a.put o.dst x) w' := by
  have hilt : i < ops.size := (Array.getElem?_eq_some_iff.1 ho).1
  have hset : ∀ j, (L.setIfInBounds i true).getD j false = (L.getD j false || j == i) := fun j => set_getD L i j (by rw [hI.size]; exact hilt)
  refine ⟨hn, by simpa using hI.size, ?_, ?_, hS, (put_defers _ _ _).trans hI.defers, ?_, ?_, ?_, ?_⟩
  · intro j oj hj hl y hy
    rw [hset] at hl ⊢
    by_cases hji : j = i
    · subst hji
      rw [hB y hy]; rfl
    · have hji' : (j == i) = false := by simpa using hji
      rw [hji', Bool.or_false] at hl
      rw [hI.closed j oj hj hl y hy]; rfl
  · intro j hj hc
    rw [hset, hhas j hj hc, hI.eff j hj hc]
  · rw [show (a.put o.dst x).tmps.size = a.tmps.size by unfold Act.put; cases o.dst <;> simp]; exact hI.tsize
  · intro j oj t hj hl hd ht
    rw [hset] at hl
    by_cases hji : j = i
    · subst hji
      rw [ho] at hj
      injection hj with hj
      subst hj
      rw [hd]
      simp only [Act.put]
      rw [Array.getD_eq_getD_getElem?, Array.getElem?_setIfInBounds_self_of_lt (by rw [hI.tsize]; exact ht)]
      exact hx
    · have hji' : (j == i) = false := by simpa using hji
      rw [hji', Bool.or_false] at hl
      have := (hI.wrote j oj t hj hl hd ht).mono hle
      cases hdo : o.dst with
      | none => exact this
      | some u =>
        have hne : u ≠ t := fun he => hji (hK.dst1 j i oj o t hj ho hd (he ▸ hdo))
        simp only [Act.put]
        rw [Array.getD_eq_getD_getElem?, Array.getElem?_setIfInBounds_ne hne, ← Array.getD_eq_getD_getElem?]
        exact this
  · intro t ht hno
    have h1 : o.dst ≠ some t := hno i o ho (by rw [hset]; simp)
    have := (hI.kept t ht fun j oj hj hl => hno j oj hj (by rw [hset, hl]; rfl)).mono hle
    cases hdo : o.dst with
    | none => exact this
    | some u =>
      have hne : u ≠ t := fun he => h1 (he ▸ hdo)
      simp only [Act.put]
      rw [Array.getD_eq_getD_getElem?, Array.getElem?_setIfInBounds_ne hne, ← Array.getD_eq_getD_getElem?]
      exact this
  · intro j hj hc hl
    rw [hset, Bool.or_eq_false_iff] at hl
    exact haway j hj hc hl.1 (by simpa using hl.2)

theorem compOp_noselect {nt : Nat} {iop : IOp} (h : compOp P gs nt o.op = some iop) (cs : Array SelectCase) (b : Bool) : o.op ≠ .select cs b := by
  intro he
  rw [he] at h
  cases h

theorem draw_op (hO : OpSound P gs ρ base) (hF : FreshSound P gs ρ) (hC : CallSound P gs ρ base call) (hK : DrawOK P gs ρ base nt ops call e0 s0 efin sfin D) {a0 : Act} (hE0 : ER g0 ρ nt e0 a0) (hG0 : GlobR gs g0)
    {md : Region.Mode} {Q : Exit → Act → World → Prop} (hI : DInv gs ρ base nt ops D e0 s0 g0 w0 dfs n g L a w) (hi : i ∈ Region.ready md ops L) {K : Act → World → Prop}
    (hk : ∀ n' g' a' w', DInv gs ρ base nt ops D e0 s0 g0 w0 dfs n' g' (L.setIfInBounds i true) a' w' → K a' w') {rd : Option Nat} {nd : Nat} : wpOpIn (FR rd) nd P ops Q i K a w := by
  obtain ⟨hun', o, ho, hall⟩ := mem_ready.1 hi
  have hilt : i < ops.size := (Array.getElem?_eq_some_iff.1 ho).1
  have hun : L.getD i false = false := by
    have : i < L.size := by rw [hI.size]; exact hilt
    simp [this] at hun' ⊢
    exact hun'
  have hlt : ∀ {x}, L.getD x false = true → x < ops.size := by
    intro x hx
    rw [← hI.size]
    rcases Nat.lt_or_ge x L.size with h | h
    · exact h
    · simp [Array.getElem?_eq_none h] at hx
  have hB : ∀ x ∈ D.B i, L.getD x false = true := by
    intro x hx
    obtain ⟨e, he, hb, hor⟩ := hK.anc i o ho x hx
    have hl := hall e he (binds_any md hb)
    rcases hor with rfl | hx'
    · exact hl
    · have := hlt hl
      exact hI.closed e.on _ (Array.getElem?_eq_getElem this) hl x hx'
  have hcompat : D.compat n i := by
    refine ⟨fun j hj hc => ?_, fun j hc hj => ?_, fun hc => ?_⟩
    · rw [← hI.eff j (hlt (hB j hj)) hc]; exact hB j hj
    · rcases Nat.lt_or_ge j ops.size with hjl | hjl
      · rw [← hI.eff j hjl hc]
        cases hl : L.getD j false with
        | false => rfl
        | true =>
          have := hI.closed j _ (Array.getElem?_eq_getElem hjl) hl i hj
          rw [hun] at this
          cases this
      · exact absurd hc (hK.out j hjl)
    · rw [← hI.eff i hilt hc]; exact hun
  obtain ⟨iop, d, gd, hop, hds, hgd, hcase⟩ := hK.op i o ho
  have hcase := hcase n hI.node hcompat
  have hG : GlobR gs g := hG0.mono hI.step.ext.le
  -- the activation with the temporaries that are looked at
  let tm : Nat → Value := fun t => if t ∈ o.looksAt ops then a.tmps.getD t undef else a0.tmps.getD t undef
  let a' : Act := { a with tmps := (Array.range nt).map tm }
  have ha'get : ∀ t, t < nt → a'.tmps.getD t undef = tm t := by
    intro t ht
    show ((Array.range nt).map tm).getD t undef = _
    rw [Array.getD_eq_getD_getElem?, Array.getElem?_map, Array.getElem?_range, if_pos ht]
    rfl
  have hget : ∀ t, t ∈ o.looksAt ops → a'.tmps.getD t undef = a.tmps.getD t undef := by
    intro t ht
    by_cases hlt' : t < nt
    · rw [ha'get t hlt']
      show (if t ∈ o.looksAt ops then _ else _) = _
      rw [if_pos ht]
    · have hlt' : nt ≤ t := Nat.le_of_not_lt hlt'
      have h1 : a'.tmps[t]? = none := Array.getElem?_eq_none (by show ((Array.range nt).map tm).size ≤ t; simpa using hlt')
      have h2 : a.tmps[t]? = none := Array.getElem?_eq_none (by rw [hI.tsize]; exact hlt')
      rw [Array.getD_eq_getD_getElem?, Array.getD_eq_getD_getElem?, h1, h2]
  have hE' : ER g ρ nt (D.env i) a' := by
    refine ⟨by show ((Array.range nt).map tm).size = nt; simp, hE0.2.1, fun t ht => ?_⟩
    show VR g ρ (E2.rd t (D.env i)) _
    by_cases hlk : t ∈ o.looksAt ops
    · rw [hget t hlk]
      rcases hK.look i o ho t ht hlk with ⟨j, oj, hj, hd, hjB, he⟩ | ⟨hno, he⟩
      · rw [he]; exact hI.wrote j oj t hj (hB j hjB) hd ht
      · rw [he]
        refine hI.kept t ht fun j oj hj hlj hdj => ?_
        have := hI.closed j oj hj hlj i (hno j oj hj hdj)
        rw [hun] at this
        cases this
    · rw [ha'get t ht, hK.nolook i o ho t ht hlk]
      show VR g ρ _ (if t ∈ o.looksAt ops then _ else _)
      rw [if_neg hlk]
      exact (hE0.2.2 t ht).mono hI.step.ext.le
  have hexec : execOp a'.eval o = execOp a.eval o := by
    refine execOp_congr o (compOp_noselect hop) fun x hx => ?_
    cases x with
    | tmp t =>
      show a'.tmps.getD t undef = a.tmps.getD t undef
      exact hget t (List.mem_append_left _ (List.mem_filterMap.2 ⟨.tmp t, by simpa using hx, rfl⟩))
    | _ => rfl
  have hwant : Region.wanted o (yielded ops a.tmps) = Gd.ok gd (D.env i) := by
    rw [← gd_wanted hE' hgd]
    unfold Region.wanted
    cases hg : o.guard with
    | none => rfl
    | some jw =>
      obtain ⟨j, want⟩ := jw
      have : yielded ops a.tmps j = yielded ops a'.tmps j := by
        unfold yielded
        cases hj : (ops[j]?).bind (·.dst) with
        | none => rfl
        | some t =>
          have hmem : t ∈ o.looksAt ops := List.mem_append_right _ (by simp [hg, hj])
          have htl : t < nt := by
            simp only [compGd, hg, hj] at hgd
            split at hgd
            · assumption
            · cases hgd
          have h1 : a'.tmps[t]? = some (a'.tmps.getD t undef) := by
            have : t < a'.tmps.size := by show t < ((Array.range nt).map tm).size; simpa using htl
            rw [Array.getD_eq_getD_getElem?, Array.getElem?_eq_getElem this]; rfl
          have h2 : a.tmps[t]? = some (a.tmps.getD t undef) := by
            have : t < a.tmps.size := by rw [hI.tsize]; exact htl
            rw [Array.getD_eq_getD_getElem?, Array.getElem?_eq_getElem this]; rfl
          simp only [Option.bind_some, h1, h2, hget t hmem]
      simp only [this]
  have hloc : ∀ j, j < ops.size → D.cls j = 2 → L.getD j false = false → g (D.key j) (D.ver j) = none := hI.away
  unfold wpOpIn
  simp only [ho]
  rw [hwant]
  rcases hcase with ⟨hc, hgf, hv⟩ | ⟨hc, hgt, hev⟩ | ⟨hc, n', s', hn', hhas, hsub, hwhat⟩ | ⟨hc, hgt, hfr, sA, sA', hev, hkey, hver, hobj⟩
  · rw [hgf]
    simp only [Bool.false_eq_true, if_false]
    refine ⟨fun _ _ => trivial, ?_⟩
    refine hk n g _ w (hI.put hK ho hun hB hI.node (fun _ _ _ h => h) hI.step ?_ ?_ fun j hj hc' hl _ => hloc j hj hc' hl)
    · intro j hj hcj
      have : (j == i) = false := by
        apply beq_false_of_ne
        rintro rfl
        rw [hc] at hcj
        cases hcj
      rw [this, Bool.or_false]
    · rw [hv]; exact .undef
  · rw [hgt]
    simp only [if_true]
    refine ⟨fun _ _ => trivial, ?_⟩
    rw [Oper.semAt_eq _ _ _ (compOp_noDefer hop)]
    obtain ⟨x, w1, g1, hrun, hstep, hx⟩ := (hO nt o iop hop g (D.env i) (D.T n) a' w hG hE' hI.step.wr).1 _ _ hev
    rw [hexec] at hrun
    have hnext : K (a.put o.dst x) w1 := by
      refine hk n g1 _ w1 (hI.put hK ho hun hB hI.node hstep.ext.le (hI.step.trans hstep) ?_ hx ?_)
      · intro j hj hcj
        have : (j == i) = false := by
          apply beq_false_of_ne
          rintro rfl
          rw [hc] at hcj
          cases hcj
        rw [this, Bool.or_false]
      · intro j hj hcj hl _
        cases hg1 : g1 (D.key j) (D.ver j) with
        | none => rfl
        | some L' =>
          have := hstep.old _ _ _ hg1 (hK.vers j n hj hcj hI.node)
          rw [hloc j hj hcj hl] at this
          cases this
    rcases hrun with hrun | ⟨hxu, hrun⟩
    · rw [hrun]; exact hnext
    · rw [hrun]; subst hxu; exact hnext
  · have hkey' : ∀ {g1 : G} {w1 : World}, Step g ρ base (D.T n) w g1 s' w1 → ∀ j, j < ops.size → D.cls j = 2 → L.getD j false = false → j ≠ i → g1 (D.key j) (D.ver j) = none := by
      intro g1 w1 hstep j hj hcj hl _
      cases hg1 : g1 (D.key j) (D.ver j) with
      | none => rfl
      | some L' =>
        have := hstep.old _ _ _ hg1 (hK.vers j n hj hcj hI.node)
        rw [hloc j hj hcj hl] at this
        cases this
    rcases hwhat with ⟨hgf, hv, hs⟩ | ⟨hgt, hev⟩ | ⟨hgt, f, as, s1, hev, hcl⟩
    · rw [hgf]
      simp only [Bool.false_eq_true, if_false]
      refine ⟨fun _ _ => trivial, ?_⟩
      subst hs
      exact hk n' g _ w (hI.put hK ho hun hB hn' (fun _ _ _ h => h) (hI.step.sub hsub) (fun j _ _ => hhas j) (by rw [hv]; exact .undef) fun j hj hc' hl _ => hloc j hj hc' hl)
    · rw [hgt]
      simp only [if_true]
      refine ⟨fun _ _ => trivial, ?_⟩
      rw [Oper.semAt_eq _ _ _ (compOp_noDefer hop)]
      obtain ⟨x, w1, g1, hrun, hstep, hx⟩ := (hO nt o iop hop g (D.env i) (D.T n) a' w hG hE' hI.step.wr).1 _ _ hev
      rw [hexec] at hrun
      have hnext : K (a.put o.dst x) w1 := hk n' g1 _ w1 (hI.put hK ho hun hB hn' hstep.ext.le ((hI.step.trans hstep).sub hsub) (fun j _ _ => hhas j) hx (hkey' hstep))
      rcases hrun with hrun | ⟨hxu, hrun⟩
      · rw [hrun]; exact hnext
      · rw [hrun]; subst hxu; exact hnext
    · rw [hgt]
      simp only [if_true]
      refine ⟨fun _ _ => trivial, ?_⟩
      rw [Oper.semAt_eq _ _ _ (compOp_noDefer hop)]
      obtain ⟨hs1, hto⟩ := (hO nt o iop hop g (D.env i) (D.T n) a' w hG hE' hI.step.wr).2 _ _ _ hev
      subst hs1
      rw [hexec] at hto
      refine call_upon hC hcl hto hG hI.step.wr fun x g1 w1 hstep hx => ?_
      exact hk n' g1 _ w1 (hI.put hK ho hun hB hn' hstep.ext.le ((hI.step.trans hstep).sub hsub) (fun j _ _ => hhas j) hx (hkey' hstep))
  · rw [hgt]
    simp only [if_true]
    refine ⟨fun _ _ => trivial, ?_⟩
    rw [Oper.semAt_eq _ _ _ (compOp_noDefer hop)]
    obtain ⟨elem, sz, m, ch, c, mk, X, hnone, hs', hv, hz, hm, hrow, hrun, hvr⟩ := hF nt o iop hop hfr g (D.env i) sA sA' a' (D.val i) hG hE' hev
    rw [hexec] at hrun
    have hob : (D.T n).h.at (D.key i) = .cells elem sz false 0 0 (.more (D.ver i) m ch .none) := by
      rw [hobj, hs', ← hkey, ← hver]
      show H4.at sA.nk (H4.put sA.nk _ sA.h) = _
      rw [H4.at_put, if_pos rfl]
    have hgn := hloc i hilt hc hun
    obtain ⟨hS, hle⟩ := hI.step.adopt hob hgn (hK.vers0 i hilt hc) hz hm hrow
    rw [hrun w]
    refine hk n _ _ _ (hI.put hK ho hun hB hI.node hle hS ?_ ?_ ?_)
    · intro j hj hcj
      have : (j == i) = false := by
        apply beq_false_of_ne
        rintro rfl
        rw [hc] at hcj
        cases hcj
      rw [this, Bool.or_false]
    · rw [hv, hkey, hver]
      exact hvr _ _ _ _ (G.add_same _ _ _ _)
    · intro j hj hcj hl hji
      unfold G.add
      rw [if_neg]
      · exact hloc j hj hcj hl
      · rintro ⟨h1, _⟩
        exact hji (hK.keys j i hj hilt hcj hc h1)

theorem all_listed {md : Region.Mode} (rank : Nat → Nat) (hr : ∀ (i : Nat) (o : Oper), ops[i]? = some o → ∀ e ∈ o.after, Region.binds md e = true → rank e.on < rank i ∧ e.on < ops.size)
    (hs : L.size = ops.size) (h : Region.ready md ops L = []) : ∀ i, i < ops.size → L.getD i false = true := by
  have key : ∀ k i, i < ops.size → rank i = k → L.getD i false = true := by
    intro k
    induction k using Nat.strongRecOn with
    | _ k ih =>
      intro i hi hk
      cases hl : L.getD i false with
      | true => rfl
      | false =>
        exfalso
        have hi' : i < L.size := by rw [hs]; exact hi
        have : i ∈ Region.ready md ops L := mem_ready.2 ⟨by simp [hi'] at hl ⊢; exact hl, _, Array.getElem?_eq_getElem hi, fun e he hb => by
          obtain ⟨h1, h2⟩ := hr i _ (Array.getElem?_eq_getElem hi) e he hb
          exact ih (rank e.on) (hk ▸ h1) e.on h2 rfl⟩
        rw [h] at this
        cases this
  exact fun i hi => key _ i hi rfl

theorem draw_any (hO : OpSound P gs ρ base) (hF : FreshSound P gs ρ) (hC : CallSound P gs ρ base call) (hK : DrawOK P gs ρ base nt ops call e0 s0 efin sfin D) {a0 : Act} (hE0 : ER g0 ρ nt e0 a0) (hG0 : GlobR gs g0)
    {md : Region.Mode} (rank : Nat → Nat) (hr : ∀ (i : Nat) (o : Oper), ops[i]? = some o → ∀ e ∈ o.after, Region.binds md e = true → rank e.on < rank i ∧ e.on < ops.size) {Q : Exit → Act → World → Prop} {rd : Option Nat} {nd : Nat}
    (hQ : ∀ g' a' w', Step g0 ρ base s0 w0 g' sfin w' → ER g' ρ nt efin a' → a'.defers = dfs → Q .normal a' w') :
    ∀ (fuel : Nat) {n : Nat} {g : G} {L : Array Bool} {a : Act} {w : World}, (List.range ops.size).countP (fun i => !L.getD i false) ≤ fuel → DInv gs ρ base nt ops D e0 s0 g0 w0 dfs n g L a w → wpAnyIn (FR rd) nd P md ops Q fuel L a w := by
  have done : ∀ {n : Nat} {g : G} {L : Array Bool} {a : Act} {w : World}, DInv gs ρ base nt ops D e0 s0 g0 w0 dfs n g L a w → (∀ i, i < ops.size → L.getD i false = true) → Q .normal a w := by
    intro n g L a w hI hall
    refine hQ g a w (hI.step.sub (hK.fin n hI.node fun i hi hc => by rw [← hI.eff i hi hc]; exact hall i hi)) ⟨hI.tsize, hE0.2.1, fun t ht => ?_⟩ hI.defers
    show VR g ρ (E2.rd t efin) _
    by_cases hex : ∃ (i : Nat) (o : Oper), ops[i]? = some o ∧ o.dst = some t
    · obtain ⟨i, o, ho, hd⟩ := hex
      rw [hK.efin1 t ht i o ho hd]
      exact hI.wrote i o t ho (hall i (Array.getElem?_eq_some_iff.1 ho).1) hd ht
    · rw [hK.efin0 t ht fun i o ho hd => hex ⟨i, o, ho, hd⟩]
      exact hI.kept t ht fun i o ho _ hd => hex ⟨i, o, ho, hd⟩
  intro fuel
  induction fuel with
  | zero =>
    intro n g L a w hcount hI
    have hall : ∀ i, i < ops.size → L.getD i false = true := by
      intro i hi
      have h0 : (List.range ops.size).countP (fun i => !L.getD i false) = 0 := Nat.le_zero.1 hcount
      rw [List.countP_eq_zero] at h0
      have := h0 i (List.mem_range.2 hi)
      simpa using this
    refine ⟨?_, done hI hall⟩
    apply List.eq_nil_iff_forall_not_mem.2
    intro i hi
    obtain ⟨h1, o, ho, _⟩ := mem_ready.1 hi
    have hilt : i < ops.size := (Array.getElem?_eq_some_iff.1 ho).1
    have h2 := hall i hilt
    have : i < L.size := by rw [hI.size]; exact hilt
    simp [this] at h1 h2
    rw [h1] at h2
    cases h2
  | succ fuel ih =>
    intro n g L a w hcount hI
    refine ⟨fun h => done hI (all_listed rank hr hI.size h), fun i hi => ?_⟩
    refine draw_op hO hF hC hK hE0 hG0 hI hi fun n' g' a' w' hI' => ih ?_ hI'
    obtain ⟨hun', o, ho, _⟩ := mem_ready.1 hi
    have hilt : i < ops.size := (Array.getElem?_eq_some_iff.1 ho).1
    have hiL : i < L.size := by rw [hI.size]; exact hilt
    have hun : L.getD i false = false := by simp [hiL] at hun' ⊢; exact hun'
    have hlt : (List.range ops.size).countP (fun j => !(L.setIfInBounds i true).getD j false) < (List.range ops.size).countP (fun j => !L.getD j false) := by
      rw [List.countP_eq_length_filter, List.countP_eq_length_filter]
      have hsub : ((List.range ops.size).filter fun j => !(L.setIfInBounds i true).getD j false) = ((List.range ops.size).filter fun j => !L.getD j false).filter (fun j => j != i) := by
        rw [List.filter_filter]
        apply List.filter_congr
        intro j _
        rw [set_getD L i j hiL]
        cases L.getD j false <;> simp [bne]
      rw [hsub]
      have hm : i ∈ (List.range ops.size).filter fun j => !L.getD j false := List.mem_filter.2 ⟨List.mem_range.2 hilt, by rw [hun]; rfl⟩
      exact List.length_filter_lt_length_iff_exists.2 ⟨i, hm, by simp⟩
    omega
end
end Go.Ev

namespace Go.Ev
set_option linter.unusedVariables false

/-! ## Sameness -/
theorem band_tt {a b : Bool} (h : band a b = true) : a = true ∧ b = true := by
  cases a <;> cases b <;> first | exact ⟨rfl, rfl⟩ | exact absurd (show false = true from h) Bool.false_ne_true
theorem beqB_eq {a b : Bool} (h : beqB a b = true) : a = b := by
  cases a <;> cases b <;> first | rfl | exact absurd (show false = true from h) Bool.false_ne_true
theorem same_eq : ∀ {a b : V}, same a b = true → a = b := by
  intro a
  induction a with
  | nil | undef | nilp | nils | nilm | nilf | nili => intro b h; cases b <;> first | rfl | exact absurd (show false = true from h) Bool.false_ne_true
  | cons x t ihx iht =>
    intro b h
    cases b <;> first | exact absurd (show false = true from h) Bool.false_ne_true | skip
    rename_i y u
    obtain ⟨h1, h2⟩ := band_tt (show band (same x y) (same t u) = true from h)
    rw [ihx h1, iht h2]
  | int k n =>
    intro b h
    cases b <;> first | exact absurd (show false = true from h) Bool.false_ne_true | skip
    rename_i k' n'
    obtain ⟨h1, h2⟩ := band_tt (show band (Nat.beq (kcode k) (kcode k')) (ieq n n') = true from h)
    rw [kcode_inj (beq_iff.1 h1), (ieq_iff _ _).1 h2]
  | bool c =>
    intro b h
    cases b <;> first | exact absurd (show false = true from h) Bool.false_ne_true | skip
    rename_i c'
    rw [beqB_eq (show beqB c c' = true from h)]
  | str l d =>
    intro b h
    cases b <;> first | exact absurd (show false = true from h) Bool.false_ne_true | skip
    rename_i l' d'
    obtain ⟨h1, h2⟩ := band_tt (show band (Nat.beq l l') (Nat.beq d d') = true from h)
    rw [beq_iff.1 h1, beq_iff.1 h2]
  | ptr f v o =>
    intro b h
    cases b <;> first | exact absurd (show false = true from h) Bool.false_ne_true | skip
    rename_i f' v' o'
    obtain ⟨h1, h2⟩ := band_tt (show band (K.beq f f') (band (Nat.beq v v') (Nat.beq o o')) = true from h)
    obtain ⟨h2, h3⟩ := band_tt h2
    rw [(K.beq_iff _ _).1 h1, beq_iff.1 h2, beq_iff.1 h3]
  | sl f v o len cap ex es =>
    intro b h
    cases b <;> first | exact absurd (show false = true from h) Bool.false_ne_true | skip
    rename_i f' v' o' len' cap' ex' es'
    obtain ⟨h1, h⟩ := band_tt (show band (K.beq f f') (band (Nat.beq v v') (band (Nat.beq o o') (band (Nat.beq len len') (band (Nat.beq cap cap') (band (beqB ex ex') (Nat.beq es es')))))) = true from h)
    obtain ⟨h2, h⟩ := band_tt h
    obtain ⟨h3, h⟩ := band_tt h
    obtain ⟨h4, h⟩ := band_tt h
    obtain ⟨h5, h⟩ := band_tt h
    obtain ⟨h6, h7⟩ := band_tt h
    rw [(K.beq_iff _ _).1 h1, beq_iff.1 h2, beq_iff.1 h3, beq_iff.1 h4, beq_iff.1 h5, beqB_eq h6, beq_iff.1 h7]
  | map f v =>
    intro b h
    cases b <;> first | exact absurd (show false = true from h) Bool.false_ne_true | skip
    rename_i f' v'
    obtain ⟨h1, h2⟩ := band_tt (show band (K.beq f f') (Nat.beq v v') = true from h)
    rw [(K.beq_iff _ _).1 h1, beq_iff.1 h2]
  | iface t x ih =>
    intro b h
    cases b <;> first | exact absurd (show false = true from h) Bool.false_ne_true | skip
    rename_i t' x'
    obtain ⟨h1, h2⟩ := band_tt (show band (Nat.beq t t') (same x x') = true from h)
    rw [beq_iff.1 h1, ih h2]
  | agg x ih =>
    intro b h
    cases b <;> first | exact absurd (show false = true from h) Bool.false_ne_true | skip
    rename_i x'
    rw [ih (show same x x' = true from h)]
  | tup x ih =>
    intro b h
    cases b <;> first | exact absurd (show false = true from h) Bool.false_ne_true | skip
    rename_i x'
    rw [ih (show same x x' = true from h)]
  | sym i =>
    intro b h
    cases b <;> first | exact absurd (show false = true from h) Bool.false_ne_true | skip
    rename_i j
    rw [beq_iff.1 (show Nat.beq i j = true from h)]
  | opq i =>
    intro b h
    cases b <;> first | exact absurd (show false = true from h) Bool.false_ne_true | skip
    rename_i j
    rw [beq_iff.1 (show Nat.beq i j = true from h)]
  | fn F x y ihx ihy =>
    intro b h
    have h : sameFn F (same x) (same y) b = true := h
    unfold sameFn at h
    split at h
    · obtain ⟨h1, h2⟩ := band_tt h
      obtain ⟨h2, h3⟩ := band_tt h2
      rw [beq_iff.1 h1, ihx h2, ihy h3]
    · cases h

theorem Ver.same_eq : ∀ {a b : Ver}, Ver.same a b = true → a = b := by
  intro a
  induction a with
  | none => intro b h; cases b <;> first | rfl | exact absurd (show false = true from h) Bool.false_ne_true
  | more i n c r ih =>
    intro b h
    cases b <;> first | exact absurd (show false = true from h) Bool.false_ne_true | skip
    rename_i i' n' c' r'
    obtain ⟨h1, h⟩ := band_tt (show band (Nat.beq i i') (band (Nat.beq n n') (band (Ev.same c c') (Ver.same r r'))) = true from h)
    obtain ⟨h2, h⟩ := band_tt h
    obtain ⟨h3, h4⟩ := band_tt h
    rw [beq_iff.1 h1, beq_iff.1 h2, Ev.same_eq h3, ih h4]

theorem Obj.same_eq {a b : Obj} (h : Obj.same a b = true) : a = b := by
  cases a <;> cases b <;> first | exact absurd (show false = true from h) Bool.false_ne_true | skip
  rename_i e s ro x y vs e' s' ro' x' y' vs'
  obtain ⟨h1, h⟩ := band_tt (show band (Nat.beq e e') (band (Nat.beq s s') (band (beqB ro ro') (band (Nat.beq x x') (band (Nat.beq y y') (Ver.same vs vs'))))) = true from h)
  obtain ⟨h2, h⟩ := band_tt h
  obtain ⟨h3, h⟩ := band_tt h
  obtain ⟨h4, h⟩ := band_tt h
  obtain ⟨h5, h6⟩ := band_tt h
  rw [beq_iff.1 h1, beq_iff.1 h2, beqB_eq h3, beq_iff.1 h4, beq_iff.1 h5, Ver.same_eq h6]

/-! ## Slots -/
theorem rd_wr {t u : Nat} (ht : t < 256) (hu : u < 256) (v : V) (e : E2) : E2.rd t (E2.wr u v e) = if t = u then v else E2.rd t e := by
  unfold E2.rd E2.wr
  rw [E2.at_put]
  by_cases h : t = u
  · subst h; rw [if_pos ⟨rfl, rfl⟩, if_pos rfl]
  · rw [if_neg h, if_neg]
    rintro ⟨h1, h2⟩
    have h1 : t / 16 = u / 16 := D.dig_inj (by omega) (by omega) h1
    have h2 : t % 16 = u % 16 := D.dig_inj (by omega) (by omega) h2
    omega

theorem envOf_none {vs e0 : E2} {t : Nat} (ht : t < 256) : ∀ {l : List (Nat × Nat)}, (∀ q ∈ l, q.1 < 256) → (∀ q ∈ l, q.1 ≠ t) → E2.rd t (envOf vs e0 l) = E2.rd t e0
  | [], _, _ => rfl
  | (u, w) :: l, h1, h2 => by
    show E2.rd t (E2.wr u _ _) = _
    rw [rd_wr ht (h1 _ (List.mem_cons_self ..)), if_neg (fun h => h2 _ (List.mem_cons_self ..) h.symm)]
    exact envOf_none ht (fun q hq => h1 q (List.mem_cons_of_mem _ hq)) (fun q hq => h2 q (List.mem_cons_of_mem _ hq))

theorem envOf_some {vs e0 : E2} {t j : Nat} (ht : t < 256) : ∀ {l : List (Nat × Nat)}, (∀ q ∈ l, q.1 < 256) → (∀ q ∈ l, q.1 = t → q.2 = j) → (t, j) ∈ l → E2.rd t (envOf vs e0 l) = E2.rd j vs
  | (u, w) :: l, h1, h2, h3 => by
    show E2.rd t (E2.wr u _ _) = _
    rw [rd_wr ht (h1 _ (List.mem_cons_self ..))]
    by_cases h : t = u
    · rw [if_pos h, show w = j from h2 (u, w) (List.mem_cons_self ..) h.symm]
    · rw [if_neg h]
      refine envOf_some ht (fun q hq => h1 q (List.mem_cons_of_mem _ hq)) (fun q hq => h2 q (List.mem_cons_of_mem _ hq)) ?_
      rcases List.mem_cons.1 h3 with h3 | h3
      · injection h3 with h3 _; exact absurd h3 h
      · exact h3

theorem envOf_congr {vs vs' e0 : E2} : ∀ {l : List (Nat × Nat)}, (∀ q ∈ l, E2.rd q.2 vs = E2.rd q.2 vs') → envOf vs e0 l = envOf vs' e0 l
  | [], _ => rfl
  | (u, w) :: l, h => by
    show E2.wr u (E2.rd w vs) (envOf vs e0 l) = E2.wr u (E2.rd w vs') (envOf vs' e0 l)
    rw [h (u, w) (List.mem_cons_self ..), envOf_congr fun q hq => h q (List.mem_cons_of_mem _ hq)]

/-! ## What reads alone -/
def KP (s : St) : RO → Prop
  | .ok _ s' => s' = s
  | .call _ _ _ => False
  | .bad _ => True

section
variable {s : St}
theorem KP.ok (v : V) : KP s (.ok v s) := rfl
theorem KP.bad (w : Nat) : KP s (.bad w) := trivial
theorem KP.okNat (k : IntKind) (n : Nat) : KP s (okNat k n s) := by cases n <;> rfl
theorem KP.okInt (k : IntKind) (n : Int) : KP s (okInt k n s) := by cases n with | ofNat m => exact KP.okNat k m | negSucc m => exact rfl
theorem KP.okBool (b : Bool) : KP s (okBool b s) := by cases b <;> rfl
theorem KP.okStr (l d : Nat) : KP s (okStr l d s) := by
  cases l with
  | zero => rfl
  | succ l => cases d <;> rfl
theorem KP.bool {b : Bool} {x y : RO} (hx : KP s x) (hy : KP s y) : KP s (Bool.rec (motive := fun _ => RO) x y b) := by cases b <;> assumption
theorem KP.ite {b : Bool} {x y : RO} (hx : KP s x) (hy : KP s y) : KP s (RO.ite b x y) := KP.bool hy hx
theorem KP.OV {x : RO} {f : V → RO} {o : OV} (hx : KP s x) (hf : ∀ v, KP s (f v)) : KP s (OV.rec (motive := fun _ => RO) x f o) := by cases o; exact hx; exact hf _
theorem KP.int {k : IntKind → Int → RO} {v : V} (h : ∀ a b, KP s (k a b)) : KP s (withInt v k) := by unfold withInt; cases V.int? v; trivial; exact h _ _
theorem KP.nat {k : Nat → RO} {v : V} (h : ∀ a, KP s (k a)) : KP s (withNat v k) := by
  unfold withNat
  cases V.int? v with
  | no => trivial
  | yes k' n => cases n; exact h _; trivial
theorem KP.wbool {v : V} {x y : RO} (hx : KP s x) (hy : KP s y) : KP s (withBool v x y) := by
  unfold withBool
  cases V.bool? v with
  | no => trivial
  | yes b => exact KP.bool hy hx
theorem KP.ptr {k : K → Nat → Nat → RO} {v : V} (h : ∀ a b c, KP s (k a b c)) : KP s (withPtr v k) := by unfold withPtr; cases V.ptr? v; trivial; exact h _ _ _
theorem KP.byte {k : Nat → RO} {v : V} (h : ∀ a, KP s (k a)) : KP s (withByte v k) := by
  refine KP.int fun kd a => KP.ite ?_ (KP.bad _)
  cases a with
  | ofNat m => exact KP.ite (h _) (KP.bad _)
  | negSucc m => trivial
theorem KP.i64 {k : Nat → RO} {v : V} (h : ∀ a, KP s (k a)) : KP s (withI64 v k) := by
  refine KP.int fun kd a => KP.ite ?_ (KP.bad _)
  cases a with
  | ofNat m => exact h _
  | negSucc m => trivial
theorem KP.str {k : Nat → Nat → RO} {v : V} (h : ∀ a b, KP s (k a b)) : KP s (withStr v k) := by unfold withStr; cases V.str? v; trivial; exact h _ _
theorem KP.wb {k : Bool → RO} {v : V} (h : ∀ a, KP s (k a)) : KP s (withB v k) := by unfold withB; cases V.bool? v; trivial; exact h _
theorem KP.row {f : K} {v : Nat} {k : Nat → Nat → V → RO} (h : ∀ a b c, KP s (k a b c)) : KP s (row f v s k) := by
  unfold Ev.row
  cases Obj.cells? (H4.at f s.h) with
  | no => trivial
  | yes e sz ro a b vs =>
    show KP s (OW.rec (motive := fun _ => RO) (.bad 23) (fun n ch => k sz n ch) (Ver.find v vs))
    cases Ver.find v vs; trivial; exact h _ _ _
theorem KP.load1 {f : K} {v o : Nat} {k : V → RO} (h : ∀ a, KP s (k a)) : KP s (load1 f v o s k) := by
  unfold Ev.load1
  exact KP.row fun a b c => KP.bool (h _) (KP.bad _)
theorem KP.loadN {size : Nat} {f : K} {v o : Nat} {k : V → RO} (h : ∀ a, KP s (k a)) : KP s (loadN size f v o s k) := by
  unfold Ev.loadN
  exact KP.row fun a b c => KP.bool (KP.bool (KP.bad _) (h _)) (KP.bool (KP.bad _) (h _))
theorem KP.onat {x : OpdO} {e : E2} {d : Nat} {k : Nat → RO} (h : ∀ a, KP s (k a)) : KP s (OpdO.nat x e d k) := by
  unfold OpdO.nat
  cases x
  · exact h _
  · exact KP.nat h
theorem KP.bits (f : Nat → Nat → Nat) (k : IntKind) (a b : Int) : KP s (bitsOp f k a b s) := by
  unfold bitsOp
  cases a with
  | negSucc m => trivial
  | ofNat m =>
    cases b with
    | negSucc n => trivial
    | ofNat n => exact KP.ite (KP.okNat _ _) (KP.bad _)
theorem KP.intBin (op : BinOp) (k : IntKind) (a b : Int) : KP s (intBin op k a b s) := by
  cases op <;> first
    | exact KP.bits _ _ _ _
    | exact KP.okInt _ _
    | exact KP.okBool _
    | exact KP.bad _
    | exact KP.bool (KP.okInt _ _) (KP.bad _)
theorem KP.strBin (op : BinOp) (a b c d : Nat) : KP s (strBin op a b c d s) := by
  cases op <;> first
    | exact KP.okBool _
    | exact KP.bad _
    | exact KP.bool (KP.bad _) (KP.okStr _ _)
theorem KP.evBin (op : BinOp) (x y : V) : KP s (evBin op x y s) := by
  unfold Ev.evBin
  cases V.int? x with
  | no =>
    show KP s (evBinS op x y s)
    unfold evBinS
    split
    · unfold symBin
      refine KP.int fun k b => KP.ite ?_ (KP.bad _)
      cases b with
      | negSucc m => trivial
      | ofNat m =>
        dsimp only
        split
        · exact KP.ite (KP.okNat _ _) (KP.bad _)
        · exact KP.ite (KP.okInt _ _) (KP.bad _)
        · trivial
    · exact KP.str fun _ _ => KP.str fun _ _ => KP.strBin _ _ _ _ _
  | yes k a => exact KP.int fun _ _ => KP.bool (KP.bad _) (KP.intBin _ _ _ _)
theorem KP.okCode (neg : Bool) (c : Nat) : KP s (okCode neg c s) := KP.bool (KP.bool (KP.bad _) (KP.okBool _)) (KP.okBool _)
theorem KP.fill {k : V → RO} {e : E2} (h : ∀ a, KP s (k a)) : ∀ {ps : PartL} {z : V}, KP s (fillParts ps e z k) := by
  intro ps
  induction ps with
  | nil => intro z; exact h _
  | cons off size x rest ih => intro z; exact KP.bool (KP.OV (KP.bad _) fun cs => KP.ite ih (KP.bad _)) (KP.ite ih (KP.bad _))

theorem evOp_KP {op : IOp} (hf : isFloat op = true) (e : E2) (s : St) : KP s (evOp op e s) := by
  cases op
  case mv x => exact KP.ok _
  case pick c a b => exact KP.wbool (KP.ok _) (KP.ok _)
  case build z ps => exact KP.fill fun _ => KP.ok _
  case ld1 x => exact KP.ptr fun _ _ _ => KP.load1 fun _ => KP.ok _
  case ldN sz x => exact KP.ptr fun _ _ _ => KP.loadN fun _ => KP.ok _
  case chk x => exact KP.bool (KP.bad _) (KP.ok _)
  case bin op x y => exact KP.evBin _ _ _
  case shift left x y =>
    refine KP.int fun k a => KP.nat fun n => KP.ite ?_ (KP.bad _)
    cases a with
    | ofNat m => exact KP.bool (KP.okNat _ _) (KP.okInt _ _)
    | negSucc m => trivial
  case eq neg x y => exact KP.okCode _ _
  case eqFlat neg cls x y => exact KP.okCode _ _
  case eqI neg tab x y =>
    show KP s (eqIface neg tab _ _ s)
    unfold eqIface
    split
    · exact KP.okBool _
    · exact KP.okBool _
    · refine KP.bool (KP.okBool _) ?_
      induction tab with
      | nil => exact KP.bad _
      | cons t a c rest ih => exact KP.bool (ih rfl) (KP.okCode _ _)
    · exact KP.bad _
  case eqB neg x y => exact KP.wb fun _ => KP.wb fun _ => KP.okBool _
  case eqNil neg kind x => exact KP.bool (KP.bool (KP.bad _) (KP.okBool _)) (KP.okBool _)
  case neg x => exact KP.int fun _ _ => KP.okInt _ _
  case not x => exact KP.wbool (KP.ok _) (KP.ok _)
  case cvI k x => exact KP.int fun _ _ => KP.okInt _ _
  case mkIf t x => exact KP.ok _
  case mkFn fn a b => exact KP.ok _
  case slice es x lo hi mx =>
    show KP s (evSlice es _ lo hi mx e s)
    unfold evSlice
    cases V.sl? (Opd.val x e) with
    | no => trivial
    | nils => exact KP.onat fun _ => KP.onat fun _ => KP.onat fun _ => KP.ite (KP.ok _) (KP.bad _)
    | yes f v o len cap ex es' => exact KP.onat fun _ => KP.onat fun _ => KP.onat fun _ => KP.ite (KP.ok _) (KP.bad _)
  case cut x lo hi => exact KP.str fun _ _ => KP.onat fun _ => KP.onat fun _ => KP.ite (KP.okStr _ _) (KP.bad _)
  case fld off x => exact KP.ptr fun _ _ _ => KP.ok _
  case part1 off x => exact KP.OV (KP.bad _) fun _ => KP.ite (KP.ok _) (KP.bad _)
  case partN off size x => exact KP.OV (KP.bad _) fun _ => KP.ite (KP.ok _) (KP.bad _)
  case ixA es x i =>
    show KP s (OL.rec (motive := fun _ => RO) _ _ _ (V.sl? (Opd.val x e)))
    cases V.sl? (Opd.val x e) with
    | no => trivial
    | nils => trivial
    | yes f v o len cap ex es' => exact KP.nat fun _ => KP.ite (KP.ok _) (KP.bad _)
  case ixArr len es x i => exact KP.ptr fun _ _ _ => KP.nat fun _ => KP.ite (KP.ok _) (KP.bad _)
  case ixS x i => exact KP.str fun _ _ => KP.nat fun _ => KP.ite (KP.okNat _ _) (KP.bad _)
  case ixV1 len x i => exact KP.OV (KP.bad _) fun _ => KP.nat fun _ => KP.ite (KP.ok _) (KP.bad _)
  case ixVN len es x i => exact KP.OV (KP.bad _) fun _ => KP.nat fun _ => KP.ite (KP.ok _) (KP.bad _)
  case ext i x => exact KP.OV (KP.bad _) fun _ => KP.ite (KP.ok _) (KP.bad _)
  case lenS x => exact KP.str fun _ _ => KP.okNat _ _
  case lenL x =>
    show KP s (OL.rec (motive := fun _ => RO) _ _ _ (V.sl? (Opd.val x e)))
    cases V.sl? (Opd.val x e) with
    | no => trivial
    | nils => exact KP.okNat _ _
    | yes f v o len cap ex es' => exact KP.okNat _ _
  case minmax max x y => exact KP.int fun _ _ => KP.int fun _ _ => KP.bool (KP.bool (KP.ok _) (KP.ok _)) (KP.bool (KP.ok _) (KP.ok _))
  case same x => exact KP.ok _
  case sameS x => exact KP.str fun _ _ => KP.ok _
  case toUns x =>
    show KP s (evToUns _ s)
    unfold evToUns
    split
    · exact KP.ok _
    · exact KP.row fun _ _ _ => KP.ite (KP.ok _) (KP.bad _)
    · exact KP.bad _
  case fromUns u es x =>
    show KP s (evFromUns u es _ s)
    unfold evFromUns
    split
    · exact KP.ok _
    · rename_i f v o _
      cases Obj.cells? (H4.at f s.h) with
      | no => trivial
      | yes elem sz ro a b vs =>
        show KP s (OW.rec (motive := fun _ => RO) _ _ (Ver.find v vs))
        cases Ver.find v vs with
        | no => trivial
        | yes n ch => exact KP.ite (KP.ok _) (KP.bad _)
    · exact KP.bad _
  case sdata x =>
    show KP s (OL.rec (motive := fun _ => RO) _ _ _ (V.sl? (Opd.val x e)))
    cases V.sl? (Opd.val x e) with
    | no => trivial
    | nils => exact KP.ok _
    | yes f v o len cap ex es' => cases cap with
      | zero => trivial
      | succ cap => exact KP.ok _
  case capL x =>
    show KP s (OL.rec (motive := fun _ => RO) _ _ _ (V.sl? (Opd.val x e)))
    cases V.sl? (Opd.val x e) with
    | no => trivial
    | nils => exact KP.okNat _ _
    | yes f v o len cap ex es' => exact KP.ite (KP.okNat _ _) (KP.bad _)
  case xCount x c => exact KP.str fun _ _ => KP.byte fun _ => KP.okNat _ _
  case xIndexByte x c => exact KP.str fun _ _ => KP.byte fun _ => KP.okInt _ _
  case lookM cls zero ok x k =>
    show KP s (RO.ite (keyOK cls _) (evLook cls zero ok _ _ s) (.bad 155))
    refine KP.ite ?_ (KP.bad _)
    unfold evLook
    have hres : ∀ (b : Bool) (y : V), KP s (lookRes ok b y s) := fun b y => KP.bool (KP.ok _) (KP.ok _)
    split
    · exact hres _ _
    · rename_i f v _
      cases H4.at f s.h with
      | map v' es clock =>
        refine KP.ite ?_ (KP.bad _)
        have key : ∀ es : V, KP s (mapFind cls (Opd.val k e) es (fun y => lookRes ok true y s) (lookRes ok false zero s)) := by
          intro es
          induction es with
          | cons h t _ ih => exact KP.bool (KP.bool (KP.bad _) ih) (hres _ _)
          | nil => exact hres _ _
          | _ => exact KP.bad _
        exact key es
      | _ => exact KP.bad _
    · exact KP.bad _
  case lenM x =>
    show KP s (evLenM _ s)
    unfold evLenM
    split
    · exact KP.okNat _ _
    · rename_i f v _
      cases H4.at f s.h with
      | map v' es clock => exact KP.ite (KP.okNat _ _) (KP.bad _)
      | _ => exact KP.bad _
    · exact KP.bad _
  all_goals (exact absurd hf (by simp [isFloat]))
end

/-- a row made ahead leaves all that was -/
theorem fresh_sub {op : IOp} (hf : isFresh op = true) {e : E2} {s s' : St} {v : V} (h : evOp op e s = .ok v s') (ρ : Rho) (base : Nat) : Sub ρ base s s' := by
  have key : ∀ {elem sz n : Nat} {ch : V} {mk : K → Nat → V}, alloc elem sz n ch s (fun f v s' => .ok (mk f v) s') = .ok v s' → Sub ρ base s s' := by
    intro elem sz n ch mk h
    obtain ⟨hnone, h1⟩ := alloc_inv h trivial
    injection h1 with h2 h3
    subst h3
    refine ⟨Nat.le_succ _, fun g w hW => hW.ahead hnone _ _ ?_⟩
    intro _ _ _ _ _ vs v n' ch' he hv
    injection he with _ _ _ _ _ e6
    subst e6
    rcases hv with ⟨h1, _, _⟩ | hv
    · exact h1.symm
    · exact hv.elim
  cases op
  case new elem sz z => exact key (mk := fun f v => .ptr f v 0) h
  case mkSl elem es len z ps =>
    have h : fillElems ps es len e (V.putElems (V.rep len z) 0 .nil) (fun ch => alloc elem es (Nat.mul len es) ch s fun f v s' => .ok (.sl f v 0 len len true es) s') = .ok v s' := h
    suffices hs : ∀ (ps : PartL) (z : V), fillElems ps es len e z (fun ch => alloc elem es (Nat.mul len es) ch s fun f v s' => .ok (.sl f v 0 len len true es) s') = .ok v s' → Sub ρ base s s' from hs _ _ h
    intro ps
    induction ps with
    | nil => intro z h; exact key (mk := fun f v => .sl f v 0 len len true es) h
    | cons off size x rest ih =>
      intro z h
      have h : Bool.rec (motive := fun _ => RO)
            (OV.rec (motive := fun _ => RO) (.bad 91) (fun cs => RO.ite (band (V.lenIs es cs) (Nat.ble (Nat.succ off) len)) (fillElems rest es len e (V.putElem off cs z) (fun ch => alloc elem es (Nat.mul len es) ch s fun f v s' => .ok (.sl f v 0 len len true es) s')) (.bad 91)) (V.agg? (x.val e)))
            (RO.ite (band (Nat.beq es 1) (Nat.ble (Nat.succ off) len)) (fillElems rest es len e (V.putElem off (.cons (x.val e) .nil) z) (fun ch => alloc elem es (Nat.mul len es) ch s fun f v s' => .ok (.sl f v 0 len len true es) s')) (.bad 91)) (isCell (x.val e)) = .ok v s' := h
      cases hc : isCell (x.val e) with
      | true =>
        rw [hc] at h
        exact ih _ (ite_inv h trivial).2
      | false =>
        rw [hc] at h
        obtain ⟨cs, _, h1⟩ := agg_inv h trivial
        exact ih _ (ite_inv h1 trivial).2
  all_goals (exact absurd hf (by simp [isFresh]))
end Go.Ev

namespace Go.Ev
set_option linter.unusedVariables false

/-! ## What looks at no memory: its result hangs on its operands alone -/
def PU (x y : RO) : Prop := match x with
  | .ok v _ => ∃ s', y = .ok v s'
  | _ => True

section
variable {s s2 : St}
theorem PU.ok (v : V) : PU (.ok v s) (.ok v s2) := ⟨_, rfl⟩
theorem PU.bad {y : RO} (w : Nat) : PU (.bad w) y := trivial
theorem PU.okNat (k : IntKind) (n : Nat) : PU (okNat k n s) (okNat k n s2) := by cases n <;> exact ⟨_, rfl⟩
theorem PU.okInt (k : IntKind) (n : Int) : PU (okInt k n s) (okInt k n s2) := by cases n with | ofNat m => exact PU.okNat k m | negSucc m => exact ⟨_, rfl⟩
theorem PU.okBool (b : Bool) : PU (okBool b s) (okBool b s2) := by cases b <;> exact ⟨_, rfl⟩
theorem PU.okStr (l d : Nat) : PU (okStr l d s) (okStr l d s2) := by
  cases l with
  | zero => exact ⟨_, rfl⟩
  | succ l => cases d <;> exact ⟨_, rfl⟩
theorem PU.bool {b : Bool} {x y x' y' : RO} (hx : PU x x') (hy : PU y y') : PU (Bool.rec (motive := fun _ => RO) x y b) (Bool.rec (motive := fun _ => RO) x' y' b) := by cases b <;> assumption
theorem PU.ite {b : Bool} {x y x' y' : RO} (hx : PU x x') (hy : PU y y') : PU (RO.ite b x y) (RO.ite b x' y') := PU.bool hy hx
theorem PU.OV {x x' : RO} {f f' : V → RO} {o : OV} (hx : PU x x') (hf : ∀ v, PU (f v) (f' v)) : PU (OV.rec (motive := fun _ => RO) x f o) (OV.rec (motive := fun _ => RO) x' f' o) := by cases o; exact hx; exact hf _
theorem PU.int {k k' : IntKind → Int → RO} {v : V} (h : ∀ a b, PU (k a b) (k' a b)) : PU (withInt v k) (withInt v k') := by unfold withInt; cases V.int? v; trivial; exact h _ _
theorem PU.nat {k k' : Nat → RO} {v : V} (h : ∀ a, PU (k a) (k' a)) : PU (withNat v k) (withNat v k') := by
  unfold withNat
  cases V.int? v with
  | no => trivial
  | yes kd n => cases n; exact h _; trivial
theorem PU.wbool {v : V} {x y x' y' : RO} (hx : PU x x') (hy : PU y y') : PU (withBool v x y) (withBool v x' y') := by
  unfold withBool
  cases V.bool? v with
  | no => trivial
  | yes b => exact PU.bool hy hx
theorem PU.ptr {k k' : K → Nat → Nat → RO} {v : V} (h : ∀ a b c, PU (k a b c) (k' a b c)) : PU (withPtr v k) (withPtr v k') := by unfold withPtr; cases V.ptr? v; trivial; exact h _ _ _
theorem PU.byte {k k' : Nat → RO} {v : V} (h : ∀ a, PU (k a) (k' a)) : PU (withByte v k) (withByte v k') := by
  refine PU.int fun kd a => PU.ite ?_ (PU.bad _)
  cases a with
  | ofNat m => exact PU.ite (h _) (PU.bad _)
  | negSucc m => trivial
theorem PU.str {k k' : Nat → Nat → RO} {v : V} (h : ∀ a b, PU (k a b) (k' a b)) : PU (withStr v k) (withStr v k') := by unfold withStr; cases V.str? v; trivial; exact h _ _
theorem PU.wb {k k' : Bool → RO} {v : V} (h : ∀ a, PU (k a) (k' a)) : PU (withB v k) (withB v k') := by unfold withB; cases V.bool? v; trivial; exact h _
theorem PU.onat {x : OpdO} {e : E2} {d : Nat} {k k' : Nat → RO} (h : ∀ a, PU (k a) (k' a)) : PU (OpdO.nat x e d k) (OpdO.nat x e d k') := by
  unfold OpdO.nat
  cases x
  · exact h _
  · exact PU.nat h
theorem PU.bits (f : Nat → Nat → Nat) (k : IntKind) (a b : Int) : PU (bitsOp f k a b s) (bitsOp f k a b s2) := by
  unfold bitsOp
  cases a with
  | negSucc m => trivial
  | ofNat m =>
    cases b with
    | negSucc n => trivial
    | ofNat n => exact PU.ite (PU.okNat _ _) (PU.bad _)
theorem PU.intBin (op : BinOp) (k : IntKind) (a b : Int) : PU (intBin op k a b s) (intBin op k a b s2) := by
  cases op <;> first
    | exact PU.bits _ _ _ _
    | exact PU.okInt _ _
    | exact PU.okBool _
    | exact PU.bad _
    | exact PU.bool (PU.okInt _ _) (PU.bad _)
theorem PU.strBin (op : BinOp) (a b c d : Nat) : PU (strBin op a b c d s) (strBin op a b c d s2) := by
  cases op <;> first
    | exact PU.okBool _
    | exact PU.bad _
    | exact PU.bool (PU.bad _) (PU.okStr _ _)
theorem PU.evBin (op : BinOp) (x y : V) : PU (evBin op x y s) (evBin op x y s2) := by
  unfold Ev.evBin
  cases V.int? x with
  | no =>
    show PU (evBinS op x y s) (evBinS op x y s2)
    unfold evBinS
    split
    · unfold symBin
      refine PU.int fun k b => PU.ite ?_ (PU.bad _)
      cases b with
      | negSucc m => trivial
      | ofNat m =>
        dsimp only
        split
        · exact PU.ite (PU.okNat _ _) (PU.bad _)
        · exact PU.ite (PU.okInt _ _) (PU.bad _)
        · trivial
    · exact PU.str fun _ _ => PU.str fun _ _ => PU.strBin _ _ _ _ _
  | yes k a => exact PU.int fun _ _ => PU.bool (PU.bad _) (PU.intBin _ _ _ _)
theorem PU.okCode (neg : Bool) (c : Nat) : PU (okCode neg c s) (okCode neg c s2) := PU.bool (PU.bool (PU.bad _) (PU.okBool _)) (PU.okBool _)
theorem PU.fill {k k' : V → RO} {e : E2} (h : ∀ a, PU (k a) (k' a)) : ∀ {ps : PartL} {z : V}, PU (fillParts ps e z k) (fillParts ps e z k') := by
  intro ps
  induction ps with
  | nil => intro z; exact h _
  | cons off size x rest ih => intro z; exact PU.bool (PU.OV (PU.bad _) fun cs => PU.ite ih (PU.bad _)) (PU.ite ih (PU.bad _))

theorem evOp_PU {op : IOp} (hf : isPure op = true) (e : E2) (s s2 : St) : PU (evOp op e s) (evOp op e s2) := by
  cases op
  case mv x => exact PU.ok _
  case pick c a b => exact PU.wbool (PU.ok _) (PU.ok _)
  case build z ps => exact PU.fill fun _ => PU.ok _
  case chk x => exact PU.bool (PU.bad _) (PU.ok _)
  case bin op x y => exact PU.evBin _ _ _
  case shift left x y =>
    refine PU.int fun k a => PU.nat fun n => PU.ite ?_ (PU.bad _)
    cases a with
    | ofNat m => exact PU.bool (PU.okNat _ _) (PU.okInt _ _)
    | negSucc m => trivial
  case eqFlat neg cls x y => exact PU.okCode _ _
  case eqI neg tab x y =>
    show PU (eqIface neg tab _ _ s) (eqIface neg tab _ _ s2)
    unfold eqIface
    split
    · exact PU.okBool _
    · exact PU.okBool _
    · refine PU.bool (PU.okBool _) ?_
      induction tab with
      | nil => exact PU.bad _
      | cons t a c rest ih => exact PU.bool (ih rfl) (PU.okCode _ _)
    · exact PU.bad _
  case eqB neg x y => exact PU.wb fun _ => PU.wb fun _ => PU.okBool _
  case eqNil neg kind x => exact PU.bool (PU.bool (PU.bad _) (PU.okBool _)) (PU.okBool _)
  case neg x => exact PU.int fun _ _ => PU.okInt _ _
  case not x => exact PU.wbool (PU.ok _) (PU.ok _)
  case cvI k x => exact PU.int fun _ _ => PU.okInt _ _
  case mkIf t x => exact PU.ok _
  case mkFn fn a b => exact PU.ok _
  case slice es x lo hi mx =>
    show PU (evSlice es _ lo hi mx e s) (evSlice es _ lo hi mx e s2)
    unfold evSlice
    cases V.sl? (Opd.val x e) with
    | no => trivial
    | nils => exact PU.onat fun _ => PU.onat fun _ => PU.onat fun _ => PU.ite (PU.ok _) (PU.bad _)
    | yes f v o len cap ex es' => exact PU.onat fun _ => PU.onat fun _ => PU.onat fun _ => PU.ite (PU.ok _) (PU.bad _)
  case cut x lo hi => exact PU.str fun _ _ => PU.onat fun _ => PU.onat fun _ => PU.ite (PU.okStr _ _) (PU.bad _)
  case fld off x => exact PU.ptr fun _ _ _ => PU.ok _
  case part1 off x => exact PU.OV (PU.bad _) fun _ => PU.ite (PU.ok _) (PU.bad _)
  case partN off size x => exact PU.OV (PU.bad _) fun _ => PU.ite (PU.ok _) (PU.bad _)
  case ixA es x i =>
    show PU (OL.rec (motive := fun _ => RO) _ _ _ (V.sl? (Opd.val x e))) (OL.rec (motive := fun _ => RO) _ _ _ (V.sl? (Opd.val x e)))
    cases V.sl? (Opd.val x e) with
    | no => trivial
    | nils => trivial
    | yes f v o len cap ex es' => exact PU.nat fun _ => PU.ite (PU.ok _) (PU.bad _)
  case ixArr len es x i => exact PU.ptr fun _ _ _ => PU.nat fun _ => PU.ite (PU.ok _) (PU.bad _)
  case ixS x i => exact PU.str fun _ _ => PU.nat fun _ => PU.ite (PU.okNat _ _) (PU.bad _)
  case ixV1 len x i => exact PU.OV (PU.bad _) fun _ => PU.nat fun _ => PU.ite (PU.ok _) (PU.bad _)
  case ixVN len es x i => exact PU.OV (PU.bad _) fun _ => PU.nat fun _ => PU.ite (PU.ok _) (PU.bad _)
  case ext i x => exact PU.OV (PU.bad _) fun _ => PU.ite (PU.ok _) (PU.bad _)
  case lenS x => exact PU.str fun _ _ => PU.okNat _ _
  case lenL x =>
    show PU (OL.rec (motive := fun _ => RO) _ _ _ (V.sl? (Opd.val x e))) (OL.rec (motive := fun _ => RO) _ _ _ (V.sl? (Opd.val x e)))
    cases V.sl? (Opd.val x e) with
    | no => trivial
    | nils => exact PU.okNat _ _
    | yes f v o len cap ex es' => exact PU.okNat _ _
  case minmax max x y => exact PU.int fun _ _ => PU.int fun _ _ => PU.bool (PU.bool (PU.ok _) (PU.ok _)) (PU.bool (PU.ok _) (PU.ok _))
  case same x => exact PU.ok _
  case sameS x => exact PU.str fun _ _ => PU.ok _
  case sdata x =>
    show PU (OL.rec (motive := fun _ => RO) _ _ _ (V.sl? (Opd.val x e))) (OL.rec (motive := fun _ => RO) _ _ _ (V.sl? (Opd.val x e)))
    cases V.sl? (Opd.val x e) with
    | no => trivial
    | nils => exact PU.ok _
    | yes f v o len cap ex es' => cases cap with
      | zero => trivial
      | succ cap => exact PU.ok _
  case capL x =>
    show PU (OL.rec (motive := fun _ => RO) _ _ _ (V.sl? (Opd.val x e))) (OL.rec (motive := fun _ => RO) _ _ _ (V.sl? (Opd.val x e)))
    cases V.sl? (Opd.val x e) with
    | no => trivial
    | nils => exact PU.okNat _ _
    | yes f v o len cap ex es' => exact PU.ite (PU.okNat _ _) (PU.bad _)
  case xCount x c => exact PU.str fun _ _ => PU.byte fun _ => PU.okNat _ _
  case xIndexByte x c => exact PU.str fun _ _ => PU.byte fun _ => PU.okInt _ _
  all_goals (cases hf)
end
end Go.Ev

namespace Go.Ev
set_option linter.unusedVariables false

/-! ## The walk through a drawn region -/
theorem guarded_inv {call : Nat → V → St → RC} {d : DEnt} {e : E2} {s s' : St} {v : V} (h : guarded call d e s = .ok v s') :
    (Gd.ok d.gd e = false ∧ v = .undef ∧ s' = s) ∨ (Gd.ok d.gd e = true ∧ evOp d.op e s = .ok v s') ∨ (Gd.ok d.gd e = true ∧ ∃ f as s1, evOp d.op e s = .call f as s1 ∧ call f as s1 = .ok v s') := by
  unfold guarded at h
  cases hg : Gd.ok d.gd e with
  | false =>
    rw [hg] at h
    have h : RC.ok .undef s = .ok v s' := h
    injection h with h1 h2
    exact .inl ⟨rfl, h1.symm, h2.symm⟩
  | true =>
    rw [hg] at h
    have h : evEff call d.op e s = .ok v s' := h
    unfold evEff at h
    cases ho : evOp d.op e s with
    | ok v1 s1 =>
      rw [ho] at h
      have h : RC.ok v1 s1 = .ok v s' := h
      injection h with h1 h2
      subst h1 h2
      exact .inr (.inl ⟨rfl, rfl⟩)
    | call f as s1 =>
      rw [ho] at h
      exact .inr (.inr ⟨rfl, f, as, s1, rfl, h⟩)
    | bad w =>
      rw [ho] at h
      have h : RC.bad w = .ok v s' := h
      cases h

def EffFact (call : Nat → V → St → RC) (e0 : E2) (d : DEnt) (vs : E2) (t s' : St) : Prop :=
  (Gd.ok d.gd (envOf vs e0 d.lk) = false ∧ E2.rd d.ix vs = .undef ∧ s' = t) ∨ (Gd.ok d.gd (envOf vs e0 d.lk) = true ∧ evOp d.op (envOf vs e0 d.lk) t = .ok (E2.rd d.ix vs) s') ∨
  (Gd.ok d.gd (envOf vs e0 d.lk) = true ∧ ∃ f as s1, evOp d.op (envOf vs e0 d.lk) t = .call f as s1 ∧ call f as s1 = .ok (E2.rd d.ix vs) s')

def entOrd : List DEnt → Prop
  | [] => True
  | d :: l => d.ix < 256 ∧ (∀ x ∈ l, x.ix ≠ d.ix) ∧ (∀ q ∈ d.lk, q.2 < 256 ∧ q.2 ≠ d.ix ∧ ∀ x ∈ l, x.ix ≠ q.2) ∧
    ((d.kind = 0 ∧ isFloat d.op = true) ∨ (d.kind = 2 ∧ isFresh d.op = true) ∨ d.kind = 1) ∧ (d.kind = 1 → ∀ x ∈ l, x.kind ≠ 2) ∧ entOrd l

noncomputable def isEff (d : DEnt) : Bool := Nat.beq d.kind 1

theorem ph1_spec {call : Nat → V → St → RC} {e0 : E2} (ρ : Rho) (base : Nat) : ∀ {l : List DEnt} {vs vs' : E2} {s : St} {ts : List St}, ph1 call e0 l vs s = .ok vs' ts → entOrd l →
    (∀ q, q < 256 → (∀ d ∈ l, d.ix ≠ q) → E2.rd q vs' = E2.rd q vs) ∧ (∃ t0 rest, ts = t0 :: rest ∧ Sub ρ base s t0 ∧ ((∀ x ∈ l, x.kind ≠ 2) → t0 = s)) ∧ ts.length = (l.filter isEff).length + 1 ∧
    ∀ (k : Nat) (d : DEnt), (l.filter isEff)[k]? = some d → ∃ t1 t2, ts[k]? = some t1 ∧ ts[k + 1]? = some t2 ∧ EffFact call e0 d vs' t1 t2
  | [], vs, vs', s, ts, h, _ => by
    simp only [ph1, PR.ok.injEq] at h
    obtain ⟨rfl, rfl⟩ := h
    exact ⟨fun _ _ _ => rfl, ⟨s, [], rfl, .refl _ _ _, fun _ => rfl⟩, rfl, fun k d hk => by simp at hk⟩
  | d :: l, vs, vs', s, ts, h, ho => by
    obtain ⟨hix, hne, hlk, hkind, hno2, ho'⟩ := ho
    have h : RC.rec (motive := fun _ => PR)
      (fun v s' => Bool.rec (motive := fun _ => PR) (ph1 call e0 l (E2.wr d.ix v vs) s') (PR.cons s (ph1 call e0 l (E2.wr d.ix v vs) s')) (Nat.beq d.kind 1))
      (fun w => .bad w) (guarded call d (envOf vs e0 d.lk) s) = .ok vs' ts := by simpa only [ph1] using h
    cases hgd : guarded call d (envOf vs e0 d.lk) s with
    | bad w => rw [hgd] at h; have h : PR.bad w = .ok vs' ts := h; cases h
    | ok v s1 =>
      rw [hgd] at h
      have h : Bool.rec (motive := fun _ => PR) (ph1 call e0 l (E2.wr d.ix v vs) s1) (PR.cons s (ph1 call e0 l (E2.wr d.ix v vs) s1)) (Nat.beq d.kind 1) = .ok vs' ts := h
      have hcases := guarded_inv hgd
      have common : ∀ {ts'}, ph1 call e0 l (E2.wr d.ix v vs) s1 = .ok vs' ts' → (∀ q, q < 256 → (∀ x ∈ d :: l, x.ix ≠ q) → E2.rd q vs' = E2.rd q vs) ∧ E2.rd d.ix vs' = v ∧ envOf vs e0 d.lk = envOf vs' e0 d.lk := by
        intro ts' hp
        obtain ⟨g1, _⟩ := ph1_spec ρ base hp ho'
        refine ⟨fun q hq hx => ?_, ?_, envOf_congr fun q hq => ?_⟩
        · rw [g1 q hq fun x hx' => hx x (List.mem_cons_of_mem _ hx'), rd_wr hq hix, if_neg (fun h => hx d (List.mem_cons_self ..) h.symm)]
        · rw [g1 d.ix hix hne, rd_wr hix hix, if_pos rfl]
        · obtain ⟨q1, q2, q3⟩ := hlk q hq
          rw [g1 q.2 q1 q3, rd_wr q1 hix, if_neg q2]
      cases hb : Nat.beq d.kind 1 with
      | false =>
        rw [hb] at h
        have h : ph1 call e0 l (E2.wr d.ix v vs) s1 = .ok vs' ts := h
        obtain ⟨c1, c2, c3⟩ := common h
        obtain ⟨g1, ⟨t0, rest, rfl, hsub, heq⟩, g3, g4⟩ := ph1_spec ρ base h ho'
        have hne1 : d.kind ≠ 1 := fun he => by rw [beq_iff.2 he] at hb; cases hb
        have hsub0 : Sub ρ base s s1 := by
          rcases hkind with ⟨_, hf⟩ | ⟨_, hf⟩ | hk
          · have hkp := evOp_KP hf (envOf vs e0 d.lk) s
            rcases hcases with ⟨_, _, rfl⟩ | ⟨_, he⟩ | ⟨_, f, as, s2, he, _⟩
            · exact .refl _ _ _
            · rw [he] at hkp
              have hkp : s1 = s := hkp
              rw [hkp]; exact .refl _ _ _
            · rw [he] at hkp; exact hkp.elim
          · rcases hcases with ⟨_, _, rfl⟩ | ⟨_, he⟩ | ⟨_, f, as, s2, he, _⟩
            · exact .refl _ _ _
            · exact fresh_sub hf he ρ base
            · exfalso
              have : ∀ {op : IOp}, isFresh op = true → ∀ {e : E2} {s : St} {f as s2}, evOp op e s = .call f as s2 → False := by
                intro op hf e s f as s2 h
                have al : ∀ {elem sz n : Nat} {ch : V} {mk : K → Nat → V}, alloc elem sz n ch s (fun f v s' => .ok (mk f v) s') = .call f as s2 → False := by
                  intro elem sz n ch mk h
                  obtain ⟨_, h1⟩ := alloc_inv h trivial
                  cases h1
                cases op
                case new elem sz z => exact al (mk := fun f v => .ptr f v 0) h
                case mkSl elem es len z ps =>
                  have h : fillElems ps es len e (V.putElems (V.rep len z) 0 .nil) (fun ch => alloc elem es (Nat.mul len es) ch s fun f v s' => .ok (.sl f v 0 len len true es) s') = .call f as s2 := h
                  suffices hs : ∀ (ps : PartL) (z : V), fillElems ps es len e z (fun ch => alloc elem es (Nat.mul len es) ch s fun f v s' => .ok (.sl f v 0 len len true es) s') = .call f as s2 → False from hs _ _ h
                  intro ps
                  induction ps with
                  | nil => intro z h; exact al (mk := fun f v => .sl f v 0 len len true es) h
                  | cons off size x rest ih =>
                    intro z h
                    have h : Bool.rec (motive := fun _ => RO)
                          (OV.rec (motive := fun _ => RO) (.bad 91) (fun cs => RO.ite (band (V.lenIs es cs) (Nat.ble (Nat.succ off) len)) (fillElems rest es len e (V.putElem off cs z) (fun ch => alloc elem es (Nat.mul len es) ch s fun f v s' => .ok (.sl f v 0 len len true es) s')) (.bad 91)) (V.agg? (x.val e)))
                          (RO.ite (band (Nat.beq es 1) (Nat.ble (Nat.succ off) len)) (fillElems rest es len e (V.putElem off (.cons (x.val e) .nil) z) (fun ch => alloc elem es (Nat.mul len es) ch s fun f v s' => .ok (.sl f v 0 len len true es) s')) (.bad 91)) (isCell (x.val e)) = .call f as s2 := h
                    cases hc : isCell (x.val e) with
                    | true =>
                      rw [hc] at h
                      exact ih _ (ite_inv h trivial).2
                    | false =>
                      rw [hc] at h
                      obtain ⟨cs, _, h1⟩ := agg_inv h trivial
                      exact ih _ (ite_inv h1 trivial).2
                all_goals (exact absurd hf (by simp [isFresh]))
              exact this hf he
          · exact absurd hk hne1
        have hfilt : (d :: l).filter isEff = l.filter isEff := by
          rw [List.filter_cons, if_neg (by unfold isEff; rw [hb]; simp)]
        rw [hfilt]
        refine ⟨c1, ⟨t0, rest, rfl, hsub0.trans hsub, fun hx => ?_⟩, g3, g4⟩
        rw [heq fun x hx' => hx x (List.mem_cons_of_mem _ hx')]
        rcases hkind with ⟨_, hf⟩ | ⟨h2, hf⟩ | hk
        · have hkp := evOp_KP hf (envOf vs e0 d.lk) s
          rcases hcases with ⟨_, _, h3⟩ | ⟨_, he⟩ | ⟨_, f, as, s2, he, _⟩
          · exact h3
          · rw [he] at hkp; exact hkp
          · rw [he] at hkp; exact hkp.elim
        · exact absurd h2 (hx d (List.mem_cons_self ..))
        · exact absurd hk hne1
      | true =>
        rw [hb] at h
        have h : PR.cons s (ph1 call e0 l (E2.wr d.ix v vs) s1) = .ok vs' ts := h
        cases hp : ph1 call e0 l (E2.wr d.ix v vs) s1 with
        | bad w => rw [hp] at h; have h : PR.bad w = .ok vs' ts := h; cases h
        | ok vs2 ts2 =>
          rw [hp] at h
          have h : PR.ok vs2 (s :: ts2) = .ok vs' ts := h
          injection h with h1 h2
          subst h1 h2
          obtain ⟨c1, c2, c3⟩ := common hp
          obtain ⟨g1, ⟨t0, rest, rfl, hsub, heq⟩, g3, g4⟩ := ph1_spec ρ base hp ho'
          have hfilt : (d :: l).filter isEff = d :: l.filter isEff := by
            rw [List.filter_cons, if_pos (by unfold isEff; rw [hb])]
          rw [hfilt]
          refine ⟨c1, ⟨s, t0 :: rest, rfl, .refl _ _ _, fun _ => rfl⟩, by simp only [List.length_cons] at g3 ⊢; omega, ?_⟩
          intro k x hk
          cases k with
          | zero =>
            injection (show some d = some x from hk) with hk
            subst hk
            refine ⟨s, t0, rfl, rfl, ?_⟩
            unfold EffFact
            rw [← c3, c2, heq (hno2 (beq_iff.1 hb))]
            exact hcases
          | succ k =>
            obtain ⟨t1, t2, e1, e2, e4⟩ := g4 k x hk
            exact ⟨t1, t2, e1, e2, e4⟩

theorem nodup_idx {α : Type} {x : α} : ∀ {l : List α} {i j : Nat}, l.Nodup → l[i]? = some x → l[j]? = some x → i = j
  | [], i, _, _, h, _ => by simp at h
  | a :: l, 0, 0, _, _, _ => rfl
  | a :: l, i + 1, j + 1, hn, hi, hj => by
    rw [nodup_idx (l := l) (List.nodup_cons.1 hn).2 hi hj]
  | a :: l, 0, j + 1, hn, hi, hj => by
    injection (show some a = some x from hi) with hi
    subst hi
    exact absurd (List.mem_of_getElem? (show l[j]? = some a from hj)) (List.nodup_cons.1 hn).1
  | a :: l, i + 1, 0, hn, hi, hj => by
    injection (show some a = some x from hj) with hj
    subst hj
    exact absurd (List.mem_of_getElem? (show l[i]? = some a from hi)) (List.nodup_cons.1 hn).1

theorem mem_take_idx {α : Type} {x : α} {l : List α} {n k : Nat} (hn : l.Nodup) (hk : l[k]? = some x) : x ∈ l.take n ↔ k < n := by
  constructor
  · intro h
    obtain ⟨j, hj⟩ := List.mem_iff_getElem?.1 h
    rw [List.getElem?_take] at hj
    split at hj
    · rename_i hlt
      rw [nodup_idx hn hk hj]
      exact hlt
    · cases hj
  · intro h
    exact List.mem_of_getElem? (i := k) (by rw [List.getElem?_take, if_pos h]; exact hk)

/-- what each of them gave -/
theorem ph1_fact {call : Nat → V → St → RC} {e0 : E2} (ρ : Rho) (base : Nat) : ∀ {l : List DEnt} {vs vs' : E2} {s : St} {ts : List St}, ph1 call e0 l vs s = .ok vs' ts → entOrd l → ∀ d ∈ l, ∃ t s', EffFact call e0 d vs' t s'
  | [], vs, vs', s, ts, h, _, d, hd => by cases hd
  | x :: l, vs, vs', s, ts, h, ho, d, hd => by
    obtain ⟨hix, hne, hlk, hkind, hno2, ho'⟩ := ho
    have h : RC.rec (motive := fun _ => PR)
      (fun v s' => Bool.rec (motive := fun _ => PR) (ph1 call e0 l (E2.wr x.ix v vs) s') (PR.cons s (ph1 call e0 l (E2.wr x.ix v vs) s')) (Nat.beq x.kind 1))
      (fun w => .bad w) (guarded call x (envOf vs e0 x.lk) s) = .ok vs' ts := h
    cases hgd : guarded call x (envOf vs e0 x.lk) s with
    | bad w => rw [hgd] at h; have h : PR.bad w = .ok vs' ts := h; cases h
    | ok v s1 =>
      rw [hgd] at h
      have h : Bool.rec (motive := fun _ => PR) (ph1 call e0 l (E2.wr x.ix v vs) s1) (PR.cons s (ph1 call e0 l (E2.wr x.ix v vs) s1)) (Nat.beq x.kind 1) = .ok vs' ts := h
      obtain ⟨ts', hp⟩ : ∃ ts', ph1 call e0 l (E2.wr x.ix v vs) s1 = .ok vs' ts' := by
        cases hb : Nat.beq x.kind 1 with
        | false => rw [hb] at h; exact ⟨ts, h⟩
        | true =>
          rw [hb] at h
          have h : PR.cons s (ph1 call e0 l (E2.wr x.ix v vs) s1) = .ok vs' ts := h
          cases hp : ph1 call e0 l (E2.wr x.ix v vs) s1 with
          | bad w => rw [hp] at h; have h : PR.bad w = .ok vs' ts := h; cases h
          | ok vs1 ts1 =>
            rw [hp] at h
            have h : PR.ok vs1 (s :: ts1) = .ok vs' ts := h
            injection h with h1 _
            subst h1
            exact ⟨ts1, rfl⟩
      rcases List.mem_cons.1 hd with rfl | hd
      · obtain ⟨g1, _⟩ := ph1_spec ρ base hp ho'
        have c2 : E2.rd d.ix vs' = v := by rw [g1 d.ix hix hne, rd_wr hix hix, if_pos rfl]
        have c3 : envOf vs e0 d.lk = envOf vs' e0 d.lk := envOf_congr fun q hq => by
          obtain ⟨q1, q2, q3⟩ := hlk q hq
          rw [g1 q.2 q1 q3, rd_wr q1 hix, if_neg q2]
        refine ⟨s, s1, ?_⟩
        unfold EffFact
        rw [← c3, c2]
        rcases guarded_inv hgd with ⟨h1, h2, h3⟩ | ⟨h1, h2⟩ | ⟨h1, f, as, s2, h2, h3⟩
        · exact .inl ⟨h1, h2, h3⟩
        · exact .inr (.inl ⟨h1, h2⟩)
        · exact .inr (.inr ⟨h1, f, as, s2, h2, h3⟩)
      · exact ph1_fact ρ base hp ho' d hd
end Go.Ev

namespace Go.Ev
set_option linter.unusedVariables false

section
variable {P : Program} {gs : Nat → Bool} {ρ : Rho} {base nt : Nat} {ops : Array Oper} {p : Plan}

theorem blt_iff {a b : Nat} : Nat.blt a b = true ↔ a < b := ble_iff

theorem permOK_nodup : ∀ {l : List Nat}, permOK p ops nt l = true → l.Nodup
  | [], _ => List.nodup_nil
  | i :: l, h => by
    simp only [permOK, Bool.and_eq_true, Bool.not_eq_true', List.contains_eq_mem, decide_eq_false_iff_not] at h
    exact List.nodup_cons.2 ⟨h.1, permOK_nodup h.2.2.2⟩

theorem pairsOK_idx : ∀ {l : List Nat} {i j a b : Nat}, pairsOK p l = true → l[i]? = some a → l[j]? = some b → i < j → a ∈ p.B b ∨ (p.dia = true ∧ i + 2 = l.length)
  | [], i, j, a, b, _, h, _, _ => by simp at h
  | x :: l, 0, 0, a, b, _, _, _, h => absurd h (Nat.lt_irrefl _)
  | x :: l, 0, j + 1, a, b, h, hi, hj, _ => by
    injection (show some x = some a from hi) with hi
    subst hi
    simp only [pairsOK, Bool.and_eq_true, Bool.or_eq_true, List.all_eq_true] at h
    have hb := List.mem_of_getElem? (show l[j]? = some b from hj)
    rcases h.1 with h1 | h1
    · have := h1 b hb
      exact .inl (by simpa using this)
    · exact .inr ⟨h1.1, by have := beq_iff.1 h1.2; simp only [List.length_cons]; omega⟩
  | x :: l, i + 1, 0, a, b, _, _, _, h => absurd h (Nat.not_lt_zero _)
  | x :: l, i + 1, j + 1, a, b, h, hi, hj, hlt => by
    simp only [pairsOK, Bool.and_eq_true] at h
    rcases pairsOK_idx (l := l) h.2 hi hj (by omega) with h1 | ⟨h1, h2⟩
    · exact .inl h1
    · exact .inr ⟨h1, by simp only [List.length_cons]; omega⟩

theorem ent_spec {i : Nat} {d : DEnt} (h : entOf P gs ops nt p i = some d) : ∃ o iop dd gd, ops[i]? = some o ∧ compOp P gs nt o.op = some iop ∧ compDst nt o.dst = some dd ∧ compGd ops nt o.guard = some gd ∧
    ((p.cls i = 0 ∧ isFloat iop = true) ∨ (p.cls i = 2 ∧ isFresh iop = true) ∨ p.cls i = 1) ∧ d = ⟨i, iop, gd, lkOf p ops nt i o, p.cls i, bif Nat.beq (p.cls i) 1 then [] else p.nodesOf i⟩ := by
  unfold entOf at h
  cases ho : ops[i]? with
  | none => rw [ho] at h; cases h
  | some o =>
    rw [ho] at h
    dsimp only at h
    cases h1 : compOp P gs nt o.op with
    | none => rw [h1] at h; cases h
    | some iop =>
      cases h2 : compDst nt o.dst with
      | none => rw [h1, h2] at h; cases h
      | some dd =>
        cases h3 : compGd ops nt o.guard with
        | none => rw [h1, h2, h3] at h; cases h
        | some gd =>
          rw [h1, h2, h3] at h
          dsimp only at h
          split at h
          · rename_i hc
            injection h with h
            simp only [Bool.or_eq_true, Bool.and_eq_true, beq_iff] at hc
            exact ⟨o, iop, dd, gd, rfl, h1, h2, h3, hc, h.symm⟩
          · cases h

theorem ents_spec : ∀ {is : List Nat} {l : List DEnt}, entsOf P gs ops nt p is = some l → l.map (·.ix) = is ∧ (∀ d ∈ l, ∃ i ∈ is, entOf P gs ops nt p i = some d) ∧ (∀ i ∈ is, ∃ d ∈ l, entOf P gs ops nt p i = some d) ∧
    (l.filter isEff).map (·.ix) = is.filter (fun i => Nat.beq (p.cls i) 1)
  | [], l, h => by
    injection h with h
    subst h
    exact ⟨rfl, fun d hd => (by cases hd), fun i hi => (by cases hi), rfl⟩
  | i :: is, l, h => by
    simp only [entsOf] at h
    cases h1 : entOf P gs ops nt p i with
    | none => rw [h1] at h; cases h
    | some d =>
      cases h2 : entsOf P gs ops nt p is with
      | none => rw [h1, h2] at h; cases h
      | some l2 =>
        rw [h1, h2] at h
        injection h with h
        subst h
        obtain ⟨g1, g2, g3, g4⟩ := ents_spec h2
        obtain ⟨o, iop, dd, gd, e1, e2, e3, e4, e5, e6⟩ := ent_spec h1
        have hix : d.ix = i := by rw [e6]
        have hk : d.kind = p.cls i := by rw [e6]
        refine ⟨by rw [List.map_cons, g1, hix], ?_, ?_, ?_⟩
        · intro x hx
          rcases List.mem_cons.1 hx with rfl | hx
          · exact ⟨i, List.mem_cons_self .., h1⟩
          · obtain ⟨j, hj, hj2⟩ := g2 x hx
            exact ⟨j, List.mem_cons_of_mem _ hj, hj2⟩
        · intro j hj
          rcases List.mem_cons.1 hj with rfl | hj
          · exact ⟨d, List.mem_cons_self .., h1⟩
          · obtain ⟨x, hx, hx2⟩ := g3 j hj
            exact ⟨x, List.mem_cons_of_mem _ hx, hx2⟩
        · rw [List.filter_cons, List.filter_cons]
          unfold isEff at g4 ⊢
          rw [hk]
          split
          · rw [List.map_cons, g4, hix]
          · exact g4

theorem writer_spec {t j : Nat} (h : writer ops t = some j) : j < ops.size ∧ ∃ o, ops[j]? = some o ∧ o.dst = some t := by
  unfold writer at h
  have h1 := List.find?_some h
  have h2 := List.mem_range.1 (List.mem_of_find?_eq_some h)
  refine ⟨h2, ?_⟩
  unfold dstIs at h1
  cases ho : ops[j]? with
  | none => rw [ho] at h1; cases h1
  | some o => rw [ho] at h1; exact ⟨o, rfl, by simpa using h1⟩

theorem writer_none {t : Nat} (h : writer ops t = none) (j : Nat) (o : Oper) (ho : ops[j]? = some o) : o.dst ≠ some t := by
  unfold writer at h
  rw [List.find?_eq_none] at h
  have := h j (List.mem_range.2 (Array.getElem?_eq_some_iff.1 ho).1)
  unfold dstIs at this
  rw [ho] at this
  simpa using this

theorem lk_mem0 {o : Oper} {q : Nat × Nat} (h : q ∈ lkOf0 ops nt o) : q.1 < nt ∧ q.1 ∈ o.looksAt ops ∧ writer ops q.1 = some q.2 := by
  unfold lkOf0 at h
  obtain ⟨t, ht, he⟩ := List.mem_filterMap.1 h
  split at he
  · rename_i hlt
    have hlt := (blt_iff).1 hlt
    cases hw : writer ops t with
    | none => rw [hw] at he; cases he
    | some j =>
      rw [hw] at he
      injection he with he
      subst he
      exact ⟨hlt, ht, hw⟩
  · cases he

theorem lk_of0 {o : Oper} {t j : Nat} (ht : t ∈ o.looksAt ops) (hlt : t < nt) (hw : writer ops t = some j) : (t, j) ∈ lkOf0 ops nt o := by
  unfold lkOf0
  refine List.mem_filterMap.2 ⟨t, ht, ?_⟩
  rw [if_pos (blt_iff.2 hlt), hw]
  rfl

theorem lk_mem {i : Nat} {o : Oper} {q : Nat × Nat} (h : q ∈ lkOf p ops nt i o) : q.1 < nt ∧ q.1 ∈ o.looksAt ops ∧ writer ops q.1 = some q.2 ∧ i ∉ p.B q.2 := by
  obtain ⟨h1, h2⟩ := List.mem_filter.1 h
  obtain ⟨h3, h4, h5⟩ := lk_mem0 h1
  exact ⟨h3, h4, h5, by simpa using h2⟩

theorem lk_of {i : Nat} {o : Oper} {t j : Nat} (ht : t ∈ o.looksAt ops) (hlt : t < nt) (hw : writer ops t = some j) (hb : i ∉ p.B j) : (t, j) ∈ lkOf p ops nt i o :=
  List.mem_filter.2 ⟨lk_of0 ht hlt hw, by simpa using hb⟩

theorem fins_mem {q : Nat × Nat} (h : q ∈ finsOf ops nt) : q.1 < nt ∧ ∃ o, ops[q.2]? = some o ∧ o.dst = some q.1 := by
  unfold finsOf at h
  obtain ⟨i, hi, he⟩ := List.mem_filterMap.1 h
  cases ho : ops[i]? with
  | none => rw [ho] at he; cases he
  | some o =>
    rw [ho, Option.bind_some] at he
    cases hd : o.dst with
    | none => rw [hd] at he; cases he
    | some t =>
      rw [hd] at he
      dsimp only at he
      split at he
      · rename_i hlt
        injection he with he
        subst he
        exact ⟨blt_iff.1 hlt, o, ho, hd⟩
      · cases he

theorem fins_of {i t : Nat} {o : Oper} (ho : ops[i]? = some o) (hd : o.dst = some t) (ht : t < nt) : (t, i) ∈ finsOf ops nt := by
  unfold finsOf
  refine List.mem_filterMap.2 ⟨i, List.mem_range.2 (Array.getElem?_eq_some_iff.1 ho).1, ?_⟩
  rw [ho, Option.bind_some, hd]
  dsimp only
  rw [if_pos (blt_iff.2 ht)]

/-- what the plan's check says -/
structure PlanFacts (p : Plan) (ops : Array Oper) (nt : Nat) : Prop where
  kinds : p.kinds.length ≤ ops.size
  size : ops.size ≤ 256
  ntle : nt ≤ 256
  anc : ∀ (i : Nat) (o : Oper), ops[i]? = some o → ∀ x ∈ p.B i, ∃ e ∈ o.after, Region.binds .any e = true ∧ (x = e.on ∨ x ∈ p.B e.on)
  lk : ∀ (i : Nat) (o : Oper), ops[i]? = some o → ∀ q ∈ lkOf p ops nt i o, q.2 ∈ p.B i
  dst1 : ∀ (i j : Nat) (oi oj : Oper) (t : Nat), ops[i]? = some oi → ops[j]? = some oj → oi.dst = some t → oj.dst = some t → i = j
  perm : ∀ i, i < ops.size → i ∈ p.perm
  rank : ∀ md, ∃ rank : Nat → Nat, ∀ (i : Nat) (o : Oper), ops[i]? = some o → ∀ e ∈ o.after, Region.binds md e = true → rank e.on < rank i ∧ e.on < ops.size
  permOK : permOK p ops nt p.perm = true
  pairs : pairsOK p p.effs = true
  two : p.dia = true → 2 ≤ p.effs.length

theorem rank_spec {md : Region.Mode} {size i : Nat} {rk : List Nat} {o : Oper} (h : rankOK md size rk i o = true) : ∀ e ∈ o.after, Region.binds md e = true → rk.getD e.on 0 < rk.getD i 0 ∧ e.on < size := by
  intro e he hb
  unfold rankOK at h
  have := List.all_eq_true.1 h e (by simpa using he)
  rw [hb] at this
  simp only [Bool.not_true, Bool.false_or, Bool.and_eq_true] at this
  exact ⟨blt_iff.1 this.1, blt_iff.1 this.2⟩

theorem plan_spec (h : planOK p ops nt = true) : PlanFacts p ops nt := by
  unfold planOK at h
  simp only [Bool.and_eq_true, ble_iff] at h
  obtain ⟨h1, h2, h3, h4, h5, h6, h7⟩ := h
  have hop : ∀ (i : Nat) (o : Oper), ops[i]? = some o → opPlanOK p ops nt i = true := fun i o ho => List.all_eq_true.1 h4 i (List.mem_range.2 (Array.getElem?_eq_some_iff.1 ho).1)
  have hop2 : ∀ (i : Nat) (o : Oper), ops[i]? = some o → (p.B i).all (fun x => o.after.toList.any fun e => Region.binds .any e && (Nat.beq x e.on || (p.B e.on).contains x)) = true ∧
      (lkOf p ops nt i o).all (fun q => (p.B i).contains q.2) = true ∧ dstAlone ops i o.dst = true ∧
      p.perm.contains i = true ∧ rankOK .text ops.size p.rankT i o = true ∧ rankOK .gc ops.size p.rankG i o = true := by
    intro i o ho
    have := hop i o ho
    unfold opPlanOK at this
    rw [ho] at this
    simpa only [Bool.and_eq_true] using this
  refine ⟨h1, h2, h3, ?_, ?_, ?_, ?_, ?_, h5, h6, ?_⟩
  · intro i o ho x hx
    have := List.all_eq_true.1 (hop2 i o ho).1 x hx
    obtain ⟨e, he, hb⟩ := List.any_eq_true.1 this
    simp only [Bool.and_eq_true, Bool.or_eq_true, beq_iff, List.contains_eq_mem, decide_eq_true_eq] at hb
    exact ⟨e, by simpa using he, hb⟩
  · intro i o ho q hq
    have := List.all_eq_true.1 (hop2 i o ho).2.1 q hq
    simpa using this
  · intro i j oi oj t hi hj hdi hdj
    have h3 := (hop2 i oi hi).2.2.1
    rw [hdi] at h3
    unfold dstAlone at h3
    have := List.all_eq_true.1 h3 j (List.mem_range.2 (Array.getElem?_eq_some_iff.1 hj).1)
    simpa [dstIs, hj, hdj, beq_iff] using this
  · intro i hi
    have := (hop2 i _ (Array.getElem?_eq_getElem hi)).2.2.2.1
    simpa using this
  · intro md
    cases md with
    | text => exact ⟨fun i => p.rankT.getD i 0, fun i o ho => rank_spec (hop2 i o ho).2.2.2.2.1⟩
    | gc => exact ⟨fun i => p.rankG.getD i 0, fun i o ho => rank_spec (hop2 i o ho).2.2.2.2.2⟩
    | any => exact ⟨fun i => p.rankT.getD i 0, fun i o ho e he hb => rank_spec (hop2 i o ho).2.2.2.2.1 e he (binds_any .text hb)⟩
  · intro hd
    rw [hd] at h7
    simpa [ble_iff] using h7
end
end Go.Ev

namespace Go.Ev
set_option linter.unusedVariables false

/-! ## Stores write one row -/
def Frm (k : K) (s s' : St) : Prop := s'.nk = s.nk ∧ s'.nx = s.nx ∧ ∀ f, f ≠ k → s'.h.at f = s.h.at f
def FP (k : K) (s : St) : RO → Prop
  | .ok _ s' => Frm k s s'
  | .call _ _ _ => False
  | .bad _ => True

section
variable {s : St} {k : K}
theorem FP.bool {b : Bool} {x y : RO} (hx : FP k s x) (hy : FP k s y) : FP k s (Bool.rec (motive := fun _ => RO) x y b) := by cases b <;> assumption
theorem FP.row {f : K} {v : Nat} {c : Nat → Nat → V → RO} (h : ∀ a b d, FP k s (c a b d)) : FP k s (row f v s c) := by
  unfold Ev.row
  cases Obj.cells? (H4.at f s.h) with
  | no => trivial
  | yes e sz ro a b vs =>
    show FP k s (OW.rec (motive := fun _ => RO) (.bad 23) (fun n ch => c sz n ch) (Ver.find v vs))
    cases Ver.find v vs; trivial; exact h _ _ _
theorem FP.write {v o size : Nat} {upd : Nat → V → V} {x : V} : FP k s (write k v o size s upd (fun s' => .ok x s')) := by
  unfold Ev.write
  cases Obj.cells? (H4.at k s.h) with
  | no => trivial
  | yes elem sz ro a b vs =>
    refine FP.bool (FP.bool trivial ?_) trivial
    cases Ver.from v vs with
    | none => trivial
    | more id n ch rest =>
      refine FP.bool trivial ⟨rfl, rfl, fun f hf => ?_⟩
      show H4.at f (H4.put k _ s.h) = _
      rw [H4.at_put, if_neg hf]

theorem store_FP {op : IOp} (hs : isStore op = true) {e : E2} {s s' : St} {v : V} (h : evOp op e s = .ok v s') : ∃ k, stKey op e = some k ∧ Frm k s s' := by
  cases op
  case st1 a x =>
    have h : withPtr (Opd.val a e) (fun f v o => store1 f v o (Opd.val x e) s) = .ok v s' := h
    obtain ⟨f, i, o, hp, h⟩ := withPtr_inv h trivial
    refine ⟨f, by simp [stKey, hp, keyOf], ?_⟩
    have : FP f s (store1 f i o (Opd.val x e) s) := FP.bool trivial (FP.row fun _ _ _ => FP.bool (FP.bool trivial FP.write) FP.write)
    rw [h] at this
    exact this
  case stN sz a x =>
    have h : withPtr (Opd.val a e) (fun f v o => storeN sz f v o (Opd.val x e) s) = .ok v s' := h
    obtain ⟨f, i, o, hp, h⟩ := withPtr_inv h trivial
    refine ⟨f, by simp [stKey, hp, keyOf], ?_⟩
    have : FP f s (storeN sz f i o (Opd.val x e) s) := by
      unfold storeN
      cases V.agg? (Opd.val x e) with
      | no => trivial
      | yes cs => exact FP.bool trivial (FP.row fun _ _ _ => FP.bool (FP.bool trivial FP.write) FP.write)
    rw [h] at this
    exact this
  all_goals (exact absurd hs (by simp [isStore]))

theorem Sub.ext {s s' : St} (ρ : Rho) (base : Nat) (hx : s'.nx = s.nx) (hh : ∀ f, s'.h.at f = s.h.at f) : Sub ρ base s s' := by
  refine ⟨by rw [hx]; exact Nat.le_refl _, fun g w hW => ⟨fun f v h => hW.fresh f v (hx ▸ h), hW.inj, hW.lt, fun hg => by rw [hh]; exact hW.obj hg, hW.base, fun he hv => by rw [hx]; exact hW.ids (by rw [← hh]; exact he) hv, fun hk => by rw [hh]; exact hW.ro hk⟩⟩
end

/-! ## The checks -/
section
variable {vs e0 : E2} {ts : List St} {alt : Option St} {d : DEnt} {s st : St} {n : Nat}

theorem nodeSt_cons (t : St) (ts : List St) (alt : Option St) (n : Nat) : nodeSt (t :: ts) alt n = Nat.rec (motive := fun _ => Option St) (some t) (fun m _ => nodeSt ts alt m) n := rfl
theorem nodeSt_eq : ∀ (ts : List St) (alt : Option St) (n : Nat), nodeSt ts alt n = match ts[n]? with | some s => some s | none => alt
  | [], alt, n => by simp only [List.getElem?_nil]; rfl
  | t :: ts, alt, 0 => rfl
  | t :: ts, alt, n + 1 => by
    rw [List.getElem?_cons_succ]
    exact nodeSt_eq ts alt n
theorem chkNodes_mem : ∀ {ns : List Nat}, chkNodes vs e0 ts alt d ns = true → n ∈ ns → ∃ st, nodeSt ts alt n = some st ∧ chkNode vs e0 d st = true
  | [], _, h => by cases h
  | m :: ns, h, hn => by
    obtain ⟨h1, h2⟩ := band_tt (show band (Option.rec (motive := fun _ => Bool) false (fun s => chkNode vs e0 d s) (nodeSt ts alt m)) (chkNodes vs e0 ts alt d ns) = true from h)
    rcases List.mem_cons.1 hn with rfl | hn
    · cases hs : nodeSt ts alt n with
      | none => rw [hs] at h1; cases h1
      | some st => rw [hs] at h1; exact ⟨st, rfl, h1⟩
    · exact chkNodes_mem h2 hn

theorem chkEnts_all : ∀ {l : List DEnt}, chkEnts vs e0 ts alt l = true → ∀ d ∈ l, (d.kind = 0 ∧ isPure d.op = true) ∨ chkNodes vs e0 ts alt d d.nodes = true
  | [], _, d, hd => by cases hd
  | d' :: l, h, d, hd => by
    obtain ⟨h1, h2⟩ := band_tt (show band (chkEnt vs e0 ts alt d') (chkEnts vs e0 ts alt l) = true from h)
    rcases List.mem_cons.1 hd with rfl | hd
    · unfold chkEnt at h1
      cases hc : band (Nat.beq d.kind 0) (isPure d.op) with
      | false => rw [hc] at h1; exact .inr h1
      | true =>
        obtain ⟨k1, k2⟩ := band_tt hc
        exact .inl ⟨beq_iff.1 k1, k2⟩
    · exact chkEnts_all h2 d hd

theorem chkFloat_spec (hf : isFloat d.op = true) (h : chkFloat vs e0 d st = true) : (Gd.ok d.gd (envOf vs e0 d.lk) = false ∧ E2.rd d.ix vs = .undef) ∨
    (Gd.ok d.gd (envOf vs e0 d.lk) = true ∧ evOp d.op (envOf vs e0 d.lk) st = .ok (E2.rd d.ix vs) st) := by
  unfold chkFloat at h
  cases hg : Gd.ok d.gd (envOf vs e0 d.lk) with
  | false =>
    rw [hg] at h
    exact .inl ⟨rfl, (same_eq h).symm⟩
  | true =>
    rw [hg] at h
    have hk := evOp_KP hf (envOf vs e0 d.lk) st
    cases ho : evOp d.op (envOf vs e0 d.lk) st with
    | ok v s1 =>
      rw [ho] at h hk
      have hk : s1 = st := hk
      subst hk
      have h : same v (E2.rd d.ix vs) = true := h
      rw [same_eq h]
      exact .inr ⟨rfl, rfl⟩
    | call f as s1 => rw [ho] at hk; exact hk.elim
    | bad w => rw [ho] at h; cases h

theorem chkAlloc_spec (h : chkAlloc vs e0 d st = true) : ∃ k v, keyOf (E2.rd d.ix vs) = some (k, v) ∧ Gd.ok d.gd (envOf vs e0 d.lk) = true ∧ ∃ sA', evOp d.op (envOf vs e0 d.lk) ⟨H4.empty, k, v⟩ = .ok (E2.rd d.ix vs) sA' ∧
    st.h.at k = sA'.h.at k := by
  unfold chkAlloc at h
  cases hk : keyOf (E2.rd d.ix vs) with
  | none => rw [hk] at h; cases h
  | some kv =>
    obtain ⟨k, v⟩ := kv
    rw [hk] at h
    simp only [Bool.and_eq_true] at h
    obtain ⟨h1, h2⟩ := h
    cases ho : evOp d.op (envOf vs e0 d.lk) ⟨H4.empty, k, v⟩ with
    | ok x s1 =>
      rw [ho] at h2
      have h2 : (same x (E2.rd d.ix vs) && Obj.same (H4.at k st.h) (H4.at k s1.h)) = true := h2
      simp only [Bool.and_eq_true] at h2
      have hx := same_eq h2.1
      subst hx
      exact ⟨k, v, rfl, h1, s1, ho, Obj.same_eq h2.2⟩
    | call f as s1 => rw [ho] at h2; cases h2
    | bad w => rw [ho] at h2; cases h2

theorem chkVers_spec {nx0 : Nat} : ∀ {l : List DEnt} {ks : List K}, chkVers vs nx0 ts alt ks l = true →
    (∀ d ∈ l, d.kind = 2 → ∃ k v, keyOf (E2.rd d.ix vs) = some (k, v) ∧ nx0 ≤ v ∧ (∀ s ∈ ts, v < s.nx) ∧ (∀ s, alt = some s → v < s.nx) ∧ k ∉ ks) ∧
    ∀ d1 ∈ l, ∀ d2 ∈ l, d1.kind = 2 → d2.kind = 2 → ∀ k v1 v2, keyOf (E2.rd d1.ix vs) = some (k, v1) → keyOf (E2.rd d2.ix vs) = some (k, v2) → d1 = d2
  | [], ks, _ => ⟨fun d hd => (by cases hd), fun d hd => (by cases hd)⟩
  | x :: l, ks, h => by
    simp only [chkVers] at h
    cases hb : Nat.beq x.kind 2 with
    | false =>
      rw [hb] at h
      have h : chkVers vs nx0 ts alt ks l = true := h
      have hne : x.kind ≠ 2 := fun he => by rw [beq_iff.2 he] at hb; cases hb
      obtain ⟨h1, h2⟩ := chkVers_spec h
      refine ⟨fun d hd hk => ?_, fun d1 hd1 d2 hd2 hk1 hk2 => ?_⟩
      · rcases List.mem_cons.1 hd with rfl | hd
        · exact absurd hk hne
        · exact h1 d hd hk
      · rcases List.mem_cons.1 hd1 with rfl | hd1
        · exact absurd hk1 hne
        rcases List.mem_cons.1 hd2 with rfl | hd2
        · exact absurd hk2 hne
        exact h2 d1 hd1 d2 hd2 hk1 hk2
    | true =>
      rw [hb] at h
      cases hk : keyOf (E2.rd x.ix vs) with
      | none => rw [hk] at h; cases h
      | some kv =>
        obtain ⟨k, v⟩ := kv
        rw [hk] at h
        have h : (ks.all (fun k' => !K.beq k k') && (Nat.ble nx0 v && (ts.all (fun s => Nat.blt v s.nx) && (alt.all (fun s => Nat.blt v s.nx) && chkVers vs nx0 ts alt (k :: ks) l)))) = true := h
        simp only [Bool.and_eq_true, List.all_eq_true, Bool.not_eq_true'] at h
        obtain ⟨a1, a2, a3, a4, a5⟩ := h
        obtain ⟨h1, h2⟩ := chkVers_spec a5
        have hnot : k ∉ ks := fun hm => by
          have := a1 k hm
          rw [(K.beq_iff k k).2 rfl] at this
          cases this
        refine ⟨fun d hd hkd => ?_, fun d1 hd1 d2 hd2 hk1 hk2 k' v1 v2 e1 e2 => ?_⟩
        · rcases List.mem_cons.1 hd with rfl | hd
          · refine ⟨k, v, hk, ble_iff.1 a2, fun s hs => blt_iff.1 (a3 s hs), fun s hs => ?_, hnot⟩
            rw [hs] at a4
            exact blt_iff.1 a4
          · obtain ⟨k1, v1, b1, b2, b3, b4, b5⟩ := h1 d hd hkd
            exact ⟨k1, v1, b1, b2, b3, b4, fun hm => b5 (List.mem_cons_of_mem _ hm)⟩
        · rcases List.mem_cons.1 hd1 with rfl | hm1 <;> rcases List.mem_cons.1 hd2 with rfl | hm2
          · rfl
          · obtain ⟨k1, w1, b1, _, _, _, b5⟩ := h1 d2 hm2 hk2
            rw [e2] at b1
            rw [hk] at e1
            injection b1 with b1; injection b1 with b1 _
            injection e1 with e1; injection e1 with e1 _
            exact absurd (List.mem_cons.2 (.inl (b1.symm.trans e1.symm))) b5
          · obtain ⟨k1, w1, b1, _, _, _, b5⟩ := h1 d1 hm1 hk1
            rw [e1] at b1
            rw [hk] at e2
            injection b1 with b1; injection b1 with b1 _
            injection e2 with e2; injection e2 with e2 _
            exact absurd (List.mem_cons.2 (.inl (b1.symm.trans e2.symm))) b5
          · exact h2 d1 hm1 d2 hm2 hk1 hk2 k' v1 v2 e1 e2

theorem okWith_spec {x : V} {r : RO} (h : okWith x r = some st) : r = .ok x st := by
  unfold okWith at h
  cases r with
  | ok v s1 =>
    dsimp only at h
    split at h
    · rename_i hs
      injection h with h
      rw [same_eq hs, h]
    · cases h
  | call f as s1 => cases h
  | bad w => cases h

theorem altOf_spec {A B : DEnt} (h : altOf vs e0 ts (some (A, B)) = some alt) : ∃ sA fin sb s4 ka kb, ts[ts.length - 3]? = some sA ∧ ts[ts.length - 1]? = some fin ∧ stKey A.op (envOf vs e0 A.lk) = some ka ∧ stKey B.op (envOf vs e0 B.lk) = some kb ∧
    evOp B.op (envOf vs e0 B.lk) sA = .ok (E2.rd B.ix vs) sb ∧ evOp A.op (envOf vs e0 A.lk) sb = .ok (E2.rd A.ix vs) s4 ∧ s4.h.at ka = fin.h.at ka ∧ s4.h.at kb = fin.h.at kb ∧ alt = some sb := by
  unfold altOf at h
  dsimp only at h
  cases h1 : ts[ts.length - 3]? with
  | none => rw [h1] at h; cases h
  | some sA =>
    cases h2 : ts[ts.length - 1]? with
    | none => rw [h1, h2] at h; cases h
    | some fin =>
      cases h3 : stKey A.op (envOf vs e0 A.lk) with
      | none => rw [h1, h2, h3] at h; cases h
      | some ka =>
        cases h4 : stKey B.op (envOf vs e0 B.lk) with
        | none => rw [h1, h2, h3, h4] at h; cases h
        | some kb =>
          rw [h1, h2, h3, h4] at h
          dsimp only at h
          cases h5 : okWith (E2.rd B.ix vs) (evOp B.op (envOf vs e0 B.lk) sA) with
          | none => rw [h5] at h; cases h
          | some sb =>
            rw [h5] at h
            dsimp only at h
            cases h6 : okWith (E2.rd A.ix vs) (evOp A.op (envOf vs e0 A.lk) sb) with
            | none => rw [h6] at h; cases h
            | some s4 =>
              rw [h6] at h
              dsimp only at h
              split at h
              · rename_i hc
                injection h with h
                simp only [Bool.and_eq_true] at hc
                exact ⟨sA, fin, sb, s4, ka, kb, rfl, rfl, rfl, rfl, okWith_spec h5, okWith_spec h6, Obj.same_eq hc.1, Obj.same_eq hc.2, h.symm⟩
              · cases h

theorem evDraw_inv {call : Nat → V → St → RC} {l : List DEnt} {fins : List (Nat × Nat)} {dia : Option (DEnt × DEnt)} {e : E2} {r : R} (h : evDraw call l fins dia e s = r) :
    (∃ w, r = .bad w) ∨ ∃ vs ts alt fin, ph1 call e l E2.empty s = .ok vs ts ∧ altOf vs e ts dia = some alt ∧ ts[ts.length - 1]? = some fin ∧ (∀ d ∈ l, (d.kind = 0 ∧ isPure d.op = true) ∨ chkNodes vs e ts alt d d.nodes = true) ∧ chkVers vs s.nx ts alt [] l = true ∧
      r = .norm (envOf vs e fins) fin := by
  unfold evDraw at h
  cases hp : ph1 call e l E2.empty s with
  | bad w => rw [hp] at h; exact .inl ⟨w, h.symm⟩
  | ok vs ts =>
    rw [hp] at h
    dsimp only at h
    cases ha : altOf vs e ts dia with
    | none => rw [ha] at h; exact .inl ⟨407, h.symm⟩
    | some alt =>
      cases hf : ts[ts.length - 1]? with
      | none => rw [ha, hf] at h; exact .inl ⟨407, h.symm⟩
      | some fin =>
        rw [ha, hf] at h
        dsimp only at h
        split at h
        · rename_i hc
          simp only [Bool.and_eq_true] at hc
          exact .inr ⟨vs, ts, alt, fin, rfl, ha, hf, chkEnts_all hc.1, hc.2, h.symm⟩
        · exact .inl ⟨406, h.symm⟩
end
end Go.Ev

namespace Go.Ev
set_option linter.unusedVariables false

/-! ## The entries with their addresses looked up are as the plain ones -/
theorem slotGet_eq (t : Nat) : slotGet t = .mk (fun e => E2.rd t e) := by
  unfold slotGet
  rw [get1_eq, get0_eq]
  rfl
theorem slotPut_eq (t : Nat) : slotPut t = .mk (fun v e => E2.wr t v e) := by
  unfold slotPut
  have h : ∀ i j : D, Set1.rec (motive := fun _ => LayF) (fun f => Set0.rec (motive := fun _ => LayF) (fun g => .mk fun v e => f (g v) e) (set0 j)) (set1 i) = .mk (fun v e => E2.put i j v e) := by
    intro i j
    cases i <;> cases j <;> rfl
  exact h _ _
theorem envF_eq : ∀ (l : List (Nat × Nat)), envF l = .mk (fun vs e0 => envOf vs e0 l)
  | [] => rfl
  | (t, w) :: l => by
    have e : envF ((t, w) :: l) = EnvF.rec (motive := fun _ => EnvF) (fun f => FnV.rec (motive := fun _ => EnvF) (fun g => LayF.rec (motive := fun _ => EnvF)
      (fun p => .mk fun vs e0 => p (g vs) (f vs e0)) (slotPut t)) (slotGet w)) (envF l) := rfl
    rw [e, envF_eq l, slotGet_eq, slotPut_eq]
    rfl
theorem gdF_eq (g : Gd) : gdF g = .mk (fun e => Gd.ok g e) := by
  cases g with
  | no => rfl
  | is f w => cases w <;> rfl
theorem mkF_eq (d : DEnt) : mkF d = ⟨d, evOp d.op, fun vs e0 => envOf vs e0 d.lk, fun e => Gd.ok d.gd e, fun e => E2.rd d.ix e, fun v e => E2.wr d.ix v e, band (Nat.beq d.kind 0) (isPure d.op)⟩ := by
  unfold mkF
  rw [runOf_eq, envF_eq, gdF_eq, slotGet_eq, slotPut_eq]

section
variable {call : Nat → V → St → RC} {e0 : E2}
theorem ph1F_eq : ∀ (l : List DEnt) (vs : E2) (s : St), ph1F call e0 (mkFs l) vs s = ph1 call e0 l vs s
  | [], vs, s => rfl
  | d :: l, vs, s => by
    have e : ph1F call e0 (mkFs (d :: l)) vs s = FEnt.rec (motive := fun _ => E2 → St → PR) (fun d run env gd get put skip vs s => RC.rec (motive := fun _ => PR)
      (fun v s' => Bool.rec (motive := fun _ => PR) (ph1F call e0 (mkFs l) (put v vs) s') (PR.cons s (ph1F call e0 (mkFs l) (put v vs) s')) (Nat.beq d.kind 1))
      (fun w => .bad w) (guardF call run gd (env vs e0) s)) (mkF d) vs s := rfl
    rw [e, mkF_eq]
    have e2 : ph1 call e0 (d :: l) vs s = RC.rec (motive := fun _ => PR)
      (fun v s' => Bool.rec (motive := fun _ => PR) (ph1 call e0 l (E2.wr d.ix v vs) s') (PR.cons s (ph1 call e0 l (E2.wr d.ix v vs) s')) (Nat.beq d.kind 1))
      (fun w => .bad w) (guarded call d (envOf vs e0 d.lk) s) := rfl
    rw [e2]
    show RC.rec (motive := fun _ => PR) (fun v s' => Bool.rec (motive := fun _ => PR) (ph1F call e0 (mkFs l) (E2.wr d.ix v vs) s') (PR.cons s (ph1F call e0 (mkFs l) (E2.wr d.ix v vs) s')) (Nat.beq d.kind 1))
      (fun w => .bad w) (guarded call d (envOf vs e0 d.lk) s) = _
    cases guarded call d (envOf vs e0 d.lk) s with
    | bad w => rfl
    | ok v s' =>
      show Bool.rec (motive := fun _ => PR) (ph1F call e0 (mkFs l) (E2.wr d.ix v vs) s') (PR.cons s (ph1F call e0 (mkFs l) (E2.wr d.ix v vs) s')) (Nat.beq d.kind 1) = _
      rw [ph1F_eq l]
theorem chkNodeF_eq (vs : E2) (d : DEnt) (s : St) : chkNodeF vs e0 d (evOp d.op) (fun vs e0 => envOf vs e0 d.lk) (fun e => Gd.ok d.gd e) (fun e => E2.rd d.ix e) s = chkNode vs e0 d s := by
  unfold chkNodeF
  cases h : Nat.beq d.kind 0 with
  | false => rfl
  | true =>
    unfold chkNode
    rw [h]
    rfl
theorem chkNodesF_eq (vs : E2) (ts : List St) (alt : Option St) (d : DEnt) : ∀ l : List Nat, chkNodesF vs e0 ts alt d (evOp d.op) (fun vs e0 => envOf vs e0 d.lk) (fun e => Gd.ok d.gd e) (fun e => E2.rd d.ix e) l = chkNodes vs e0 ts alt d l
  | [] => rfl
  | n :: l => by
    have e : chkNodesF vs e0 ts alt d (evOp d.op) (fun vs e0 => envOf vs e0 d.lk) (fun e => Gd.ok d.gd e) (fun e => E2.rd d.ix e) (n :: l) = band (Option.rec (motive := fun _ => Bool) false (fun s => chkNodeF vs e0 d (evOp d.op) (fun vs e0 => envOf vs e0 d.lk) (fun e => Gd.ok d.gd e) (fun e => E2.rd d.ix e) s) (nodeSt ts alt n)) (chkNodesF vs e0 ts alt d (evOp d.op) (fun vs e0 => envOf vs e0 d.lk) (fun e => Gd.ok d.gd e) (fun e => E2.rd d.ix e) l) := rfl
    have e2 : chkNodes vs e0 ts alt d (n :: l) = band (Option.rec (motive := fun _ => Bool) false (fun s => chkNode vs e0 d s) (nodeSt ts alt n)) (chkNodes vs e0 ts alt d l) := rfl
    rw [e, e2, chkNodesF_eq vs ts alt d l]
    cases nodeSt ts alt n with
    | none => rfl
    | some s =>
      show band (chkNodeF vs e0 d _ _ _ _ s) _ = band (chkNode vs e0 d s) _
      rw [chkNodeF_eq]
theorem chkEntsF_eq (vs : E2) (ts : List St) (alt : Option St) : ∀ l : List DEnt, chkEntsF vs e0 ts alt (mkFs l) = chkEnts vs e0 ts alt l
  | [] => rfl
  | d :: l => by
    have e : chkEntsF vs e0 ts alt (mkFs (d :: l)) = FEnt.rec (motive := fun _ => Bool) (fun d run env gd get put skip => band (Bool.rec (motive := fun _ => Bool) (chkNodesF vs e0 ts alt d run env gd get d.nodes) true skip) (chkEntsF vs e0 ts alt (mkFs l))) (mkF d) := rfl
    have e2 : chkEnts vs e0 ts alt (d :: l) = band (chkEnt vs e0 ts alt d) (chkEnts vs e0 ts alt l) := rfl
    rw [e, e2, mkF_eq, chkEntsF_eq vs ts alt l]
    show band (Bool.rec (motive := fun _ => Bool) (chkNodesF vs e0 ts alt d _ _ _ _ d.nodes) true _) _ = _
    rw [chkNodesF_eq]
    rfl
theorem chkVersF_eq (vs : E2) (nx0 : Nat) (ts : List St) (alt : Option St) : ∀ (l : List DEnt) (ks : List K), chkVersF vs nx0 ts alt (mkFs l) ks = chkVers vs nx0 ts alt ks l
  | [], ks => rfl
  | d :: l, ks => by
    have e : chkVersF vs nx0 ts alt (mkFs (d :: l)) ks = FEnt.rec (motive := fun _ => List K → Bool) (fun d run env gd get put skip ks =>
      Bool.rec (motive := fun _ => Bool) (chkVersF vs nx0 ts alt (mkFs l) ks) (match keyOf (get vs) with
        | some (k, v) => ks.all (fun k' => !K.beq k k') && (Nat.ble nx0 v && (ts.all (fun s : St => Nat.blt v s.nx) && (alt.all (fun s : St => Nat.blt v s.nx) && chkVersF vs nx0 ts alt (mkFs l) (k :: ks))))
        | none => false) (Nat.beq d.kind 2)) (mkF d) ks := rfl
    rw [e, mkF_eq]
    show Bool.rec (motive := fun _ => Bool) (chkVersF vs nx0 ts alt (mkFs l) ks) (match keyOf (E2.rd d.ix vs) with
        | some (k, v) => ks.all (fun k' => !K.beq k k') && (Nat.ble nx0 v && (ts.all (fun s : St => Nat.blt v s.nx) && (alt.all (fun s : St => Nat.blt v s.nx) && chkVersF vs nx0 ts alt (mkFs l) (k :: ks))))
        | none => false) (Nat.beq d.kind 2) = _
    simp only [chkVers]
    cases Nat.beq d.kind 2 with
    | false => exact chkVersF_eq vs nx0 ts alt l ks
    | true =>
      show (match keyOf (E2.rd d.ix vs) with
        | some (k, v) => ks.all (fun k' => !K.beq k k') && (Nat.ble nx0 v && (ts.all (fun s : St => Nat.blt v s.nx) && (alt.all (fun s : St => Nat.blt v s.nx) && chkVersF vs nx0 ts alt (mkFs l) (k :: ks))))
        | none => false) = _
      cases keyOf (E2.rd d.ix vs) with
      | none => rfl
      | some q =>
        obtain ⟨k, v⟩ := q
        simp only [cond_true]
        rw [chkVersF_eq vs nx0 ts alt l (k :: ks)]
theorem lastOf_eq : ∀ l : List St, lastOf l = l[l.length - 1]?
  | [] => rfl
  | [x] => rfl
  | x :: y :: l => by
    have e : lastOf (x :: y :: l) = Option.rec (motive := fun _ => Option St) (some x) (fun z => some z) (lastOf (y :: l)) := rfl
    rw [e, lastOf_eq (y :: l)]
    have h : (x :: y :: l)[(x :: y :: l).length - 1]? = (y :: l)[(y :: l).length - 1]? := by simp
    rw [h]
    have h2 : ∃ z, (y :: l)[(y :: l).length - 1]? = some z := ⟨_, List.getElem?_eq_getElem (by simp)⟩
    obtain ⟨z, h2⟩ := h2
    rw [h2]
theorem evDrawF_eq (l : List DEnt) (fins : List (Nat × Nat)) (dia : Option (DEnt × DEnt)) (e : E2) (s : St) : evDrawF call (mkFs l) (envF fins) dia e s = evDraw call l fins dia e s := by
  unfold evDrawF evDraw
  rw [ph1F_eq, envF_eq]
  cases ph1 call e l E2.empty s with
  | bad w => rfl
  | ok vs ts =>
    dsimp only
    have ha : altOfF vs e ts dia = altOf vs e ts dia := by cases dia <;> rfl
    rw [ha, lastOf_eq]
    cases altOf vs e ts dia with
    | none => rfl
    | some alt =>
      cases ts[ts.length - 1]? with
      | none => rfl
      | some fin =>
        dsimp only
        rw [chkEntsF_eq, chkVersF_eq]
        cases chkEnts vs e ts alt l <;> cases chkVers vs s.nx ts alt [] l <;> rfl
end
end Go.Ev
