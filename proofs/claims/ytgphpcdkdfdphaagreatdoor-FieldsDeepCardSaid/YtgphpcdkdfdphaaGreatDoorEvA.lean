/- A reckoner for the model's code, proved sound: what it reckons true is returned, on every schedule, and nothing that was there turns: part A. Conditions: none. -/
import Derived.KernelRfl
import GoSem.Dispatch
import GoSem.Step
import Derived.Calls
import Derived.Laws.Sem
import Derived.Laws.World
import Derived.Orders
import Derived.Laws.Cells
namespace Go.Ev
set_option linter.unusedVariables false

inductive D | x0 | x1 | x2 | x3 | x4 | x5 | x6 | x7 | x8 | x9 | xa | xb | xc | xd | xe | xf
  deriving DecidableEq
def D.dig (n : Nat) : D :=
  match n with | 0 => .x0 | 1 => .x1 | 2 => .x2 | 3 => .x3 | 4 => .x4 | 5 => .x5 | 6 => .x6 | 7 => .x7 | 8 => .x8 | 9 => .x9 | 10 => .xa | 11 => .xb | 12 => .xc | 13 => .xd | 14 => .xe | _ => .xf
def D.num (d : D) : Nat :=
  match d with | .x0 => 0 | .x1 => 1 | .x2 => 2 | .x3 => 3 | .x4 => 4 | .x5 => 5 | .x6 => 6 | .x7 => 7 | .x8 => 8 | .x9 => 9 | .xa => 10 | .xb => 11 | .xc => 12 | .xd => 13 | .xe => 14 | .xf => 15
noncomputable def D.succ (d : D) : Option D := D.rec (motive := fun _ => Option D) (some .x1) (some .x2) (some .x3) (some .x4) (some .x5) (some .x6) (some .x7) (some .x8) (some .x9) (some .xa) (some .xb) (some .xc) (some .xd) (some .xe) (some .xf) none d
noncomputable def D.beq (a b : D) : Bool := Nat.beq (D.rec (motive := fun _ => Nat) 0 1 2 3 4 5 6 7 8 9 10 11 12 13 14 15 a) (D.rec (motive := fun _ => Nat) 0 1 2 3 4 5 6 7 8 9 10 11 12 13 14 15 b)

structure K where
  a : D
  b : D
  c : D
  d : D
  deriving DecidableEq

noncomputable def K.succ (k : K) : K :=
  K.rec (motive := fun _ => K) (fun a b c d => Option.rec (Option.rec (Option.rec (Option.rec ⟨.x0, .x0, .x0, .x0⟩ (fun d' => ⟨.x0, .x0, .x0, d'⟩) (D.succ d)) (fun c' => ⟨.x0, .x0, c', d⟩) (D.succ c)) (fun b' => ⟨.x0, b', c, d⟩) (D.succ b)) (fun a' => ⟨a', b, c, d⟩) (D.succ a)) k
noncomputable def K.beq (x y : K) : Bool := Bool.rec false (Bool.rec false (Bool.rec false (D.beq x.d y.d) (D.beq x.c y.c)) (D.beq x.b y.b)) (D.beq x.a y.a)
def K.ofNat (n : Nat) : K := ⟨D.dig (n % 16), D.dig (n / 16 % 16), D.dig (n / 256 % 16), D.dig (n / 4096 % 16)⟩

/-- What the evaluator reckons with. -/
inductive V where
  | undef
  | bool (b : Bool)
  | int (k : IntKind) (n : Int)
  | str (len data : Nat)
  | nilp
  | ptr (f : K) (v o : Nat)
  | nils
  | sl (f : K) (v o len cap : Nat) (ex : Bool) (es : Nat)
  | nilm
  | map (f : K) (v : Nat)
  | nilf
  | fn (fn : Fn) (first captured : V)
  | nili
  | iface (t : Nat) (x : V)
  | agg (cs : V)
  | tup (cs : V)
  | sym (i : Nat)
  | opq (i : Nat)
  | nil
  | cons (h t : V)

structure E1 where
  c0 : V
  c1 : V
  c2 : V
  c3 : V
  c4 : V
  c5 : V
  c6 : V
  c7 : V
  c8 : V
  c9 : V
  ca : V
  cb : V
  cc : V
  cd : V
  ce : V
  cf : V
noncomputable def E1.get (d : D) : E1 → V :=
  D.rec (motive := fun _ => E1 → V) (fun q => q.c0) (fun q => q.c1) (fun q => q.c2) (fun q => q.c3) (fun q => q.c4) (fun q => q.c5) (fun q => q.c6) (fun q => q.c7) (fun q => q.c8) (fun q => q.c9) (fun q => q.ca) (fun q => q.cb) (fun q => q.cc) (fun q => q.cd) (fun q => q.ce) (fun q => q.cf) d
noncomputable def E1.set (d : D) : V → E1 → E1 :=
  D.rec (motive := fun _ => V → E1 → E1)
    (fun y q => E1.rec (motive := fun _ => E1) (fun _ y1 y2 y3 y4 y5 y6 y7 y8 y9 ya yb yc yd ye yf => ⟨y, y1, y2, y3, y4, y5, y6, y7, y8, y9, ya, yb, yc, yd, ye, yf⟩) q)
    (fun y q => E1.rec (motive := fun _ => E1) (fun y0 _ y2 y3 y4 y5 y6 y7 y8 y9 ya yb yc yd ye yf => ⟨y0, y, y2, y3, y4, y5, y6, y7, y8, y9, ya, yb, yc, yd, ye, yf⟩) q)
    (fun y q => E1.rec (motive := fun _ => E1) (fun y0 y1 _ y3 y4 y5 y6 y7 y8 y9 ya yb yc yd ye yf => ⟨y0, y1, y, y3, y4, y5, y6, y7, y8, y9, ya, yb, yc, yd, ye, yf⟩) q)
    (fun y q => E1.rec (motive := fun _ => E1) (fun y0 y1 y2 _ y4 y5 y6 y7 y8 y9 ya yb yc yd ye yf => ⟨y0, y1, y2, y, y4, y5, y6, y7, y8, y9, ya, yb, yc, yd, ye, yf⟩) q)
    (fun y q => E1.rec (motive := fun _ => E1) (fun y0 y1 y2 y3 _ y5 y6 y7 y8 y9 ya yb yc yd ye yf => ⟨y0, y1, y2, y3, y, y5, y6, y7, y8, y9, ya, yb, yc, yd, ye, yf⟩) q)
    (fun y q => E1.rec (motive := fun _ => E1) (fun y0 y1 y2 y3 y4 _ y6 y7 y8 y9 ya yb yc yd ye yf => ⟨y0, y1, y2, y3, y4, y, y6, y7, y8, y9, ya, yb, yc, yd, ye, yf⟩) q)
    (fun y q => E1.rec (motive := fun _ => E1) (fun y0 y1 y2 y3 y4 y5 _ y7 y8 y9 ya yb yc yd ye yf => ⟨y0, y1, y2, y3, y4, y5, y, y7, y8, y9, ya, yb, yc, yd, ye, yf⟩) q)
    (fun y q => E1.rec (motive := fun _ => E1) (fun y0 y1 y2 y3 y4 y5 y6 _ y8 y9 ya yb yc yd ye yf => ⟨y0, y1, y2, y3, y4, y5, y6, y, y8, y9, ya, yb, yc, yd, ye, yf⟩) q)
    (fun y q => E1.rec (motive := fun _ => E1) (fun y0 y1 y2 y3 y4 y5 y6 y7 _ y9 ya yb yc yd ye yf => ⟨y0, y1, y2, y3, y4, y5, y6, y7, y, y9, ya, yb, yc, yd, ye, yf⟩) q)
    (fun y q => E1.rec (motive := fun _ => E1) (fun y0 y1 y2 y3 y4 y5 y6 y7 y8 _ ya yb yc yd ye yf => ⟨y0, y1, y2, y3, y4, y5, y6, y7, y8, y, ya, yb, yc, yd, ye, yf⟩) q)
    (fun y q => E1.rec (motive := fun _ => E1) (fun y0 y1 y2 y3 y4 y5 y6 y7 y8 y9 _ yb yc yd ye yf => ⟨y0, y1, y2, y3, y4, y5, y6, y7, y8, y9, y, yb, yc, yd, ye, yf⟩) q)
    (fun y q => E1.rec (motive := fun _ => E1) (fun y0 y1 y2 y3 y4 y5 y6 y7 y8 y9 ya _ yc yd ye yf => ⟨y0, y1, y2, y3, y4, y5, y6, y7, y8, y9, ya, y, yc, yd, ye, yf⟩) q)
    (fun y q => E1.rec (motive := fun _ => E1) (fun y0 y1 y2 y3 y4 y5 y6 y7 y8 y9 ya yb _ yd ye yf => ⟨y0, y1, y2, y3, y4, y5, y6, y7, y8, y9, ya, yb, y, yd, ye, yf⟩) q)
    (fun y q => E1.rec (motive := fun _ => E1) (fun y0 y1 y2 y3 y4 y5 y6 y7 y8 y9 ya yb yc _ ye yf => ⟨y0, y1, y2, y3, y4, y5, y6, y7, y8, y9, ya, yb, yc, y, ye, yf⟩) q)
    (fun y q => E1.rec (motive := fun _ => E1) (fun y0 y1 y2 y3 y4 y5 y6 y7 y8 y9 ya yb yc yd _ yf => ⟨y0, y1, y2, y3, y4, y5, y6, y7, y8, y9, ya, yb, yc, yd, y, yf⟩) q)
    (fun y q => E1.rec (motive := fun _ => E1) (fun y0 y1 y2 y3 y4 y5 y6 y7 y8 y9 ya yb yc yd ye _ => ⟨y0, y1, y2, y3, y4, y5, y6, y7, y8, y9, ya, yb, yc, yd, ye, y⟩) q) d
def E1.all (x : V) : E1 := ⟨x, x, x, x, x, x, x, x, x, x, x, x, x, x, x, x⟩
theorem E1.get_set (d d' : D) (y : V) (q : E1) : E1.get d (E1.set d' y q) = if d = d' then y else E1.get d q := by
  cases d <;> cases d' <;> rfl
theorem E1.get_all (d : D) (x : V) : E1.get d (E1.all x) = x := by cases d <;> rfl
structure E2 where
  c0 : E1
  c1 : E1
  c2 : E1
  c3 : E1
  c4 : E1
  c5 : E1
  c6 : E1
  c7 : E1
  c8 : E1
  c9 : E1
  ca : E1
  cb : E1
  cc : E1
  cd : E1
  ce : E1
  cf : E1
noncomputable def E2.get (d : D) : E2 → E1 :=
  D.rec (motive := fun _ => E2 → E1) (fun q => q.c0) (fun q => q.c1) (fun q => q.c2) (fun q => q.c3) (fun q => q.c4) (fun q => q.c5) (fun q => q.c6) (fun q => q.c7) (fun q => q.c8) (fun q => q.c9) (fun q => q.ca) (fun q => q.cb) (fun q => q.cc) (fun q => q.cd) (fun q => q.ce) (fun q => q.cf) d
noncomputable def E2.set (d : D) : E1 → E2 → E2 :=
  D.rec (motive := fun _ => E1 → E2 → E2)
    (fun y q => E2.rec (motive := fun _ => E2) (fun _ y1 y2 y3 y4 y5 y6 y7 y8 y9 ya yb yc yd ye yf => ⟨y, y1, y2, y3, y4, y5, y6, y7, y8, y9, ya, yb, yc, yd, ye, yf⟩) q)
    (fun y q => E2.rec (motive := fun _ => E2) (fun y0 _ y2 y3 y4 y5 y6 y7 y8 y9 ya yb yc yd ye yf => ⟨y0, y, y2, y3, y4, y5, y6, y7, y8, y9, ya, yb, yc, yd, ye, yf⟩) q)
    (fun y q => E2.rec (motive := fun _ => E2) (fun y0 y1 _ y3 y4 y5 y6 y7 y8 y9 ya yb yc yd ye yf => ⟨y0, y1, y, y3, y4, y5, y6, y7, y8, y9, ya, yb, yc, yd, ye, yf⟩) q)
    (fun y q => E2.rec (motive := fun _ => E2) (fun y0 y1 y2 _ y4 y5 y6 y7 y8 y9 ya yb yc yd ye yf => ⟨y0, y1, y2, y, y4, y5, y6, y7, y8, y9, ya, yb, yc, yd, ye, yf⟩) q)
    (fun y q => E2.rec (motive := fun _ => E2) (fun y0 y1 y2 y3 _ y5 y6 y7 y8 y9 ya yb yc yd ye yf => ⟨y0, y1, y2, y3, y, y5, y6, y7, y8, y9, ya, yb, yc, yd, ye, yf⟩) q)
    (fun y q => E2.rec (motive := fun _ => E2) (fun y0 y1 y2 y3 y4 _ y6 y7 y8 y9 ya yb yc yd ye yf => ⟨y0, y1, y2, y3, y4, y, y6, y7, y8, y9, ya, yb, yc, yd, ye, yf⟩) q)
    (fun y q => E2.rec (motive := fun _ => E2) (fun y0 y1 y2 y3 y4 y5 _ y7 y8 y9 ya yb yc yd ye yf => ⟨y0, y1, y2, y3, y4, y5, y, y7, y8, y9, ya, yb, yc, yd, ye, yf⟩) q)
    (fun y q => E2.rec (motive := fun _ => E2) (fun y0 y1 y2 y3 y4 y5 y6 _ y8 y9 ya yb yc yd ye yf => ⟨y0, y1, y2, y3, y4, y5, y6, y, y8, y9, ya, yb, yc, yd, ye, yf⟩) q)
    (fun y q => E2.rec (motive := fun _ => E2) (fun y0 y1 y2 y3 y4 y5 y6 y7 _ y9 ya yb yc yd ye yf => ⟨y0, y1, y2, y3, y4, y5, y6, y7, y, y9, ya, yb, yc, yd, ye, yf⟩) q)
    (fun y q => E2.rec (motive := fun _ => E2) (fun y0 y1 y2 y3 y4 y5 y6 y7 y8 _ ya yb yc yd ye yf => ⟨y0, y1, y2, y3, y4, y5, y6, y7, y8, y, ya, yb, yc, yd, ye, yf⟩) q)
    (fun y q => E2.rec (motive := fun _ => E2) (fun y0 y1 y2 y3 y4 y5 y6 y7 y8 y9 _ yb yc yd ye yf => ⟨y0, y1, y2, y3, y4, y5, y6, y7, y8, y9, y, yb, yc, yd, ye, yf⟩) q)
    (fun y q => E2.rec (motive := fun _ => E2) (fun y0 y1 y2 y3 y4 y5 y6 y7 y8 y9 ya _ yc yd ye yf => ⟨y0, y1, y2, y3, y4, y5, y6, y7, y8, y9, ya, y, yc, yd, ye, yf⟩) q)
    (fun y q => E2.rec (motive := fun _ => E2) (fun y0 y1 y2 y3 y4 y5 y6 y7 y8 y9 ya yb _ yd ye yf => ⟨y0, y1, y2, y3, y4, y5, y6, y7, y8, y9, ya, yb, y, yd, ye, yf⟩) q)
    (fun y q => E2.rec (motive := fun _ => E2) (fun y0 y1 y2 y3 y4 y5 y6 y7 y8 y9 ya yb yc _ ye yf => ⟨y0, y1, y2, y3, y4, y5, y6, y7, y8, y9, ya, yb, yc, y, ye, yf⟩) q)
    (fun y q => E2.rec (motive := fun _ => E2) (fun y0 y1 y2 y3 y4 y5 y6 y7 y8 y9 ya yb yc yd _ yf => ⟨y0, y1, y2, y3, y4, y5, y6, y7, y8, y9, ya, yb, yc, yd, y, yf⟩) q)
    (fun y q => E2.rec (motive := fun _ => E2) (fun y0 y1 y2 y3 y4 y5 y6 y7 y8 y9 ya yb yc yd ye _ => ⟨y0, y1, y2, y3, y4, y5, y6, y7, y8, y9, ya, yb, yc, yd, ye, y⟩) q) d
def E2.all (x : E1) : E2 := ⟨x, x, x, x, x, x, x, x, x, x, x, x, x, x, x, x⟩
theorem E2.get_set (d d' : D) (y : E1) (q : E2) : E2.get d (E2.set d' y q) = if d = d' then y else E2.get d q := by
  cases d <;> cases d' <;> rfl
theorem E2.get_all (d : D) (x : E1) : E2.get d (E2.all x) = x := by cases d <;> rfl

/-- The versions of a row of cells, the newest first. -/
inductive Ver where
  | none
  | more (id n : Nat) (ch : V) (rest : Ver)

inductive Obj where
  | none
  | cells (elem sz : Nat) (ro : Bool) (flo fhi : Nat) (vs : Ver)
  | map (v : Nat) (es : V) (clock : Nat)
  | siter (v len data pos : Nat)
  | miter (v : Nat) (src : V) (since : Nat) (seen : List Nat) (last : Nat)
  | loop (v : Nat) (env : E2) (ps : List Nat) (a b : Code) (nt : Nat) (st : LoopState) (pend : Option Code)

structure H1 where
  c0 : Obj
  c1 : Obj
  c2 : Obj
  c3 : Obj
  c4 : Obj
  c5 : Obj
  c6 : Obj
  c7 : Obj
  c8 : Obj
  c9 : Obj
  ca : Obj
  cb : Obj
  cc : Obj
  cd : Obj
  ce : Obj
  cf : Obj
noncomputable def H1.get (d : D) : H1 → Obj :=
  D.rec (motive := fun _ => H1 → Obj) (fun q => q.c0) (fun q => q.c1) (fun q => q.c2) (fun q => q.c3) (fun q => q.c4) (fun q => q.c5) (fun q => q.c6) (fun q => q.c7) (fun q => q.c8) (fun q => q.c9) (fun q => q.ca) (fun q => q.cb) (fun q => q.cc) (fun q => q.cd) (fun q => q.ce) (fun q => q.cf) d
noncomputable def H1.set (d : D) : Obj → H1 → H1 :=
  D.rec (motive := fun _ => Obj → H1 → H1)
    (fun y q => H1.rec (motive := fun _ => H1) (fun _ y1 y2 y3 y4 y5 y6 y7 y8 y9 ya yb yc yd ye yf => ⟨y, y1, y2, y3, y4, y5, y6, y7, y8, y9, ya, yb, yc, yd, ye, yf⟩) q)
    (fun y q => H1.rec (motive := fun _ => H1) (fun y0 _ y2 y3 y4 y5 y6 y7 y8 y9 ya yb yc yd ye yf => ⟨y0, y, y2, y3, y4, y5, y6, y7, y8, y9, ya, yb, yc, yd, ye, yf⟩) q)
    (fun y q => H1.rec (motive := fun _ => H1) (fun y0 y1 _ y3 y4 y5 y6 y7 y8 y9 ya yb yc yd ye yf => ⟨y0, y1, y, y3, y4, y5, y6, y7, y8, y9, ya, yb, yc, yd, ye, yf⟩) q)
    (fun y q => H1.rec (motive := fun _ => H1) (fun y0 y1 y2 _ y4 y5 y6 y7 y8 y9 ya yb yc yd ye yf => ⟨y0, y1, y2, y, y4, y5, y6, y7, y8, y9, ya, yb, yc, yd, ye, yf⟩) q)
    (fun y q => H1.rec (motive := fun _ => H1) (fun y0 y1 y2 y3 _ y5 y6 y7 y8 y9 ya yb yc yd ye yf => ⟨y0, y1, y2, y3, y, y5, y6, y7, y8, y9, ya, yb, yc, yd, ye, yf⟩) q)
    (fun y q => H1.rec (motive := fun _ => H1) (fun y0 y1 y2 y3 y4 _ y6 y7 y8 y9 ya yb yc yd ye yf => ⟨y0, y1, y2, y3, y4, y, y6, y7, y8, y9, ya, yb, yc, yd, ye, yf⟩) q)
    (fun y q => H1.rec (motive := fun _ => H1) (fun y0 y1 y2 y3 y4 y5 _ y7 y8 y9 ya yb yc yd ye yf => ⟨y0, y1, y2, y3, y4, y5, y, y7, y8, y9, ya, yb, yc, yd, ye, yf⟩) q)
    (fun y q => H1.rec (motive := fun _ => H1) (fun y0 y1 y2 y3 y4 y5 y6 _ y8 y9 ya yb yc yd ye yf => ⟨y0, y1, y2, y3, y4, y5, y6, y, y8, y9, ya, yb, yc, yd, ye, yf⟩) q)
    (fun y q => H1.rec (motive := fun _ => H1) (fun y0 y1 y2 y3 y4 y5 y6 y7 _ y9 ya yb yc yd ye yf => ⟨y0, y1, y2, y3, y4, y5, y6, y7, y, y9, ya, yb, yc, yd, ye, yf⟩) q)
    (fun y q => H1.rec (motive := fun _ => H1) (fun y0 y1 y2 y3 y4 y5 y6 y7 y8 _ ya yb yc yd ye yf => ⟨y0, y1, y2, y3, y4, y5, y6, y7, y8, y, ya, yb, yc, yd, ye, yf⟩) q)
    (fun y q => H1.rec (motive := fun _ => H1) (fun y0 y1 y2 y3 y4 y5 y6 y7 y8 y9 _ yb yc yd ye yf => ⟨y0, y1, y2, y3, y4, y5, y6, y7, y8, y9, y, yb, yc, yd, ye, yf⟩) q)
    (fun y q => H1.rec (motive := fun _ => H1) (fun y0 y1 y2 y3 y4 y5 y6 y7 y8 y9 ya _ yc yd ye yf => ⟨y0, y1, y2, y3, y4, y5, y6, y7, y8, y9, ya, y, yc, yd, ye, yf⟩) q)
    (fun y q => H1.rec (motive := fun _ => H1) (fun y0 y1 y2 y3 y4 y5 y6 y7 y8 y9 ya yb _ yd ye yf => ⟨y0, y1, y2, y3, y4, y5, y6, y7, y8, y9, ya, yb, y, yd, ye, yf⟩) q)
    (fun y q => H1.rec (motive := fun _ => H1) (fun y0 y1 y2 y3 y4 y5 y6 y7 y8 y9 ya yb yc _ ye yf => ⟨y0, y1, y2, y3, y4, y5, y6, y7, y8, y9, ya, yb, yc, y, ye, yf⟩) q)
    (fun y q => H1.rec (motive := fun _ => H1) (fun y0 y1 y2 y3 y4 y5 y6 y7 y8 y9 ya yb yc yd _ yf => ⟨y0, y1, y2, y3, y4, y5, y6, y7, y8, y9, ya, yb, yc, yd, y, yf⟩) q)
    (fun y q => H1.rec (motive := fun _ => H1) (fun y0 y1 y2 y3 y4 y5 y6 y7 y8 y9 ya yb yc yd ye _ => ⟨y0, y1, y2, y3, y4, y5, y6, y7, y8, y9, ya, yb, yc, yd, ye, y⟩) q) d
def H1.all (x : Obj) : H1 := ⟨x, x, x, x, x, x, x, x, x, x, x, x, x, x, x, x⟩
theorem H1.get_set (d d' : D) (y : Obj) (q : H1) : H1.get d (H1.set d' y q) = if d = d' then y else H1.get d q := by
  cases d <;> cases d' <;> rfl
theorem H1.get_all (d : D) (x : Obj) : H1.get d (H1.all x) = x := by cases d <;> rfl
structure H2 where
  c0 : H1
  c1 : H1
  c2 : H1
  c3 : H1
  c4 : H1
  c5 : H1
  c6 : H1
  c7 : H1
  c8 : H1
  c9 : H1
  ca : H1
  cb : H1
  cc : H1
  cd : H1
  ce : H1
  cf : H1
noncomputable def H2.get (d : D) : H2 → H1 :=
  D.rec (motive := fun _ => H2 → H1) (fun q => q.c0) (fun q => q.c1) (fun q => q.c2) (fun q => q.c3) (fun q => q.c4) (fun q => q.c5) (fun q => q.c6) (fun q => q.c7) (fun q => q.c8) (fun q => q.c9) (fun q => q.ca) (fun q => q.cb) (fun q => q.cc) (fun q => q.cd) (fun q => q.ce) (fun q => q.cf) d
noncomputable def H2.set (d : D) : H1 → H2 → H2 :=
  D.rec (motive := fun _ => H1 → H2 → H2)
    (fun y q => H2.rec (motive := fun _ => H2) (fun _ y1 y2 y3 y4 y5 y6 y7 y8 y9 ya yb yc yd ye yf => ⟨y, y1, y2, y3, y4, y5, y6, y7, y8, y9, ya, yb, yc, yd, ye, yf⟩) q)
    (fun y q => H2.rec (motive := fun _ => H2) (fun y0 _ y2 y3 y4 y5 y6 y7 y8 y9 ya yb yc yd ye yf => ⟨y0, y, y2, y3, y4, y5, y6, y7, y8, y9, ya, yb, yc, yd, ye, yf⟩) q)
    (fun y q => H2.rec (motive := fun _ => H2) (fun y0 y1 _ y3 y4 y5 y6 y7 y8 y9 ya yb yc yd ye yf => ⟨y0, y1, y, y3, y4, y5, y6, y7, y8, y9, ya, yb, yc, yd, ye, yf⟩) q)
    (fun y q => H2.rec (motive := fun _ => H2) (fun y0 y1 y2 _ y4 y5 y6 y7 y8 y9 ya yb yc yd ye yf => ⟨y0, y1, y2, y, y4, y5, y6, y7, y8, y9, ya, yb, yc, yd, ye, yf⟩) q)
    (fun y q => H2.rec (motive := fun _ => H2) (fun y0 y1 y2 y3 _ y5 y6 y7 y8 y9 ya yb yc yd ye yf => ⟨y0, y1, y2, y3, y, y5, y6, y7, y8, y9, ya, yb, yc, yd, ye, yf⟩) q)
    (fun y q => H2.rec (motive := fun _ => H2) (fun y0 y1 y2 y3 y4 _ y6 y7 y8 y9 ya yb yc yd ye yf => ⟨y0, y1, y2, y3, y4, y, y6, y7, y8, y9, ya, yb, yc, yd, ye, yf⟩) q)
    (fun y q => H2.rec (motive := fun _ => H2) (fun y0 y1 y2 y3 y4 y5 _ y7 y8 y9 ya yb yc yd ye yf => ⟨y0, y1, y2, y3, y4, y5, y, y7, y8, y9, ya, yb, yc, yd, ye, yf⟩) q)
    (fun y q => H2.rec (motive := fun _ => H2) (fun y0 y1 y2 y3 y4 y5 y6 _ y8 y9 ya yb yc yd ye yf => ⟨y0, y1, y2, y3, y4, y5, y6, y, y8, y9, ya, yb, yc, yd, ye, yf⟩) q)
    (fun y q => H2.rec (motive := fun _ => H2) (fun y0 y1 y2 y3 y4 y5 y6 y7 _ y9 ya yb yc yd ye yf => ⟨y0, y1, y2, y3, y4, y5, y6, y7, y, y9, ya, yb, yc, yd, ye, yf⟩) q)
    (fun y q => H2.rec (motive := fun _ => H2) (fun y0 y1 y2 y3 y4 y5 y6 y7 y8 _ ya yb yc yd ye yf => ⟨y0, y1, y2, y3, y4, y5, y6, y7, y8, y, ya, yb, yc, yd, ye, yf⟩) q)
    (fun y q => H2.rec (motive := fun _ => H2) (fun y0 y1 y2 y3 y4 y5 y6 y7 y8 y9 _ yb yc yd ye yf => ⟨y0, y1, y2, y3, y4, y5, y6, y7, y8, y9, y, yb, yc, yd, ye, yf⟩) q)
    (fun y q => H2.rec (motive := fun _ => H2) (fun y0 y1 y2 y3 y4 y5 y6 y7 y8 y9 ya _ yc yd ye yf => ⟨y0, y1, y2, y3, y4, y5, y6, y7, y8, y9, ya, y, yc, yd, ye, yf⟩) q)
    (fun y q => H2.rec (motive := fun _ => H2) (fun y0 y1 y2 y3 y4 y5 y6 y7 y8 y9 ya yb _ yd ye yf => ⟨y0, y1, y2, y3, y4, y5, y6, y7, y8, y9, ya, yb, y, yd, ye, yf⟩) q)
    (fun y q => H2.rec (motive := fun _ => H2) (fun y0 y1 y2 y3 y4 y5 y6 y7 y8 y9 ya yb yc _ ye yf => ⟨y0, y1, y2, y3, y4, y5, y6, y7, y8, y9, ya, yb, yc, y, ye, yf⟩) q)
    (fun y q => H2.rec (motive := fun _ => H2) (fun y0 y1 y2 y3 y4 y5 y6 y7 y8 y9 ya yb yc yd _ yf => ⟨y0, y1, y2, y3, y4, y5, y6, y7, y8, y9, ya, yb, yc, yd, y, yf⟩) q)
    (fun y q => H2.rec (motive := fun _ => H2) (fun y0 y1 y2 y3 y4 y5 y6 y7 y8 y9 ya yb yc yd ye _ => ⟨y0, y1, y2, y3, y4, y5, y6, y7, y8, y9, ya, yb, yc, yd, ye, y⟩) q) d
def H2.all (x : H1) : H2 := ⟨x, x, x, x, x, x, x, x, x, x, x, x, x, x, x, x⟩
theorem H2.get_set (d d' : D) (y : H1) (q : H2) : H2.get d (H2.set d' y q) = if d = d' then y else H2.get d q := by
  cases d <;> cases d' <;> rfl
theorem H2.get_all (d : D) (x : H1) : H2.get d (H2.all x) = x := by cases d <;> rfl
structure H3 where
  c0 : H2
  c1 : H2
  c2 : H2
  c3 : H2
  c4 : H2
  c5 : H2
  c6 : H2
  c7 : H2
  c8 : H2
  c9 : H2
  ca : H2
  cb : H2
  cc : H2
  cd : H2
  ce : H2
  cf : H2
noncomputable def H3.get (d : D) : H3 → H2 :=
  D.rec (motive := fun _ => H3 → H2) (fun q => q.c0) (fun q => q.c1) (fun q => q.c2) (fun q => q.c3) (fun q => q.c4) (fun q => q.c5) (fun q => q.c6) (fun q => q.c7) (fun q => q.c8) (fun q => q.c9) (fun q => q.ca) (fun q => q.cb) (fun q => q.cc) (fun q => q.cd) (fun q => q.ce) (fun q => q.cf) d
noncomputable def H3.set (d : D) : H2 → H3 → H3 :=
  D.rec (motive := fun _ => H2 → H3 → H3)
    (fun y q => H3.rec (motive := fun _ => H3) (fun _ y1 y2 y3 y4 y5 y6 y7 y8 y9 ya yb yc yd ye yf => ⟨y, y1, y2, y3, y4, y5, y6, y7, y8, y9, ya, yb, yc, yd, ye, yf⟩) q)
    (fun y q => H3.rec (motive := fun _ => H3) (fun y0 _ y2 y3 y4 y5 y6 y7 y8 y9 ya yb yc yd ye yf => ⟨y0, y, y2, y3, y4, y5, y6, y7, y8, y9, ya, yb, yc, yd, ye, yf⟩) q)
    (fun y q => H3.rec (motive := fun _ => H3) (fun y0 y1 _ y3 y4 y5 y6 y7 y8 y9 ya yb yc yd ye yf => ⟨y0, y1, y, y3, y4, y5, y6, y7, y8, y9, ya, yb, yc, yd, ye, yf⟩) q)
    (fun y q => H3.rec (motive := fun _ => H3) (fun y0 y1 y2 _ y4 y5 y6 y7 y8 y9 ya yb yc yd ye yf => ⟨y0, y1, y2, y, y4, y5, y6, y7, y8, y9, ya, yb, yc, yd, ye, yf⟩) q)
    (fun y q => H3.rec (motive := fun _ => H3) (fun y0 y1 y2 y3 _ y5 y6 y7 y8 y9 ya yb yc yd ye yf => ⟨y0, y1, y2, y3, y, y5, y6, y7, y8, y9, ya, yb, yc, yd, ye, yf⟩) q)
    (fun y q => H3.rec (motive := fun _ => H3) (fun y0 y1 y2 y3 y4 _ y6 y7 y8 y9 ya yb yc yd ye yf => ⟨y0, y1, y2, y3, y4, y, y6, y7, y8, y9, ya, yb, yc, yd, ye, yf⟩) q)
    (fun y q => H3.rec (motive := fun _ => H3) (fun y0 y1 y2 y3 y4 y5 _ y7 y8 y9 ya yb yc yd ye yf => ⟨y0, y1, y2, y3, y4, y5, y, y7, y8, y9, ya, yb, yc, yd, ye, yf⟩) q)
    (fun y q => H3.rec (motive := fun _ => H3) (fun y0 y1 y2 y3 y4 y5 y6 _ y8 y9 ya yb yc yd ye yf => ⟨y0, y1, y2, y3, y4, y5, y6, y, y8, y9, ya, yb, yc, yd, ye, yf⟩) q)
    (fun y q => H3.rec (motive := fun _ => H3) (fun y0 y1 y2 y3 y4 y5 y6 y7 _ y9 ya yb yc yd ye yf => ⟨y0, y1, y2, y3, y4, y5, y6, y7, y, y9, ya, yb, yc, yd, ye, yf⟩) q)
    (fun y q => H3.rec (motive := fun _ => H3) (fun y0 y1 y2 y3 y4 y5 y6 y7 y8 _ ya yb yc yd ye yf => ⟨y0, y1, y2, y3, y4, y5, y6, y7, y8, y, ya, yb, yc, yd, ye, yf⟩) q)
    (fun y q => H3.rec (motive := fun _ => H3) (fun y0 y1 y2 y3 y4 y5 y6 y7 y8 y9 _ yb yc yd ye yf => ⟨y0, y1, y2, y3, y4, y5, y6, y7, y8, y9, y, yb, yc, yd, ye, yf⟩) q)
    (fun y q => H3.rec (motive := fun _ => H3) (fun y0 y1 y2 y3 y4 y5 y6 y7 y8 y9 ya _ yc yd ye yf => ⟨y0, y1, y2, y3, y4, y5, y6, y7, y8, y9, ya, y, yc, yd, ye, yf⟩) q)
    (fun y q => H3.rec (motive := fun _ => H3) (fun y0 y1 y2 y3 y4 y5 y6 y7 y8 y9 ya yb _ yd ye yf => ⟨y0, y1, y2, y3, y4, y5, y6, y7, y8, y9, ya, yb, y, yd, ye, yf⟩) q)
    (fun y q => H3.rec (motive := fun _ => H3) (fun y0 y1 y2 y3 y4 y5 y6 y7 y8 y9 ya yb yc _ ye yf => ⟨y0, y1, y2, y3, y4, y5, y6, y7, y8, y9, ya, yb, yc, y, ye, yf⟩) q)
    (fun y q => H3.rec (motive := fun _ => H3) (fun y0 y1 y2 y3 y4 y5 y6 y7 y8 y9 ya yb yc yd _ yf => ⟨y0, y1, y2, y3, y4, y5, y6, y7, y8, y9, ya, yb, yc, yd, y, yf⟩) q)
    (fun y q => H3.rec (motive := fun _ => H3) (fun y0 y1 y2 y3 y4 y5 y6 y7 y8 y9 ya yb yc yd ye _ => ⟨y0, y1, y2, y3, y4, y5, y6, y7, y8, y9, ya, yb, yc, yd, ye, y⟩) q) d
def H3.all (x : H2) : H3 := ⟨x, x, x, x, x, x, x, x, x, x, x, x, x, x, x, x⟩
theorem H3.get_set (d d' : D) (y : H2) (q : H3) : H3.get d (H3.set d' y q) = if d = d' then y else H3.get d q := by
  cases d <;> cases d' <;> rfl
theorem H3.get_all (d : D) (x : H2) : H3.get d (H3.all x) = x := by cases d <;> rfl
structure H4 where
  c0 : H3
  c1 : H3
  c2 : H3
  c3 : H3
  c4 : H3
  c5 : H3
  c6 : H3
  c7 : H3
  c8 : H3
  c9 : H3
  ca : H3
  cb : H3
  cc : H3
  cd : H3
  ce : H3
  cf : H3
noncomputable def H4.get (d : D) : H4 → H3 :=
  D.rec (motive := fun _ => H4 → H3) (fun q => q.c0) (fun q => q.c1) (fun q => q.c2) (fun q => q.c3) (fun q => q.c4) (fun q => q.c5) (fun q => q.c6) (fun q => q.c7) (fun q => q.c8) (fun q => q.c9) (fun q => q.ca) (fun q => q.cb) (fun q => q.cc) (fun q => q.cd) (fun q => q.ce) (fun q => q.cf) d
noncomputable def H4.set (d : D) : H3 → H4 → H4 :=
  D.rec (motive := fun _ => H3 → H4 → H4)
    (fun y q => H4.rec (motive := fun _ => H4) (fun _ y1 y2 y3 y4 y5 y6 y7 y8 y9 ya yb yc yd ye yf => ⟨y, y1, y2, y3, y4, y5, y6, y7, y8, y9, ya, yb, yc, yd, ye, yf⟩) q)
    (fun y q => H4.rec (motive := fun _ => H4) (fun y0 _ y2 y3 y4 y5 y6 y7 y8 y9 ya yb yc yd ye yf => ⟨y0, y, y2, y3, y4, y5, y6, y7, y8, y9, ya, yb, yc, yd, ye, yf⟩) q)
    (fun y q => H4.rec (motive := fun _ => H4) (fun y0 y1 _ y3 y4 y5 y6 y7 y8 y9 ya yb yc yd ye yf => ⟨y0, y1, y, y3, y4, y5, y6, y7, y8, y9, ya, yb, yc, yd, ye, yf⟩) q)
    (fun y q => H4.rec (motive := fun _ => H4) (fun y0 y1 y2 _ y4 y5 y6 y7 y8 y9 ya yb yc yd ye yf => ⟨y0, y1, y2, y, y4, y5, y6, y7, y8, y9, ya, yb, yc, yd, ye, yf⟩) q)
    (fun y q => H4.rec (motive := fun _ => H4) (fun y0 y1 y2 y3 _ y5 y6 y7 y8 y9 ya yb yc yd ye yf => ⟨y0, y1, y2, y3, y, y5, y6, y7, y8, y9, ya, yb, yc, yd, ye, yf⟩) q)
    (fun y q => H4.rec (motive := fun _ => H4) (fun y0 y1 y2 y3 y4 _ y6 y7 y8 y9 ya yb yc yd ye yf => ⟨y0, y1, y2, y3, y4, y, y6, y7, y8, y9, ya, yb, yc, yd, ye, yf⟩) q)
    (fun y q => H4.rec (motive := fun _ => H4) (fun y0 y1 y2 y3 y4 y5 _ y7 y8 y9 ya yb yc yd ye yf => ⟨y0, y1, y2, y3, y4, y5, y, y7, y8, y9, ya, yb, yc, yd, ye, yf⟩) q)
    (fun y q => H4.rec (motive := fun _ => H4) (fun y0 y1 y2 y3 y4 y5 y6 _ y8 y9 ya yb yc yd ye yf => ⟨y0, y1, y2, y3, y4, y5, y6, y, y8, y9, ya, yb, yc, yd, ye, yf⟩) q)
    (fun y q => H4.rec (motive := fun _ => H4) (fun y0 y1 y2 y3 y4 y5 y6 y7 _ y9 ya yb yc yd ye yf => ⟨y0, y1, y2, y3, y4, y5, y6, y7, y, y9, ya, yb, yc, yd, ye, yf⟩) q)
    (fun y q => H4.rec (motive := fun _ => H4) (fun y0 y1 y2 y3 y4 y5 y6 y7 y8 _ ya yb yc yd ye yf => ⟨y0, y1, y2, y3, y4, y5, y6, y7, y8, y, ya, yb, yc, yd, ye, yf⟩) q)
    (fun y q => H4.rec (motive := fun _ => H4) (fun y0 y1 y2 y3 y4 y5 y6 y7 y8 y9 _ yb yc yd ye yf => ⟨y0, y1, y2, y3, y4, y5, y6, y7, y8, y9, y, yb, yc, yd, ye, yf⟩) q)
    (fun y q => H4.rec (motive := fun _ => H4) (fun y0 y1 y2 y3 y4 y5 y6 y7 y8 y9 ya _ yc yd ye yf => ⟨y0, y1, y2, y3, y4, y5, y6, y7, y8, y9, ya, y, yc, yd, ye, yf⟩) q)
    (fun y q => H4.rec (motive := fun _ => H4) (fun y0 y1 y2 y3 y4 y5 y6 y7 y8 y9 ya yb _ yd ye yf => ⟨y0, y1, y2, y3, y4, y5, y6, y7, y8, y9, ya, yb, y, yd, ye, yf⟩) q)
    (fun y q => H4.rec (motive := fun _ => H4) (fun y0 y1 y2 y3 y4 y5 y6 y7 y8 y9 ya yb yc _ ye yf => ⟨y0, y1, y2, y3, y4, y5, y6, y7, y8, y9, ya, yb, yc, y, ye, yf⟩) q)
    (fun y q => H4.rec (motive := fun _ => H4) (fun y0 y1 y2 y3 y4 y5 y6 y7 y8 y9 ya yb yc yd _ yf => ⟨y0, y1, y2, y3, y4, y5, y6, y7, y8, y9, ya, yb, yc, yd, y, yf⟩) q)
    (fun y q => H4.rec (motive := fun _ => H4) (fun y0 y1 y2 y3 y4 y5 y6 y7 y8 y9 ya yb yc yd ye _ => ⟨y0, y1, y2, y3, y4, y5, y6, y7, y8, y9, ya, yb, yc, yd, ye, y⟩) q) d
def H4.all (x : H3) : H4 := ⟨x, x, x, x, x, x, x, x, x, x, x, x, x, x, x, x⟩
theorem H4.get_set (d d' : D) (y : H3) (q : H4) : H4.get d (H4.set d' y q) = if d = d' then y else H4.get d q := by
  cases d <;> cases d' <;> rfl
theorem H4.get_all (d : D) (x : H3) : H4.get d (H4.all x) = x := by cases d <;> rfl

noncomputable def H4.at (k : K) (h : H4) : Obj := H1.get k.a (H2.get k.b (H3.get k.c (H4.get k.d h)))
noncomputable def H4.put (k : K) (x : Obj) (h : H4) : H4 :=
  H4.set k.d (H3.set k.c (H2.set k.b (H1.set k.a x (H2.get k.b (H3.get k.c (H4.get k.d h)))) (H3.get k.c (H4.get k.d h))) (H4.get k.d h)) h
def H4.empty : H4 := H4.all (H3.all (H2.all (H1.all .none)))
noncomputable def E2.at (i j : D) (e : E2) : V := E1.get j (E2.get i e)
noncomputable def E2.put (i j : D) (x : V) (e : E2) : E2 := E2.set i (E1.set j x (E2.get i e)) e
def E2.empty : E2 := E2.all (E1.all .undef)

structure St where
  h : H4
  nk : K
  nx : Nat

/-- One operation's result. -/
inductive RO where
  | ok (v : V) (s : St)
  | call (f : Nat) (args : V) (s : St)
  | bad (why : Nat)

inductive R where
  | norm (e : E2) (s : St)
  | exit (id : Nat) (e : E2) (s : St)
  | goto (l : Nat) (e : E2) (s : St)
  | ret (e : E2) (s : St)
  | bad (why : Nat)

/-- A call's result. -/
inductive RC where
  | ok (v : V) (s : St)
  | bad (why : Nat)

/-! Small options: what a value is. -/
inductive OI where
  | no
  | yes (k : IntKind) (n : Int)
inductive OB where
  | no
  | yes (b : Bool)
inductive OS where
  | no
  | yes (len data : Nat)
inductive OP where
  | no
  | yes (f : K) (v o : Nat)
inductive OL where
  | no
  | nils
  | yes (f : K) (v o len cap : Nat) (ex : Bool) (es : Nat)
inductive OV where
  | no
  | yes (v : V)
inductive OC where
  | no
  | yes (elem sz : Nat) (ro : Bool) (flo fhi : Nat) (vs : Ver)
inductive OW where
  | no
  | yes (n : Nat) (ch : V)
inductive OCell where
  | no
  | yes (vs : Ver)

noncomputable def V.hd (v : V) : V := V.rec (motive := fun _ => V) .undef (fun _ => .undef) (fun _ _ => .undef) (fun _ _ => .undef) .undef (fun _ _ _ => .undef) .undef (fun _ _ _ _ _ _ _ => .undef) .undef (fun _ _ => .undef) .undef (fun _ _ _ _ _ => .undef) .undef (fun _ _ _ => .undef) (fun _ _ => .undef) (fun _ _ => .undef) (fun _ => .undef) (fun _ => .undef) .undef (fun h t _ _ => h) v
noncomputable def V.tl (v : V) : V := V.rec (motive := fun _ => V) .undef (fun _ => .undef) (fun _ _ => .undef) (fun _ _ => .undef) .undef (fun _ _ _ => .undef) .undef (fun _ _ _ _ _ _ _ => .undef) .undef (fun _ _ => .undef) .undef (fun _ _ _ _ _ => .undef) .undef (fun _ _ _ => .undef) (fun _ _ => .undef) (fun _ _ => .undef) (fun _ => .undef) (fun _ => .undef) .undef (fun h t _ _ => t) v
noncomputable def V.isCons (v : V) : Bool := V.rec (motive := fun _ => Bool) false (fun _ => false) (fun _ _ => false) (fun _ _ => false) false (fun _ _ _ => false) false (fun _ _ _ _ _ _ _ => false) false (fun _ _ => false) false (fun _ _ _ _ _ => false) false (fun _ _ _ => false) (fun _ _ => false) (fun _ _ => false) (fun _ => false) (fun _ => false) false (fun h t _ _ => true) v
noncomputable def V.int? (v : V) : OI := V.rec (motive := fun _ => OI) .no (fun _ => .no) (fun k n => .yes k n) (fun _ _ => .no) .no (fun _ _ _ => .no) .no (fun _ _ _ _ _ _ _ => .no) .no (fun _ _ => .no) .no (fun _ _ _ _ _ => .no) .no (fun _ _ _ => .no) (fun _ _ => .no) (fun _ _ => .no) (fun _ => .no) (fun _ => .no) .no (fun _ _ _ _ => .no) v
noncomputable def V.bool? (v : V) : OB := V.rec (motive := fun _ => OB) .no (fun b => .yes b) (fun _ _ => .no) (fun _ _ => .no) .no (fun _ _ _ => .no) .no (fun _ _ _ _ _ _ _ => .no) .no (fun _ _ => .no) .no (fun _ _ _ _ _ => .no) .no (fun _ _ _ => .no) (fun _ _ => .no) (fun _ _ => .no) (fun _ => .no) (fun _ => .no) .no (fun _ _ _ _ => .no) v
noncomputable def V.str? (v : V) : OS := V.rec (motive := fun _ => OS) .no (fun _ => .no) (fun _ _ => .no) (fun l d => .yes l d) .no (fun _ _ _ => .no) .no (fun _ _ _ _ _ _ _ => .no) .no (fun _ _ => .no) .no (fun _ _ _ _ _ => .no) .no (fun _ _ _ => .no) (fun _ _ => .no) (fun _ _ => .no) (fun _ => .no) (fun _ => .no) .no (fun _ _ _ _ => .no) v
noncomputable def V.ptr? (v : V) : OP := V.rec (motive := fun _ => OP) .no (fun _ => .no) (fun _ _ => .no) (fun _ _ => .no) .no (fun f v o => .yes f v o) .no (fun _ _ _ _ _ _ _ => .no) .no (fun _ _ => .no) .no (fun _ _ _ _ _ => .no) .no (fun _ _ _ => .no) (fun _ _ => .no) (fun _ _ => .no) (fun _ => .no) (fun _ => .no) .no (fun _ _ _ _ => .no) v
noncomputable def V.sl? (v : V) : OL := V.rec (motive := fun _ => OL) .no (fun _ => .no) (fun _ _ => .no) (fun _ _ => .no) .no (fun _ _ _ => .no) .nils (fun f v o len cap ex es => .yes f v o len cap ex es) .no (fun _ _ => .no) .no (fun _ _ _ _ _ => .no) .no (fun _ _ _ => .no) (fun _ _ => .no) (fun _ _ => .no) (fun _ => .no) (fun _ => .no) .no (fun _ _ _ _ => .no) v
noncomputable def V.agg? (v : V) : OV := V.rec (motive := fun _ => OV) .no (fun _ => .no) (fun _ _ => .no) (fun _ _ => .no) .no (fun _ _ _ => .no) .no (fun _ _ _ _ _ _ _ => .no) .no (fun _ _ => .no) .no (fun _ _ _ _ _ => .no) .no (fun _ _ _ => .no) (fun cs _ => .yes cs) (fun _ _ => .no) (fun _ => .no) (fun _ => .no) .no (fun _ _ _ _ => .no) v
noncomputable def V.tup? (v : V) : OV := V.rec (motive := fun _ => OV) .no (fun _ => .no) (fun _ _ => .no) (fun _ _ => .no) .no (fun _ _ _ => .no) .no (fun _ _ _ _ _ _ _ => .no) .no (fun _ _ => .no) .no (fun _ _ _ _ _ => .no) .no (fun _ _ _ => .no) (fun _ _ => .no) (fun cs _ => .yes cs) (fun _ => .no) (fun _ => .no) .no (fun _ _ _ _ => .no) v
noncomputable def V.isUndef (v : V) : Bool := V.rec (motive := fun _ => Bool) true (fun _ => false) (fun _ _ => false) (fun _ _ => false) false (fun _ _ _ => false) false (fun _ _ _ _ _ _ _ => false) false (fun _ _ => false) false (fun _ _ _ _ _ => false) false (fun _ _ _ => false) (fun _ _ => false) (fun _ _ => false) (fun _ => false) (fun _ => false) false (fun _ _ _ _ => false) v
noncomputable def V.isEnd (v : V) : Bool := V.rec (motive := fun _ => Bool) false (fun _ => false) (fun _ _ => false) (fun _ _ => false) false (fun _ _ _ => false) false (fun _ _ _ _ _ _ _ => false) false (fun _ _ => false) false (fun _ _ _ _ _ => false) false (fun _ _ _ => false) (fun _ _ => false) (fun _ _ => false) (fun _ => false) (fun _ => false) true (fun _ _ _ _ => false) v
noncomputable def V.unc (v : V) : (V → V → V) → V := V.rec (motive := fun _ => (V → V → V) → V) (fun k => k .undef .undef) (fun _ => (fun k => k .undef .undef)) (fun _ _ => (fun k => k .undef .undef)) (fun _ _ => (fun k => k .undef .undef)) (fun k => k .undef .undef) (fun _ _ _ => (fun k => k .undef .undef)) (fun k => k .undef .undef) (fun _ _ _ _ _ _ _ => (fun k => k .undef .undef)) (fun k => k .undef .undef) (fun _ _ => (fun k => k .undef .undef)) (fun k => k .undef .undef) (fun _ _ _ _ _ => (fun k => k .undef .undef)) (fun k => k .undef .undef) (fun _ _ _ => (fun k => k .undef .undef)) (fun _ _ => (fun k => k .undef .undef)) (fun _ _ => (fun k => k .undef .undef)) (fun _ => (fun k => k .undef .undef)) (fun _ => (fun k => k .undef .undef)) (fun k => k .undef .undef) (fun h t _ _ => (fun k => k h t)) v

/-- the cells of a value -/
noncomputable def V.cells (v : V) : V := OV.rec (motive := fun _ => V) (.cons v .nil) (fun cs => cs) (V.agg? v)
noncomputable def V.drop (n : Nat) (l : V) : V := Nat.rec (motive := fun _ => V → V) (fun l => l) (fun _ ih l => ih (V.tl l)) n l
noncomputable def V.nth (n : Nat) (l : V) : V := V.hd (V.drop n l)
/-- the first n of l, then t -/
noncomputable def V.takeOn (n : Nat) (l t : V) : V := Nat.rec (motive := fun _ => V → V) (fun _ => t) (fun _ ih l => V.unc l (fun h u => .cons h (ih u))) n l
noncomputable def V.setNth (n : Nat) (x l : V) : V :=
  Nat.rec (motive := fun _ => V → V) (fun l => V.unc l (fun _ u => .cons x u)) (fun _ ih l => V.unc l (fun h u => .cons h (ih u))) n l
noncomputable def V.len (l : V) : Nat := V.rec (motive := fun _ => Nat) 0 (fun _ => 0) (fun _ _ => 0) (fun _ _ => 0) 0 (fun _ _ _ => 0) 0 (fun _ _ _ _ _ _ _ => 0) 0 (fun _ _ => 0) 0 (fun _ _ _ _ _ => 0) 0 (fun _ _ _ => 0) (fun _ _ => 0) (fun _ _ => 0) (fun _ => 0) (fun _ => 0) 0 (fun _ _ _ n => Nat.succ n) l
noncomputable def V.app (l t : V) : V := V.rec (motive := fun _ => V) t (fun _ => t) (fun _ _ => t) (fun _ _ => t) t (fun _ _ _ => t) t (fun _ _ _ _ _ _ _ => t) t (fun _ _ => t) t (fun _ _ _ _ _ => t) t (fun _ _ _ => t) (fun _ _ => t) (fun _ _ => t) (fun _ => t) (fun _ => t) t (fun h _ _ r => .cons h r) l
/-- are n cells there? -/
noncomputable def V.has (n : Nat) (l : V) : Bool := Nat.rec (motive := fun _ => V → Bool) (fun _ => true) (fun _ ih l => Bool.rec false (ih (V.tl l)) (V.isCons l)) n l

/-! Elements of a row: chunks of sixteen. -/
noncomputable def V.elem (e : Nat) (ch : V) : V := V.nth (Nat.mod e 16) (V.nth (Nat.div e 16) ch)
noncomputable def V.putElem (e : Nat) (x ch : V) : V := V.setNth (Nat.div e 16) (V.setNth (Nat.mod e 16) x (V.nth (Nat.div e 16) ch)) ch
/-- lay elements (a list) from place e on -/
noncomputable def V.putElems (l : V) : Nat → V → V :=
  V.rec (motive := fun _ => Nat → V → V) (fun _ ch => ch) (fun _ => (fun _ ch => ch)) (fun _ _ => (fun _ ch => ch)) (fun _ _ => (fun _ ch => ch)) (fun _ ch => ch) (fun _ _ _ => (fun _ ch => ch)) (fun _ ch => ch) (fun _ _ _ _ _ _ _ => (fun _ ch => ch)) (fun _ ch => ch) (fun _ _ => (fun _ ch => ch)) (fun _ ch => ch) (fun _ _ _ _ _ => (fun _ ch => ch)) (fun _ ch => ch) (fun _ _ _ => (fun _ ch => ch)) (fun _ _ => (fun _ ch => ch)) (fun _ _ => (fun _ ch => ch)) (fun _ => (fun _ ch => ch)) (fun _ => (fun _ ch => ch)) (fun _ ch => ch) (fun h _ _ ih e ch => ih (Nat.succ e) (V.putElem e h ch)) l
/-- n elements from place e on, as a list -/
noncomputable def V.elems (n : Nat) : Nat → V → V :=
  Nat.rec (motive := fun _ => Nat → V → V) (fun _ _ => .nil) (fun _ ih e ch => .cons (V.elem e ch) (ih (Nat.succ e) ch)) n
/-- all of them known? -/
noncomputable def V.known (l : V) : Bool := V.rec (motive := fun _ => Bool) false (fun _ => false) (fun _ _ => false) (fun _ _ => false) false (fun _ _ _ => false) false (fun _ _ _ _ _ _ _ => false) false (fun _ _ => false) false (fun _ _ _ _ _ => false) false (fun _ _ _ => false) (fun _ _ => false) (fun _ _ => false) (fun _ => false) (fun _ => false) true (fun h _ _ r => Bool.rec r false (V.isUndef h)) l
/-- n times x -/
noncomputable def V.rep (n : Nat) (x : V) : V := Nat.rec (motive := fun _ => V) .nil (fun _ ih => .cons x ih) n

/-! Versions. -/
noncomputable def Ver.find (id : Nat) (vs : Ver) : OW :=
  Ver.rec (motive := fun _ => OW) .no (fun i n ch _ ih => Bool.rec ih (.yes n ch) (Nat.beq i id)) vs
noncomputable def Ver.keep (p : Nat) (vs : Ver) : Ver :=
  Ver.rec (motive := fun _ => Ver) .none (fun i n ch _ ih => Bool.rec ih (.more i n ch ih) (Nat.ble n p)) vs
noncomputable def Ver.from (id : Nat) (vs : Ver) : Ver :=
  Ver.rec (motive := fun _ => Ver) .none (fun i n ch rest ih => Bool.rec ih (.more i n ch rest) (Nat.beq i id)) vs
noncomputable def Ver.trim (m : Nat) : Ver → Ver :=
  Nat.rec (motive := fun _ => Ver → Ver) (fun _ => .none) (fun _ ih vs => Ver.rec (motive := fun _ => Ver) .none (fun i n ch rest _ => .more i n ch (ih rest)) vs) m
noncomputable def Ver.rest (vs : Ver) : Ver := Ver.rec (motive := fun _ => Ver) .none (fun _ _ _ rest _ => rest) vs

noncomputable def Obj.cells? (x : Obj) : OC := Obj.rec (motive := fun _ => OC) .no (fun e sz ro a b vs => .yes e sz ro a b vs) (fun _ _ _ => .no) (fun _ _ _ _ => .no) (fun _ _ _ _ _ => .no) (fun _ _ _ _ _ _ _ _ => .no) x
noncomputable def Obj.isNone (x : Obj) : Bool := Obj.rec (motive := fun _ => Bool) true (fun _ _ _ _ _ _ => false) (fun _ _ _ => false) (fun _ _ _ _ => false) (fun _ _ _ _ _ => false) (fun _ _ _ _ _ _ _ _ => false) x

/-! Whole numbers. -/
noncomputable def posBound (k : IntKind) : Nat := IntKind.rec (motive := fun _ => Nat) 128 32768 2147483648 9223372036854775808 256 65536 4294967296 18446744073709551616 k
noncomputable def negBound (k : IntKind) : Nat := IntKind.rec (motive := fun _ => Nat) 128 32768 2147483648 9223372036854775808 0 0 0 0 k
noncomputable def wrapF (k : IntKind) (n : Int) : Int :=
  Int.rec (motive := fun _ => Int) (fun m => Bool.rec (IntKind.wrap k (Int.ofNat m)) (Int.ofNat m) (Nat.ble (Nat.succ m) (posBound k)))
    (fun m => Bool.rec (IntKind.wrap k (Int.negSucc m)) (Int.negSucc m) (Nat.ble (Nat.succ m) (negBound k))) n
noncomputable def kcode (k : IntKind) : Nat := IntKind.rec (motive := fun _ => Nat) 0 1 2 3 4 5 6 7 k
noncomputable def iadd (a b : Int) : Int :=
  Int.rec (motive := fun _ => Int) (fun m => Int.rec (motive := fun _ => Int) (fun n => Int.ofNat (Nat.add m n)) (fun n => Int.add (Int.ofNat m) (Int.negSucc n)) b) (fun m => Int.add (Int.negSucc m) b) a
noncomputable def isub (a b : Int) : Int :=
  Int.rec (motive := fun _ => Int) (fun m => Int.rec (motive := fun _ => Int) (fun n => Bool.rec (Int.negSucc (Nat.sub (Nat.sub n m) 1)) (Int.ofNat (Nat.sub m n)) (Nat.ble n m)) (fun n => Int.ofNat (Nat.add m (Nat.succ n))) b) (fun m => Int.sub (Int.negSucc m) b) a
noncomputable def ieq (a b : Int) : Bool :=
  Int.rec (motive := fun _ => Bool) (fun m => Int.rec (motive := fun _ => Bool) (fun n => Nat.beq m n) (fun _ => false) b) (fun m => Int.rec (motive := fun _ => Bool) (fun _ => false) (fun n => Nat.beq m n) b) a
noncomputable def ile (a b : Int) : Bool :=
  Int.rec (motive := fun _ => Bool) (fun m => Int.rec (motive := fun _ => Bool) (fun n => Nat.ble m n) (fun _ => false) b) (fun m => Int.rec (motive := fun _ => Bool) (fun _ => true) (fun n => Nat.ble n m) b) a
noncomputable def bnot (b : Bool) : Bool := Bool.rec true false b
noncomputable def band (a b : Bool) : Bool := Bool.rec false b a

/-- the answer n, reckoned at once -/
noncomputable def okNat (k : IntKind) (n : Nat) (s : St) : RO :=
  Nat.rec (motive := fun _ => RO) (.ok (.int k (Int.ofNat 0)) s) (fun m _ => .ok (.int k (Int.ofNat (Nat.succ m))) s) n
noncomputable def okInt (k : IntKind) (n : Int) (s : St) : RO :=
  Int.rec (motive := fun _ => RO) (fun m => okNat k m s) (fun m => .ok (.int k (Int.negSucc m)) s) n
noncomputable def okBool (b : Bool) (s : St) : RO := Bool.rec (motive := fun _ => RO) (.ok (.bool false) s) (.ok (.bool true) s) b
noncomputable def okStr (len data : Nat) (s : St) : RO :=
  Nat.rec (motive := fun _ => RO) (.ok (.str 0 0) s) (fun m _ => Nat.rec (motive := fun _ => RO) (.ok (.str (Nat.succ m) 0) s) (fun d _ => .ok (.str (Nat.succ m) (Nat.succ d)) s) data) len

/-! Texts: a text is its length and its bytes as one number, the first byte lowest. -/
def encList : List UInt8 → Nat
  | [] => 0
  | b :: l => b.toNat + 256 * encList l
noncomputable def strAt (data i : Nat) : Nat := Nat.mod (Nat.shiftRight data (Nat.mul 8 i)) 256
noncomputable def strCat (l1 d1 d2 : Nat) : Nat := Nat.add d1 (Nat.shiftLeft d2 (Nat.mul 8 l1))
noncomputable def strCut (data lo hi : Nat) : Nat := Nat.mod (Nat.shiftRight data (Nat.mul 8 lo)) (Nat.pow 2 (Nat.mul 8 (Nat.sub hi lo)))
/-- is the first text less than the second one, from place i on? -/
noncomputable def strLt (l1 d1 l2 d2 : Nat) : Bool :=
  Nat.rec (motive := fun _ => Nat → Nat → Nat → Nat → Bool) (fun _ _ _ _ => false)
    (fun _ ih l1 d1 l2 d2 => Nat.rec (motive := fun _ => Bool) false (fun l2' _ => Nat.rec (motive := fun _ => Bool) true (fun l1' _ =>
      Bool.rec (Nat.ble (Nat.succ (Nat.mod d1 256)) (Nat.mod d2 256)) (ih l1' (Nat.div d1 256) l2' (Nat.div d2 256)) (Nat.beq (Nat.mod d1 256) (Nat.mod d2 256))) l1) l2) (Nat.succ (Nat.add l1 l2)) l1 d1 l2 d2

/-! ## The code as the evaluator reads it -/
/-! A slot's address, once for all: closed functions (the kernel looks no address up again). -/
inductive Get1 where
  | mk (f : E2 → E1)
inductive Get0 where
  | mk (f : E1 → V)
inductive Set1 where
  | mk (f : (E1 → E1) → E2 → E2)
inductive Set0 where
  | mk (f : V → E1 → E1)
noncomputable def get1 (d : D) : Get1 := D.rec (motive := fun _ => Get1) (.mk fun q => q.c0) (.mk fun q => q.c1) (.mk fun q => q.c2) (.mk fun q => q.c3) (.mk fun q => q.c4) (.mk fun q => q.c5) (.mk fun q => q.c6) (.mk fun q => q.c7) (.mk fun q => q.c8) (.mk fun q => q.c9) (.mk fun q => q.ca) (.mk fun q => q.cb) (.mk fun q => q.cc) (.mk fun q => q.cd) (.mk fun q => q.ce) (.mk fun q => q.cf) d
noncomputable def get0 (d : D) : Get0 := D.rec (motive := fun _ => Get0) (.mk fun q => q.c0) (.mk fun q => q.c1) (.mk fun q => q.c2) (.mk fun q => q.c3) (.mk fun q => q.c4) (.mk fun q => q.c5) (.mk fun q => q.c6) (.mk fun q => q.c7) (.mk fun q => q.c8) (.mk fun q => q.c9) (.mk fun q => q.ca) (.mk fun q => q.cb) (.mk fun q => q.cc) (.mk fun q => q.cd) (.mk fun q => q.ce) (.mk fun q => q.cf) d
noncomputable def set1 (d : D) : Set1 := D.rec (motive := fun _ => Set1)
    (.mk fun y q => E2.rec (motive := fun _ => E2) (fun y0 y1 y2 y3 y4 y5 y6 y7 y8 y9 ya yb yc yd ye yf => ⟨y y0, y1, y2, y3, y4, y5, y6, y7, y8, y9, ya, yb, yc, yd, ye, yf⟩) q)
    (.mk fun y q => E2.rec (motive := fun _ => E2) (fun y0 y1 y2 y3 y4 y5 y6 y7 y8 y9 ya yb yc yd ye yf => ⟨y0, y y1, y2, y3, y4, y5, y6, y7, y8, y9, ya, yb, yc, yd, ye, yf⟩) q)
    (.mk fun y q => E2.rec (motive := fun _ => E2) (fun y0 y1 y2 y3 y4 y5 y6 y7 y8 y9 ya yb yc yd ye yf => ⟨y0, y1, y y2, y3, y4, y5, y6, y7, y8, y9, ya, yb, yc, yd, ye, yf⟩) q)
    (.mk fun y q => E2.rec (motive := fun _ => E2) (fun y0 y1 y2 y3 y4 y5 y6 y7 y8 y9 ya yb yc yd ye yf => ⟨y0, y1, y2, y y3, y4, y5, y6, y7, y8, y9, ya, yb, yc, yd, ye, yf⟩) q)
    (.mk fun y q => E2.rec (motive := fun _ => E2) (fun y0 y1 y2 y3 y4 y5 y6 y7 y8 y9 ya yb yc yd ye yf => ⟨y0, y1, y2, y3, y y4, y5, y6, y7, y8, y9, ya, yb, yc, yd, ye, yf⟩) q)
    (.mk fun y q => E2.rec (motive := fun _ => E2) (fun y0 y1 y2 y3 y4 y5 y6 y7 y8 y9 ya yb yc yd ye yf => ⟨y0, y1, y2, y3, y4, y y5, y6, y7, y8, y9, ya, yb, yc, yd, ye, yf⟩) q)
    (.mk fun y q => E2.rec (motive := fun _ => E2) (fun y0 y1 y2 y3 y4 y5 y6 y7 y8 y9 ya yb yc yd ye yf => ⟨y0, y1, y2, y3, y4, y5, y y6, y7, y8, y9, ya, yb, yc, yd, ye, yf⟩) q)
    (.mk fun y q => E2.rec (motive := fun _ => E2) (fun y0 y1 y2 y3 y4 y5 y6 y7 y8 y9 ya yb yc yd ye yf => ⟨y0, y1, y2, y3, y4, y5, y6, y y7, y8, y9, ya, yb, yc, yd, ye, yf⟩) q)
    (.mk fun y q => E2.rec (motive := fun _ => E2) (fun y0 y1 y2 y3 y4 y5 y6 y7 y8 y9 ya yb yc yd ye yf => ⟨y0, y1, y2, y3, y4, y5, y6, y7, y y8, y9, ya, yb, yc, yd, ye, yf⟩) q)
    (.mk fun y q => E2.rec (motive := fun _ => E2) (fun y0 y1 y2 y3 y4 y5 y6 y7 y8 y9 ya yb yc yd ye yf => ⟨y0, y1, y2, y3, y4, y5, y6, y7, y8, y y9, ya, yb, yc, yd, ye, yf⟩) q)
    (.mk fun y q => E2.rec (motive := fun _ => E2) (fun y0 y1 y2 y3 y4 y5 y6 y7 y8 y9 ya yb yc yd ye yf => ⟨y0, y1, y2, y3, y4, y5, y6, y7, y8, y9, y ya, yb, yc, yd, ye, yf⟩) q)
    (.mk fun y q => E2.rec (motive := fun _ => E2) (fun y0 y1 y2 y3 y4 y5 y6 y7 y8 y9 ya yb yc yd ye yf => ⟨y0, y1, y2, y3, y4, y5, y6, y7, y8, y9, ya, y yb, yc, yd, ye, yf⟩) q)
    (.mk fun y q => E2.rec (motive := fun _ => E2) (fun y0 y1 y2 y3 y4 y5 y6 y7 y8 y9 ya yb yc yd ye yf => ⟨y0, y1, y2, y3, y4, y5, y6, y7, y8, y9, ya, yb, y yc, yd, ye, yf⟩) q)
    (.mk fun y q => E2.rec (motive := fun _ => E2) (fun y0 y1 y2 y3 y4 y5 y6 y7 y8 y9 ya yb yc yd ye yf => ⟨y0, y1, y2, y3, y4, y5, y6, y7, y8, y9, ya, yb, yc, y yd, ye, yf⟩) q)
    (.mk fun y q => E2.rec (motive := fun _ => E2) (fun y0 y1 y2 y3 y4 y5 y6 y7 y8 y9 ya yb yc yd ye yf => ⟨y0, y1, y2, y3, y4, y5, y6, y7, y8, y9, ya, yb, yc, yd, y ye, yf⟩) q)
    (.mk fun y q => E2.rec (motive := fun _ => E2) (fun y0 y1 y2 y3 y4 y5 y6 y7 y8 y9 ya yb yc yd ye yf => ⟨y0, y1, y2, y3, y4, y5, y6, y7, y8, y9, ya, yb, yc, yd, ye, y yf⟩) q) d
noncomputable def set0 (d : D) : Set0 := D.rec (motive := fun _ => Set0)
    (.mk fun y q => E1.rec (motive := fun _ => E1) (fun _ y1 y2 y3 y4 y5 y6 y7 y8 y9 ya yb yc yd ye yf => ⟨y, y1, y2, y3, y4, y5, y6, y7, y8, y9, ya, yb, yc, yd, ye, yf⟩) q)
    (.mk fun y q => E1.rec (motive := fun _ => E1) (fun y0 _ y2 y3 y4 y5 y6 y7 y8 y9 ya yb yc yd ye yf => ⟨y0, y, y2, y3, y4, y5, y6, y7, y8, y9, ya, yb, yc, yd, ye, yf⟩) q)
    (.mk fun y q => E1.rec (motive := fun _ => E1) (fun y0 y1 _ y3 y4 y5 y6 y7 y8 y9 ya yb yc yd ye yf => ⟨y0, y1, y, y3, y4, y5, y6, y7, y8, y9, ya, yb, yc, yd, ye, yf⟩) q)
    (.mk fun y q => E1.rec (motive := fun _ => E1) (fun y0 y1 y2 _ y4 y5 y6 y7 y8 y9 ya yb yc yd ye yf => ⟨y0, y1, y2, y, y4, y5, y6, y7, y8, y9, ya, yb, yc, yd, ye, yf⟩) q)
    (.mk fun y q => E1.rec (motive := fun _ => E1) (fun y0 y1 y2 y3 _ y5 y6 y7 y8 y9 ya yb yc yd ye yf => ⟨y0, y1, y2, y3, y, y5, y6, y7, y8, y9, ya, yb, yc, yd, ye, yf⟩) q)
    (.mk fun y q => E1.rec (motive := fun _ => E1) (fun y0 y1 y2 y3 y4 _ y6 y7 y8 y9 ya yb yc yd ye yf => ⟨y0, y1, y2, y3, y4, y, y6, y7, y8, y9, ya, yb, yc, yd, ye, yf⟩) q)
    (.mk fun y q => E1.rec (motive := fun _ => E1) (fun y0 y1 y2 y3 y4 y5 _ y7 y8 y9 ya yb yc yd ye yf => ⟨y0, y1, y2, y3, y4, y5, y, y7, y8, y9, ya, yb, yc, yd, ye, yf⟩) q)
    (.mk fun y q => E1.rec (motive := fun _ => E1) (fun y0 y1 y2 y3 y4 y5 y6 _ y8 y9 ya yb yc yd ye yf => ⟨y0, y1, y2, y3, y4, y5, y6, y, y8, y9, ya, yb, yc, yd, ye, yf⟩) q)
    (.mk fun y q => E1.rec (motive := fun _ => E1) (fun y0 y1 y2 y3 y4 y5 y6 y7 _ y9 ya yb yc yd ye yf => ⟨y0, y1, y2, y3, y4, y5, y6, y7, y, y9, ya, yb, yc, yd, ye, yf⟩) q)
    (.mk fun y q => E1.rec (motive := fun _ => E1) (fun y0 y1 y2 y3 y4 y5 y6 y7 y8 _ ya yb yc yd ye yf => ⟨y0, y1, y2, y3, y4, y5, y6, y7, y8, y, ya, yb, yc, yd, ye, yf⟩) q)
    (.mk fun y q => E1.rec (motive := fun _ => E1) (fun y0 y1 y2 y3 y4 y5 y6 y7 y8 y9 _ yb yc yd ye yf => ⟨y0, y1, y2, y3, y4, y5, y6, y7, y8, y9, y, yb, yc, yd, ye, yf⟩) q)
    (.mk fun y q => E1.rec (motive := fun _ => E1) (fun y0 y1 y2 y3 y4 y5 y6 y7 y8 y9 ya _ yc yd ye yf => ⟨y0, y1, y2, y3, y4, y5, y6, y7, y8, y9, ya, y, yc, yd, ye, yf⟩) q)
    (.mk fun y q => E1.rec (motive := fun _ => E1) (fun y0 y1 y2 y3 y4 y5 y6 y7 y8 y9 ya yb _ yd ye yf => ⟨y0, y1, y2, y3, y4, y5, y6, y7, y8, y9, ya, yb, y, yd, ye, yf⟩) q)
    (.mk fun y q => E1.rec (motive := fun _ => E1) (fun y0 y1 y2 y3 y4 y5 y6 y7 y8 y9 ya yb yc _ ye yf => ⟨y0, y1, y2, y3, y4, y5, y6, y7, y8, y9, ya, yb, yc, y, ye, yf⟩) q)
    (.mk fun y q => E1.rec (motive := fun _ => E1) (fun y0 y1 y2 y3 y4 y5 y6 y7 y8 y9 ya yb yc yd _ yf => ⟨y0, y1, y2, y3, y4, y5, y6, y7, y8, y9, ya, yb, yc, yd, y, yf⟩) q)
    (.mk fun y q => E1.rec (motive := fun _ => E1) (fun y0 y1 y2 y3 y4 y5 y6 y7 y8 y9 ya yb yc yd ye _ => ⟨y0, y1, y2, y3, y4, y5, y6, y7, y8, y9, ya, yb, yc, yd, ye, y⟩) q) d
inductive Opd where
  | get (f : E2 → V)
  | cst (v : V)
noncomputable def Opd.tmp (i j : D) : Opd := Get1.rec (motive := fun _ => Opd) (fun f => Get0.rec (motive := fun _ => Opd) (fun g => .get fun e => g (f e)) (get0 j)) (get1 i)
inductive OpdL where
  | nil
  | cons (x : Opd) (t : OpdL)
inductive OpdO where
  | no
  | yes (x : Opd)
/-- parts of a value: place, size in cells, operand -/
inductive PartL where
  | nil
  | cons (off size : Nat) (x : Opd) (t : PartL)
/-- a method's table: dynamic type, function -/
inductive MTab where
  | nil
  | cons (t f : Nat) (rest : MTab)

/-- dynamic types that compare cell by cell: type, a struct?, each cell's class (1 bool, 2 int, 3 text) -/
inductive ETab where
  | nil
  | cons (t : Nat) (agg : Bool) (cls : List Nat) (rest : ETab)

inductive IOp where
  | mv (x : Opd)
  | pick (c a b : Opd)
  | new (elem sz : Nat) (zero : V)
  | box1 (elem : Nat) (x : Opd)
  | boxN (elem sz : Nat) (x : Opd)
  | build (zero : V) (ps : PartL)
  | mkSl (elem es len : Nat) (zero : V) (ps : PartL)
  | ld1 (x : Opd)
  | ldN (sz : Nat) (x : Opd)
  | st1 (a x : Opd)
  | stN (sz : Nat) (a x : Opd)
  | chk (x : Opd)
  | bin (op : BinOp) (x y : Opd)
  | shift (left : Bool) (x y : Opd)
  | eq (neg : Bool) (x y : Opd)
  | eqB (neg : Bool) (x y : Opd)
  | eqNil (neg : Bool) (kind : Nat) (x : Opd)
  | eqI (neg : Bool) (tab : ETab) (x y : Opd)
  | eqFlat (neg : Bool) (cls : List Nat) (x y : Opd)
  | neg (x : Opd)
  | not (x : Opd)
  | cvI (k : IntKind) (x : Opd)
  | cvRune (x : Opd)
  | mkIf (t : Nat) (x : Opd)
  | mkFn (fn : Fn) (first captured : OpdL)
  | slice (es : Nat) (x : Opd) (lo hi mx : OpdO)
  | sliceA (n es : Nat) (x : Opd) (lo hi mx : OpdO)
  | cut (x : Opd) (lo hi : OpdO)
  | fld (off : Nat) (x : Opd)
  | part1 (off : Nat) (x : Opd)
  | partN (off size : Nat) (x : Opd)
  | ixA (es : Nat) (x i : Opd)
  | ixArr (len es : Nat) (x i : Opd)
  | ixS (x i : Opd)
  | ixV1 (len : Nat) (x i : Opd)
  | ixVN (len es : Nat) (x i : Opd)
  | rng (x : Opd)
  | nxt (x : Opd)
  | asrt (t : Nat) (zero : V) (ok : Bool) (x : Opd)
  | ext (i : Nat) (x : Opd)
  | call (f : Nat) (args : OpdL)
  | callV (x : Opd) (args : OpdL)
  | callI (tab : MTab) (x : Opd) (args : OpdL)
  | lenS (x : Opd)
  | lenL (x : Opd)
  | minmax (max : Bool) (x y : Opd)
  | app (elem es : Nat) (s x : Opd)
  | copy (es : Nat) (d s : Opd)
  | same (x : Opd)
  | sameS (x : Opd)
  | toUns (x : Opd)
  | fromUns (u es : Nat) (x : Opd)
  | xCount (x c : Opd)
  | xIndexByte (x c : Opd)
  | xIndex (g : K) (x y : Opd)
  | xNoZero (elem : Nat) (x : Opd)
  | sdata (x : Opd)
  | ustr (elem : Nat) (x n : Opd)
  | capL (x : Opd)
  | mkMake (elem es : Nat) (zero : V) (len cap : Opd)
  | mkMap
  | lookM (cls : Nat) (zero : V) (ok : Bool) (x k : Opd)
  | updM (cls : Nat) (m k x : Opd)
  | lenM (x : Opd)
  | minmax3 (max : Bool) (x y z : Opd)
  | s2b (elem : Nat) (x : Opd)
  | b2s (x : Opd)
  | delM (cls : Nat) (m k : Opd)
  | rngM (x : Opd)
  | nxtM (x : Opd)
  | bad (why : Nat)

inductive Dst where
  | no
  | lay (f : V → E2 → E2)
noncomputable def Dst.at (i j : D) : Dst := Set1.rec (motive := fun _ => Dst) (fun f => Set0.rec (motive := fun _ => Dst) (fun g => .lay fun v e => f (g v) e) (set0 j)) (set1 i)
inductive Gd where
  | no
  | is (f : E2 → V) (want : Bool)
noncomputable def Gd.yes (i j : D) (w : Bool) : Gd := Get1.rec (motive := fun _ => Gd) (fun f => Get0.rec (motive := fun _ => Gd) (fun g => .is (fun e => g (f e)) w) (get0 j)) (get1 i)

inductive OpL where
  | nil
  | cons (op : IOp) (run : E2 → St → RO) (dst : Dst) (g : Gd) (rest : OpL)
  | mvs (f : E2 → E2) (rest : OpL)

/-- an operation of a region whose order is drawn: what it looks at is a list of temporaries and of who writes them -/
structure DEnt where
  ix : Nat
  op : IOp
  gd : Gd
  lk : List (Nat × Nat)
  kind : Nat
  nodes : List Nat

/-- the same with its slots' addresses looked up -/
structure FEnt where
  d : DEnt
  run : E2 → St → RO
  env : E2 → E2 → E2
  gd : E2 → Bool
  get : E2 → V
  put : V → E2 → E2
  skip : Bool
inductive EnvF where
  | mk (f : E2 → E2 → E2)

inductive C where
  | skip
  | reg (ops : OpL)
  | draw (l : List FEnt) (fins : EnvF) (dia : Option (DEnt × DEnt))
  | seq (a b : C)
  | cond (x : Opd) (a b : C)
  | block (id : Nat) (b : C)
  | loop (b : C)
  | exit (id : Nat)
  | ret
  | rangeF (x : Opd) (ps : List Nat) (a b : Code) (nt : Nat)
  | bad (why : Nat)

inductive ResL where
  | nil
  | tmp (i j : D) (t : ResL)
  | cell1 (i j : D) (t : ResL)
  | cellN (i j : D) (sz : Nat) (t : ResL)

inductive Fun where
  | none
  | some (body : C) (res : ResL) (one : Bool) (nt : Nat)
  | round (comp : Nat → Code → C)

structure F1 where
  c0 : Fun
  c1 : Fun
  c2 : Fun
  c3 : Fun
  c4 : Fun
  c5 : Fun
  c6 : Fun
  c7 : Fun
  c8 : Fun
  c9 : Fun
  ca : Fun
  cb : Fun
  cc : Fun
  cd : Fun
  ce : Fun
  cf : Fun
noncomputable def F1.get (d : D) : F1 → Fun :=
  D.rec (motive := fun _ => F1 → Fun) (fun q => q.c0) (fun q => q.c1) (fun q => q.c2) (fun q => q.c3) (fun q => q.c4) (fun q => q.c5) (fun q => q.c6) (fun q => q.c7) (fun q => q.c8) (fun q => q.c9) (fun q => q.ca) (fun q => q.cb) (fun q => q.cc) (fun q => q.cd) (fun q => q.ce) (fun q => q.cf) d
noncomputable def F1.set (d : D) : Fun → F1 → F1 :=
  D.rec (motive := fun _ => Fun → F1 → F1)
    (fun y q => F1.rec (motive := fun _ => F1) (fun _ y1 y2 y3 y4 y5 y6 y7 y8 y9 ya yb yc yd ye yf => ⟨y, y1, y2, y3, y4, y5, y6, y7, y8, y9, ya, yb, yc, yd, ye, yf⟩) q)
    (fun y q => F1.rec (motive := fun _ => F1) (fun y0 _ y2 y3 y4 y5 y6 y7 y8 y9 ya yb yc yd ye yf => ⟨y0, y, y2, y3, y4, y5, y6, y7, y8, y9, ya, yb, yc, yd, ye, yf⟩) q)
    (fun y q => F1.rec (motive := fun _ => F1) (fun y0 y1 _ y3 y4 y5 y6 y7 y8 y9 ya yb yc yd ye yf => ⟨y0, y1, y, y3, y4, y5, y6, y7, y8, y9, ya, yb, yc, yd, ye, yf⟩) q)
    (fun y q => F1.rec (motive := fun _ => F1) (fun y0 y1 y2 _ y4 y5 y6 y7 y8 y9 ya yb yc yd ye yf => ⟨y0, y1, y2, y, y4, y5, y6, y7, y8, y9, ya, yb, yc, yd, ye, yf⟩) q)
    (fun y q => F1.rec (motive := fun _ => F1) (fun y0 y1 y2 y3 _ y5 y6 y7 y8 y9 ya yb yc yd ye yf => ⟨y0, y1, y2, y3, y, y5, y6, y7, y8, y9, ya, yb, yc, yd, ye, yf⟩) q)
    (fun y q => F1.rec (motive := fun _ => F1) (fun y0 y1 y2 y3 y4 _ y6 y7 y8 y9 ya yb yc yd ye yf => ⟨y0, y1, y2, y3, y4, y, y6, y7, y8, y9, ya, yb, yc, yd, ye, yf⟩) q)
    (fun y q => F1.rec (motive := fun _ => F1) (fun y0 y1 y2 y3 y4 y5 _ y7 y8 y9 ya yb yc yd ye yf => ⟨y0, y1, y2, y3, y4, y5, y, y7, y8, y9, ya, yb, yc, yd, ye, yf⟩) q)
    (fun y q => F1.rec (motive := fun _ => F1) (fun y0 y1 y2 y3 y4 y5 y6 _ y8 y9 ya yb yc yd ye yf => ⟨y0, y1, y2, y3, y4, y5, y6, y, y8, y9, ya, yb, yc, yd, ye, yf⟩) q)
    (fun y q => F1.rec (motive := fun _ => F1) (fun y0 y1 y2 y3 y4 y5 y6 y7 _ y9 ya yb yc yd ye yf => ⟨y0, y1, y2, y3, y4, y5, y6, y7, y, y9, ya, yb, yc, yd, ye, yf⟩) q)
    (fun y q => F1.rec (motive := fun _ => F1) (fun y0 y1 y2 y3 y4 y5 y6 y7 y8 _ ya yb yc yd ye yf => ⟨y0, y1, y2, y3, y4, y5, y6, y7, y8, y, ya, yb, yc, yd, ye, yf⟩) q)
    (fun y q => F1.rec (motive := fun _ => F1) (fun y0 y1 y2 y3 y4 y5 y6 y7 y8 y9 _ yb yc yd ye yf => ⟨y0, y1, y2, y3, y4, y5, y6, y7, y8, y9, y, yb, yc, yd, ye, yf⟩) q)
    (fun y q => F1.rec (motive := fun _ => F1) (fun y0 y1 y2 y3 y4 y5 y6 y7 y8 y9 ya _ yc yd ye yf => ⟨y0, y1, y2, y3, y4, y5, y6, y7, y8, y9, ya, y, yc, yd, ye, yf⟩) q)
    (fun y q => F1.rec (motive := fun _ => F1) (fun y0 y1 y2 y3 y4 y5 y6 y7 y8 y9 ya yb _ yd ye yf => ⟨y0, y1, y2, y3, y4, y5, y6, y7, y8, y9, ya, yb, y, yd, ye, yf⟩) q)
    (fun y q => F1.rec (motive := fun _ => F1) (fun y0 y1 y2 y3 y4 y5 y6 y7 y8 y9 ya yb yc _ ye yf => ⟨y0, y1, y2, y3, y4, y5, y6, y7, y8, y9, ya, yb, yc, y, ye, yf⟩) q)
    (fun y q => F1.rec (motive := fun _ => F1) (fun y0 y1 y2 y3 y4 y5 y6 y7 y8 y9 ya yb yc yd _ yf => ⟨y0, y1, y2, y3, y4, y5, y6, y7, y8, y9, ya, yb, yc, yd, y, yf⟩) q)
    (fun y q => F1.rec (motive := fun _ => F1) (fun y0 y1 y2 y3 y4 y5 y6 y7 y8 y9 ya yb yc yd ye _ => ⟨y0, y1, y2, y3, y4, y5, y6, y7, y8, y9, ya, yb, yc, yd, ye, y⟩) q) d
def F1.all (x : Fun) : F1 := ⟨x, x, x, x, x, x, x, x, x, x, x, x, x, x, x, x⟩
theorem F1.get_set (d d' : D) (y : Fun) (q : F1) : F1.get d (F1.set d' y q) = if d = d' then y else F1.get d q := by
  cases d <;> cases d' <;> rfl
theorem F1.get_all (d : D) (x : Fun) : F1.get d (F1.all x) = x := by cases d <;> rfl
structure F2 where
  c0 : F1
  c1 : F1
  c2 : F1
  c3 : F1
  c4 : F1
  c5 : F1
  c6 : F1
  c7 : F1
  c8 : F1
  c9 : F1
  ca : F1
  cb : F1
  cc : F1
  cd : F1
  ce : F1
  cf : F1
noncomputable def F2.get (d : D) : F2 → F1 :=
  D.rec (motive := fun _ => F2 → F1) (fun q => q.c0) (fun q => q.c1) (fun q => q.c2) (fun q => q.c3) (fun q => q.c4) (fun q => q.c5) (fun q => q.c6) (fun q => q.c7) (fun q => q.c8) (fun q => q.c9) (fun q => q.ca) (fun q => q.cb) (fun q => q.cc) (fun q => q.cd) (fun q => q.ce) (fun q => q.cf) d
noncomputable def F2.set (d : D) : F1 → F2 → F2 :=
  D.rec (motive := fun _ => F1 → F2 → F2)
    (fun y q => F2.rec (motive := fun _ => F2) (fun _ y1 y2 y3 y4 y5 y6 y7 y8 y9 ya yb yc yd ye yf => ⟨y, y1, y2, y3, y4, y5, y6, y7, y8, y9, ya, yb, yc, yd, ye, yf⟩) q)
    (fun y q => F2.rec (motive := fun _ => F2) (fun y0 _ y2 y3 y4 y5 y6 y7 y8 y9 ya yb yc yd ye yf => ⟨y0, y, y2, y3, y4, y5, y6, y7, y8, y9, ya, yb, yc, yd, ye, yf⟩) q)
    (fun y q => F2.rec (motive := fun _ => F2) (fun y0 y1 _ y3 y4 y5 y6 y7 y8 y9 ya yb yc yd ye yf => ⟨y0, y1, y, y3, y4, y5, y6, y7, y8, y9, ya, yb, yc, yd, ye, yf⟩) q)
    (fun y q => F2.rec (motive := fun _ => F2) (fun y0 y1 y2 _ y4 y5 y6 y7 y8 y9 ya yb yc yd ye yf => ⟨y0, y1, y2, y, y4, y5, y6, y7, y8, y9, ya, yb, yc, yd, ye, yf⟩) q)
    (fun y q => F2.rec (motive := fun _ => F2) (fun y0 y1 y2 y3 _ y5 y6 y7 y8 y9 ya yb yc yd ye yf => ⟨y0, y1, y2, y3, y, y5, y6, y7, y8, y9, ya, yb, yc, yd, ye, yf⟩) q)
    (fun y q => F2.rec (motive := fun _ => F2) (fun y0 y1 y2 y3 y4 _ y6 y7 y8 y9 ya yb yc yd ye yf => ⟨y0, y1, y2, y3, y4, y, y6, y7, y8, y9, ya, yb, yc, yd, ye, yf⟩) q)
    (fun y q => F2.rec (motive := fun _ => F2) (fun y0 y1 y2 y3 y4 y5 _ y7 y8 y9 ya yb yc yd ye yf => ⟨y0, y1, y2, y3, y4, y5, y, y7, y8, y9, ya, yb, yc, yd, ye, yf⟩) q)
    (fun y q => F2.rec (motive := fun _ => F2) (fun y0 y1 y2 y3 y4 y5 y6 _ y8 y9 ya yb yc yd ye yf => ⟨y0, y1, y2, y3, y4, y5, y6, y, y8, y9, ya, yb, yc, yd, ye, yf⟩) q)
    (fun y q => F2.rec (motive := fun _ => F2) (fun y0 y1 y2 y3 y4 y5 y6 y7 _ y9 ya yb yc yd ye yf => ⟨y0, y1, y2, y3, y4, y5, y6, y7, y, y9, ya, yb, yc, yd, ye, yf⟩) q)
    (fun y q => F2.rec (motive := fun _ => F2) (fun y0 y1 y2 y3 y4 y5 y6 y7 y8 _ ya yb yc yd ye yf => ⟨y0, y1, y2, y3, y4, y5, y6, y7, y8, y, ya, yb, yc, yd, ye, yf⟩) q)
    (fun y q => F2.rec (motive := fun _ => F2) (fun y0 y1 y2 y3 y4 y5 y6 y7 y8 y9 _ yb yc yd ye yf => ⟨y0, y1, y2, y3, y4, y5, y6, y7, y8, y9, y, yb, yc, yd, ye, yf⟩) q)
    (fun y q => F2.rec (motive := fun _ => F2) (fun y0 y1 y2 y3 y4 y5 y6 y7 y8 y9 ya _ yc yd ye yf => ⟨y0, y1, y2, y3, y4, y5, y6, y7, y8, y9, ya, y, yc, yd, ye, yf⟩) q)
    (fun y q => F2.rec (motive := fun _ => F2) (fun y0 y1 y2 y3 y4 y5 y6 y7 y8 y9 ya yb _ yd ye yf => ⟨y0, y1, y2, y3, y4, y5, y6, y7, y8, y9, ya, yb, y, yd, ye, yf⟩) q)
    (fun y q => F2.rec (motive := fun _ => F2) (fun y0 y1 y2 y3 y4 y5 y6 y7 y8 y9 ya yb yc _ ye yf => ⟨y0, y1, y2, y3, y4, y5, y6, y7, y8, y9, ya, yb, yc, y, ye, yf⟩) q)
    (fun y q => F2.rec (motive := fun _ => F2) (fun y0 y1 y2 y3 y4 y5 y6 y7 y8 y9 ya yb yc yd _ yf => ⟨y0, y1, y2, y3, y4, y5, y6, y7, y8, y9, ya, yb, yc, yd, y, yf⟩) q)
    (fun y q => F2.rec (motive := fun _ => F2) (fun y0 y1 y2 y3 y4 y5 y6 y7 y8 y9 ya yb yc yd ye _ => ⟨y0, y1, y2, y3, y4, y5, y6, y7, y8, y9, ya, yb, yc, yd, ye, y⟩) q) d
def F2.all (x : F1) : F2 := ⟨x, x, x, x, x, x, x, x, x, x, x, x, x, x, x, x⟩
theorem F2.get_set (d d' : D) (y : F1) (q : F2) : F2.get d (F2.set d' y q) = if d = d' then y else F2.get d q := by
  cases d <;> cases d' <;> rfl
theorem F2.get_all (d : D) (x : F1) : F2.get d (F2.all x) = x := by cases d <;> rfl
structure F3 where
  c0 : F2
  c1 : F2
  c2 : F2
  c3 : F2
  c4 : F2
  c5 : F2
  c6 : F2
  c7 : F2
  c8 : F2
  c9 : F2
  ca : F2
  cb : F2
  cc : F2
  cd : F2
  ce : F2
  cf : F2
noncomputable def F3.get (d : D) : F3 → F2 :=
  D.rec (motive := fun _ => F3 → F2) (fun q => q.c0) (fun q => q.c1) (fun q => q.c2) (fun q => q.c3) (fun q => q.c4) (fun q => q.c5) (fun q => q.c6) (fun q => q.c7) (fun q => q.c8) (fun q => q.c9) (fun q => q.ca) (fun q => q.cb) (fun q => q.cc) (fun q => q.cd) (fun q => q.ce) (fun q => q.cf) d
noncomputable def F3.set (d : D) : F2 → F3 → F3 :=
  D.rec (motive := fun _ => F2 → F3 → F3)
    (fun y q => F3.rec (motive := fun _ => F3) (fun _ y1 y2 y3 y4 y5 y6 y7 y8 y9 ya yb yc yd ye yf => ⟨y, y1, y2, y3, y4, y5, y6, y7, y8, y9, ya, yb, yc, yd, ye, yf⟩) q)
    (fun y q => F3.rec (motive := fun _ => F3) (fun y0 _ y2 y3 y4 y5 y6 y7 y8 y9 ya yb yc yd ye yf => ⟨y0, y, y2, y3, y4, y5, y6, y7, y8, y9, ya, yb, yc, yd, ye, yf⟩) q)
    (fun y q => F3.rec (motive := fun _ => F3) (fun y0 y1 _ y3 y4 y5 y6 y7 y8 y9 ya yb yc yd ye yf => ⟨y0, y1, y, y3, y4, y5, y6, y7, y8, y9, ya, yb, yc, yd, ye, yf⟩) q)
    (fun y q => F3.rec (motive := fun _ => F3) (fun y0 y1 y2 _ y4 y5 y6 y7 y8 y9 ya yb yc yd ye yf => ⟨y0, y1, y2, y, y4, y5, y6, y7, y8, y9, ya, yb, yc, yd, ye, yf⟩) q)
    (fun y q => F3.rec (motive := fun _ => F3) (fun y0 y1 y2 y3 _ y5 y6 y7 y8 y9 ya yb yc yd ye yf => ⟨y0, y1, y2, y3, y, y5, y6, y7, y8, y9, ya, yb, yc, yd, ye, yf⟩) q)
    (fun y q => F3.rec (motive := fun _ => F3) (fun y0 y1 y2 y3 y4 _ y6 y7 y8 y9 ya yb yc yd ye yf => ⟨y0, y1, y2, y3, y4, y, y6, y7, y8, y9, ya, yb, yc, yd, ye, yf⟩) q)
    (fun y q => F3.rec (motive := fun _ => F3) (fun y0 y1 y2 y3 y4 y5 _ y7 y8 y9 ya yb yc yd ye yf => ⟨y0, y1, y2, y3, y4, y5, y, y7, y8, y9, ya, yb, yc, yd, ye, yf⟩) q)
    (fun y q => F3.rec (motive := fun _ => F3) (fun y0 y1 y2 y3 y4 y5 y6 _ y8 y9 ya yb yc yd ye yf => ⟨y0, y1, y2, y3, y4, y5, y6, y, y8, y9, ya, yb, yc, yd, ye, yf⟩) q)
    (fun y q => F3.rec (motive := fun _ => F3) (fun y0 y1 y2 y3 y4 y5 y6 y7 _ y9 ya yb yc yd ye yf => ⟨y0, y1, y2, y3, y4, y5, y6, y7, y, y9, ya, yb, yc, yd, ye, yf⟩) q)
    (fun y q => F3.rec (motive := fun _ => F3) (fun y0 y1 y2 y3 y4 y5 y6 y7 y8 _ ya yb yc yd ye yf => ⟨y0, y1, y2, y3, y4, y5, y6, y7, y8, y, ya, yb, yc, yd, ye, yf⟩) q)
    (fun y q => F3.rec (motive := fun _ => F3) (fun y0 y1 y2 y3 y4 y5 y6 y7 y8 y9 _ yb yc yd ye yf => ⟨y0, y1, y2, y3, y4, y5, y6, y7, y8, y9, y, yb, yc, yd, ye, yf⟩) q)
    (fun y q => F3.rec (motive := fun _ => F3) (fun y0 y1 y2 y3 y4 y5 y6 y7 y8 y9 ya _ yc yd ye yf => ⟨y0, y1, y2, y3, y4, y5, y6, y7, y8, y9, ya, y, yc, yd, ye, yf⟩) q)
    (fun y q => F3.rec (motive := fun _ => F3) (fun y0 y1 y2 y3 y4 y5 y6 y7 y8 y9 ya yb _ yd ye yf => ⟨y0, y1, y2, y3, y4, y5, y6, y7, y8, y9, ya, yb, y, yd, ye, yf⟩) q)
    (fun y q => F3.rec (motive := fun _ => F3) (fun y0 y1 y2 y3 y4 y5 y6 y7 y8 y9 ya yb yc _ ye yf => ⟨y0, y1, y2, y3, y4, y5, y6, y7, y8, y9, ya, yb, yc, y, ye, yf⟩) q)
    (fun y q => F3.rec (motive := fun _ => F3) (fun y0 y1 y2 y3 y4 y5 y6 y7 y8 y9 ya yb yc yd _ yf => ⟨y0, y1, y2, y3, y4, y5, y6, y7, y8, y9, ya, yb, yc, yd, y, yf⟩) q)
    (fun y q => F3.rec (motive := fun _ => F3) (fun y0 y1 y2 y3 y4 y5 y6 y7 y8 y9 ya yb yc yd ye _ => ⟨y0, y1, y2, y3, y4, y5, y6, y7, y8, y9, ya, yb, yc, yd, ye, y⟩) q) d
def F3.all (x : F2) : F3 := ⟨x, x, x, x, x, x, x, x, x, x, x, x, x, x, x, x⟩
theorem F3.get_set (d d' : D) (y : F2) (q : F3) : F3.get d (F3.set d' y q) = if d = d' then y else F3.get d q := by
  cases d <;> cases d' <;> rfl
theorem F3.get_all (d : D) (x : F2) : F3.get d (F3.all x) = x := by cases d <;> rfl

noncomputable def F3.at (k : K) (t : F3) : Fun := F1.get k.a (F2.get k.b (F3.get k.c t))
noncomputable def F3.put (k : K) (x : Fun) (t : F3) : F3 := F3.set k.c (F2.set k.b (F1.set k.a x (F2.get k.b (F3.get k.c t))) (F3.get k.c t)) t
def F3.empty : F3 := F3.all (F2.all (F1.all .none))

/-! ## Operands -/
noncomputable def Opd.val (x : Opd) (e : E2) : V := Opd.rec (motive := fun _ => V) (fun f => f e) (fun v => v) x
noncomputable def OpdL.vals (l : OpdL) (e : E2) : V := OpdL.rec (motive := fun _ => V) .nil (fun x _ ih => .cons (Opd.val x e) ih) l
noncomputable def OpdL.valsOn (l : OpdL) (e : E2) (t : V) : V := OpdL.rec (motive := fun _ => V) t (fun x _ ih => .cons (Opd.val x e) ih) l
noncomputable def Dst.put (d : Dst) (v : V) (e : E2) : E2 := Dst.rec (motive := fun _ => E2) e (fun f => f v e) d

noncomputable def withInt (v : V) (k : IntKind → Int → RO) : RO := OI.rec (motive := fun _ => RO) (.bad 10) (fun kd n => k kd n) (V.int? v)
noncomputable def withNat (v : V) (k : Nat → RO) : RO := OI.rec (motive := fun _ => RO) (.bad 11) (fun _ n => Int.rec (motive := fun _ => RO) (fun m => k m) (fun _ => .bad 12) n) (V.int? v)
noncomputable def withBool (v : V) (a b : RO) : RO := OB.rec (motive := fun _ => RO) (.bad 13) (fun c => Bool.rec (motive := fun _ => RO) b a c) (V.bool? v)
noncomputable def withPtr (v : V) (k : K → Nat → Nat → RO) : RO := OP.rec (motive := fun _ => RO) (.bad 14) (fun f v o => k f v o) (V.ptr? v)
noncomputable def withStr (v : V) (k : Nat → Nat → RO) : RO := OS.rec (motive := fun _ => RO) (.bad 15) (fun l d => k l d) (V.str? v)
noncomputable def withB (v : V) (k : Bool → RO) : RO := OB.rec (motive := fun _ => RO) (.bad 62) (fun b => k b) (V.bool? v)
noncomputable def beqB (a b : Bool) : Bool := Bool.rec (bnot b) b a
noncomputable def RO.ite (b : Bool) (x y : RO) : RO := Bool.rec (motive := fun _ => RO) y x b

noncomputable def isCell (v : V) : Bool := V.rec (motive := fun _ => Bool) false (fun b => true) (fun k n => true) (fun l d => true) true (fun f v o => true) true (fun f v o len cap ex es => true) true (fun f v => true) true (fun fn a b _ _ => true) true (fun t x _ => true) (fun _ _ => false) (fun _ _ => false) (fun i => true) (fun i => true) false (fun _ _ _ _ => false) v
/-- exactly n of them -/
noncomputable def V.lenIs (n : Nat) (l : V) : Bool := Nat.rec (motive := fun _ => V → Bool) (fun l => bnot (V.isCons l)) (fun _ ih l => Bool.rec false (ih (V.tl l)) (V.isCons l)) n l
/-! ## Memory -/
noncomputable def alloc (elem sz n : Nat) (ch : V) (s : St) (k : K → Nat → St → RO) : RO :=
  Nat.rec (motive := fun _ => RO) (.bad 20)
    (fun m _ => Bool.rec (motive := fun _ => RO) (.bad 21)
      (k s.nk (Nat.succ m) ⟨H4.put s.nk (.cells elem sz false 0 0 (.more (Nat.succ m) n ch .none)) s.h, K.succ s.nk, Nat.succ (Nat.succ m)⟩) (Obj.isNone (H4.at s.nk s.h))) s.nx
/-- the version's row -/
noncomputable def row (f : K) (v : Nat) (s : St) (k : Nat → Nat → V → RO) : RO :=
  OC.rec (motive := fun _ => RO) (.bad 22) (fun _ sz _ _ _ vs => OW.rec (motive := fun _ => RO) (.bad 23) (fun n ch => k sz n ch) (Ver.find v vs)) (Obj.cells? (H4.at f s.h))
noncomputable def load1 (f : K) (v o : Nat) (s : St) (k : V → RO) : RO :=
  row f v s fun sz _ ch => (fun x => Bool.rec (motive := fun _ => RO) (k x) (.bad 24) (V.isUndef x)) (V.nth (Nat.mod o sz) (V.elem (Nat.div o sz) ch))
noncomputable def loadN (size : Nat) (f : K) (v o : Nat) (s : St) (k : V → RO) : RO :=
  row f v s fun sz _ ch => (fun el r => Bool.rec (motive := fun _ => RO)
      (Bool.rec (motive := fun _ => RO) (.bad 25) (k (V.takeOn size (V.drop r el) .nil)) (V.has (Nat.add r size) el))
      (Bool.rec (motive := fun _ => RO) (.bad 26) (k el) (V.isCons el)) (band (Nat.beq r 0) (Nat.beq size sz))) (V.elem (Nat.div o sz) ch) (Nat.mod o sz)
/-- write into the version: 'upd' turns its elements; cells [o, o + size) are written -/
noncomputable def write (f : K) (v o size : Nat) (s : St) (upd : Nat → V → V) (k : St → RO) : RO :=
  OC.rec (motive := fun _ => RO) (.bad 27) (fun elem sz ro a b vs =>
    Bool.rec (motive := fun _ => RO) (Bool.rec (motive := fun _ => RO) (.bad 29)
      (Ver.rec (motive := fun _ => RO) (.bad 30) (fun id n ch rest _ =>
        Bool.rec (motive := fun _ => RO) (.bad 31) (k ⟨H4.put f (.cells elem sz false a b (.more id n (upd sz ch) (Ver.keep o rest))) s.h, s.nk, s.nx⟩) (Nat.ble (Nat.add o size) n)) (Ver.from v vs))
      (Bool.rec (Nat.ble b o) true (Nat.ble (Nat.add o size) a))) (.bad 28) ro) (Obj.cells? (H4.at f s.h))
noncomputable def store1 (f : K) (v o : Nat) (x : V) (s : St) : RO :=
  RO.ite (isCell x) (row f v s fun sz _ ch => (fun el => Bool.rec (motive := fun _ => RO)
      (Bool.rec (motive := fun _ => RO) (.bad 32) (write f v o 1 s (fun _ ch => V.putElem (Nat.div o sz) (V.setNth (Nat.mod o sz) x el) ch) (fun s' => .ok .undef s')) (V.isCons el))
      (write f v o 1 s (fun _ ch => V.putElem o (.cons x .nil) ch) (fun s' => .ok .undef s')) (Nat.beq sz 1)) (V.elem (Nat.div o sz) ch)) (.bad 35)
noncomputable def storeN (size : Nat) (f : K) (v o : Nat) (x : V) (s : St) : RO :=
  OV.rec (motive := fun _ => RO) (.bad 33) (fun cs => RO.ite (V.lenIs size cs) (row f v s fun sz _ ch => (fun el r => Bool.rec (motive := fun _ => RO)
      (Bool.rec (motive := fun _ => RO) (.bad 34) (write f v o size s (fun _ ch => V.putElem (Nat.div o sz) (V.takeOn r el (V.takeOn size cs (V.drop (Nat.add r size) el))) ch) (fun s' => .ok .undef s')) (band (V.isCons el) (Nat.ble (Nat.add r size) sz)))
      (write f v o size s (fun _ ch => V.putElem (Nat.div o sz) cs ch) (fun s' => .ok .undef s')) (band (Nat.beq r 0) (Nat.beq size sz))) (V.elem (Nat.div o sz) ch) (Nat.mod o sz)) (.bad 36)) (V.agg? x)

/-! ## Whole numbers, texts, comparisons -/
noncomputable def bitsOp (f : Nat → Nat → Nat) (k : IntKind) (a b : Int) (s : St) : RO :=
  Int.rec (motive := fun _ => RO) (fun m => Int.rec (motive := fun _ => RO) (fun n => RO.ite (band (Nat.ble (Nat.succ m) (posBound k)) (Nat.ble (Nat.succ n) (posBound k))) (okNat k (f m n) s) (.bad 42)) (fun _ => .bad 42) b) (fun _ => .bad 42) a
noncomputable def intBin (op : BinOp) : IntKind → Int → Int → St → RO :=
  BinOp.rec (motive := fun _ => IntKind → Int → Int → St → RO)
    (fun k a b s => okInt k (wrapF k (iadd a b)) s)                                                                    -- add
    (fun k a b s => okInt k (wrapF k (isub a b)) s)                                                                    -- sub
    (fun k a b s => okInt k (wrapF k (Int.mul a b)) s)                                                                 -- mul
    (fun k a b s => Bool.rec (motive := fun _ => RO) (okInt k (wrapF k (Int.tdiv a b)) s) (.bad 40) (ieq b 0))           -- quo
    (fun k a b s => Bool.rec (motive := fun _ => RO) (okInt k (Int.tmod a b) s) (.bad 41) (ieq b 0))                     -- rem
    (fun k a b s => bitsOp Nat.land k a b s)   -- and
    (fun k a b s => bitsOp Nat.lor k a b s)    -- or
    (fun k a b s => bitsOp Nat.xor k a b s)    -- xor
    (fun _ _ _ _ => .bad 45) (fun _ _ _ _ => .bad 45)                                                                  -- shl shr
    (fun k a b s => bitsOp (fun m n => Nat.xor m (Nat.land m n)) k a b s)    -- andNot
    (fun _ a b s => okBool (ieq a b) s) (fun _ a b s => okBool (bnot (ieq a b)) s)
    (fun _ a b s => okBool (bnot (ile b a)) s) (fun _ a b s => okBool (ile a b) s)
    (fun _ a b s => okBool (bnot (ile a b)) s) (fun _ a b s => okBool (ile b a) s) op
noncomputable def strEq (l1 d1 l2 d2 : Nat) : Bool := band (Nat.beq l1 l2) (Nat.beq d1 d2)
noncomputable def strBin (op : BinOp) : Nat → Nat → Nat → Nat → St → RO :=
  BinOp.rec (motive := fun _ => Nat → Nat → Nat → Nat → St → RO)
    (fun l1 d1 l2 d2 s => Bool.rec (motive := fun _ => RO) (.bad 50) (okStr (Nat.add l1 l2) (strCat l1 d1 d2) s) (Nat.ble (Nat.add l1 l2) 4294967296))
    (fun _ _ _ _ _ => .bad 51) (fun _ _ _ _ _ => .bad 51) (fun _ _ _ _ _ => .bad 51) (fun _ _ _ _ _ => .bad 51) (fun _ _ _ _ _ => .bad 51) (fun _ _ _ _ _ => .bad 51) (fun _ _ _ _ _ => .bad 51) (fun _ _ _ _ _ => .bad 51) (fun _ _ _ _ _ => .bad 51) (fun _ _ _ _ _ => .bad 51)
    (fun l1 d1 l2 d2 s => okBool (strEq l1 d1 l2 d2) s) (fun l1 d1 l2 d2 s => okBool (bnot (strEq l1 d1 l2 d2)) s)
    (fun l1 d1 l2 d2 s => okBool (strLt l1 d1 l2 d2) s) (fun l1 d1 l2 d2 s => okBool (bnot (strLt l2 d2 l1 d1)) s)
    (fun l1 d1 l2 d2 s => okBool (strLt l2 d2 l1 d1) s) (fun l1 d1 l2 d2 s => okBool (bnot (strLt l1 d1 l2 d2)) s) op
/-- an open number's name: what is known of it (mod 4), a low part, a modulus, which one it is -/
noncomputable def symLo (i : Nat) : Nat := Nat.mod (Nat.div i 4) 65536
noncomputable def symM (i : Nat) : Nat := Nat.mod (Nat.div i 262144) 65536
noncomputable def symW (i : Nat) : Nat := Nat.div i 17179869184
def symMk (tag lo m w : Nat) : Nat := tag + 4 * lo + 262144 * m + 17179869184 * w
/-- an open number's low bits, its remainder -/
noncomputable def symBin (op : BinOp) (i : Nat) (y : V) (s : St) : RO :=
  withInt y fun k b => RO.ite (Nat.beq (kcode k) 3) (Int.rec (motive := fun _ => RO) (fun m => match op with
    | .and => RO.ite (band (Nat.beq (i % 4) 1) (band (Nat.ble m 7) (Nat.ble (symLo i) 7))) (okNat .i64 (Nat.land (symLo i) m) s) (.bad 130)
    | .rem => RO.ite (band (Nat.beq (i % 4) 2) (band (Nat.beq m (symM i)) (Nat.ble 1 m))) (okInt .i64 (isub (Int.ofNat (symLo i)) (Int.ofNat m)) s) (.bad 130)
    | _ => .bad 130) (fun _ => .bad 130) b) (.bad 130)
noncomputable def evBinS (op : BinOp) (x y : V) (s : St) : RO :=
  match x with
  | .sym i => symBin op i y s
  | _ => withStr x fun l1 d1 => withStr y fun l2 d2 => strBin op l1 d1 l2 d2 s
noncomputable def evBin (op : BinOp) (x y : V) (s : St) : RO :=
  OI.rec (motive := fun _ => RO) (evBinS op x y s)
    (fun k a => withInt y fun k' b => Bool.rec (motive := fun _ => RO) (.bad 47) (intBin op k a b s) (Nat.beq (kcode k) (kcode k'))) (V.int? x)
noncomputable def kbits (k : IntKind) : Nat := IntKind.rec (motive := fun _ => Nat) 8 16 32 64 8 16 32 64 k
noncomputable def evShift (left : Bool) (x y : V) (s : St) : RO :=
  withInt x fun k a => withNat y fun n => RO.ite (Nat.ble n (kbits k)) (Int.rec (motive := fun _ => RO)
    (fun m => Bool.rec (motive := fun _ => RO) (okNat k (Nat.shiftRight m n) s) (okInt k (wrapF k (Int.ofNat (Nat.shiftLeft m n))) s) left) (fun _ => .bad 53) a) (.bad 52)

/-- are two values the same? 2: can't be told -/
noncomputable def eqCode (x y : V) : Nat :=
  OI.rec (motive := fun _ => Nat)
    (OS.rec (motive := fun _ => Nat)
      (OB.rec (motive := fun _ => Nat) 2 (fun a => OB.rec (motive := fun _ => Nat) 2 (fun b => Bool.rec (Bool.rec 1 0 b) (Bool.rec 0 1 b) a) (V.bool? y)) (V.bool? x))
      (fun l1 d1 => OS.rec (motive := fun _ => Nat) 2 (fun l2 d2 => Bool.rec 0 1 (strEq l1 d1 l2 d2)) (V.str? y)) (V.str? x))
    (fun k a => OI.rec (motive := fun _ => Nat) 2 (fun k' b => Bool.rec 2 (Bool.rec 0 1 (ieq a b)) (Nat.beq (kcode k) (kcode k'))) (V.int? y)) (V.int? x)
/-- of this class, and the same? -/
noncomputable def eqCls (c : Nat) (x y : V) : Nat :=
  Bool.rec (motive := fun _ => Nat) 2 (eqCode x y) (Nat.beq c (OI.rec (motive := fun _ => Nat) (OS.rec (motive := fun _ => Nat) (OB.rec (motive := fun _ => Nat) 0 (fun _ => 1) (V.bool? x)) (fun _ _ => 3) (V.str? x)) (fun _ _ => 2) (V.int? x)))
/-- cells of these classes, one by one -/
noncomputable def eqCells (cls : List Nat) (x y : V) : Nat :=
  List.rec (motive := fun _ => V → V → Nat) (fun _ _ => 1)
    (fun c _ ih x y => (fun r => Bool.rec (motive := fun _ => Nat) (Bool.rec (motive := fun _ => Nat) 2 0 (Nat.beq r 0)) (ih (V.tl x) (V.tl y)) (Nat.beq r 1)) (eqCls c (V.hd x) (V.hd y))) cls x y
noncomputable def eqAgg (cls : List Nat) (x y : V) : Nat := OV.rec (motive := fun _ => Nat) 2 (fun xs => OV.rec (motive := fun _ => Nat) 2 (fun ys => eqCells cls xs ys) (V.agg? y)) (V.agg? x)
noncomputable def eqOf (agg : Bool) (cls : List Nat) (x y : V) : Nat :=
  Bool.rec (motive := fun _ => Nat) (List.rec (motive := fun _ => Nat) 2 (fun c _ _ => eqCls c x y) cls) (eqAgg cls x y) agg
noncomputable def okCode (neg : Bool) (c : Nat) (s : St) : RO :=
  Bool.rec (motive := fun _ => RO) (Bool.rec (motive := fun _ => RO) (.bad 60) (okBool neg s) (Nat.beq c 0)) (okBool (bnot neg) s) (Nat.beq c 1)
/-- pointers, one of them nil -/
def eqOther (x y : V) : Nat :=
  match x, y with
  | .nilp, .nilp => 1
  | .nilp, .ptr _ _ _ => 0
  | .ptr _ _ _, .nilp => 0
  | _, _ => 2
noncomputable def isNil (v : V) : Nat := V.rec (motive := fun _ => Nat) 99 (fun _ => 99) (fun _ _ => 99) (fun _ _ => 99) 1 (fun f v o => 0) 3 (fun f v o len cap ex es => 2) 5 (fun f v => 4) 7 (fun fn a b _ _ => 6) 9 (fun t x _ => 8) (fun _ _ => 99) (fun _ _ => 99) (fun _ => 99) (fun _ => 99) 99 (fun _ _ _ _ => 99) v
noncomputable def okNil (neg : Bool) (kind c : Nat) (s : St) : RO :=
  Bool.rec (motive := fun _ => RO) (Bool.rec (motive := fun _ => RO) (.bad 61) (okBool neg s) (Nat.beq c (Nat.mul 2 kind))) (okBool (bnot neg) s) (Nat.beq c (Nat.succ (Nat.mul 2 kind)))
noncomputable def eqPtr (x y : V) (s : St) : Nat :=
  OP.rec (motive := fun _ => Nat) (eqOther x y) (fun f v o => OP.rec (motive := fun _ => Nat) (eqOther x y) (fun f' v' o' =>
    Bool.rec (OC.rec (motive := fun _ => Nat) 2 (fun _ _ _ a b _ => OC.rec (motive := fun _ => Nat) 2 (fun _ _ _ a' b' _ => Bool.rec 2 0 (band (Nat.beq b 0) (Nat.beq b' 0))) (Obj.cells? (H4.at f' s.h))) (Obj.cells? (H4.at f s.h)))
      (Bool.rec 2 (Bool.rec 0 1 (Nat.beq o o')) (Nat.beq v v')) (K.beq f f')) (V.ptr? y)) (V.ptr? x)

/-! ## Operations on slices -/
noncomputable def OpdO.nat (x : OpdO) (e : E2) (dflt : Nat) (k : Nat → RO) : RO := OpdO.rec (motive := fun _ => RO) (k dflt) (fun x => withNat (Opd.val x e) k) x
noncomputable def OpdO.isNo (x : OpdO) : Bool := OpdO.rec (motive := fun _ => Bool) true (fun _ => false) x
noncomputable def evSlice (es : Nat) (x : V) (lo hi mx : OpdO) (e : E2) (s : St) : RO :=
  OL.rec (motive := fun _ => RO) (.bad 70)
    (OpdO.nat mx e 0 fun m => OpdO.nat hi e 0 fun h => OpdO.nat lo e 0 fun l => RO.ite (band (Nat.beq m 0) (band (Nat.beq h 0) (Nat.beq l 0))) (.ok .nils s) (.bad 71))
    (fun f v o len cap ex es' => OpdO.nat mx e cap fun m => OpdO.nat hi e len fun h => OpdO.nat lo e 0 fun l =>
      RO.ite (band (Nat.beq es es') (band (Nat.ble l h) (band (Nat.ble h m) (Nat.ble m cap))))
        (.ok (.sl f v (Nat.add o (Nat.mul l es)) (Nat.sub h l) (Nat.sub m l) (Bool.rec true ex (OpdO.isNo mx)) es) s) (.bad 72)) (V.sl? x)
noncomputable def evSliceA (n es : Nat) (x : V) (lo hi mx : OpdO) (e : E2) (s : St) : RO :=
  withPtr x fun f v o => OpdO.nat mx e n fun m => OpdO.nat hi e n fun h => OpdO.nat lo e 0 fun l =>
    RO.ite (band (Nat.ble l h) (band (Nat.ble h m) (Nat.ble m n))) (.ok (.sl f v (Nat.add o (Nat.mul l es)) (Nat.sub h l) (Nat.sub m l) true es) s) (.bad 73)
noncomputable def evCut (x : V) (lo hi : OpdO) (e : E2) (s : St) : RO :=
  withStr x fun len d => OpdO.nat hi e len fun h => OpdO.nat lo e 0 fun l =>
    RO.ite (band (Nat.ble l h) (Nat.ble h len)) (okStr (Nat.sub h l) (strCut d l h) s) (.bad 74)
noncomputable def bytesOf (len : Nat) : Nat → V :=
  Nat.rec (motive := fun _ => Nat → V) (fun _ => .nil) (fun _ ih d => .cons (.cons (.int .u8 (Int.ofNat (Nat.mod d 256))) .nil) (ih (Nat.div d 256))) len
/-- n elements at place o of a version, of size es; all known -/
noncomputable def getElems (es n : Nat) (f : K) (v o : Nat) (s : St) (k : V → RO) : RO :=
  Nat.rec (motive := fun _ => RO) (k .nil) (fun _ _ => row f v s fun sz _ ch => RO.ite (band (Nat.beq sz es) (Nat.beq (Nat.mod o es) 0))
    ((fun l => RO.ite (V.known l) (k l) (.bad 75)) (V.elems n (Nat.div o es) ch)) (.bad 76)) n
/-- what append and copy take: its length, its elements -/
noncomputable def source (es : Nat) (x : V) (s : St) (k : Nat → (Nat → (V → RO) → RO) → RO) : RO :=
  OL.rec (motive := fun _ => RO) (withStr x fun len d => RO.ite (Nat.beq es 1) (k len fun m kk => kk (bytesOf m d)) (.bad 78))
    (k 0 fun _ kk => kk .nil)
    (fun f v o len _ _ es' => RO.ite (Nat.beq es es') (k len fun m kk => getElems es m f v o s kk) (.bad 77)) (V.sl? x)
noncomputable def appNew (elem es n : Nat) (l : V) (s : St) : RO :=
  alloc elem es (Nat.mul n es) (V.putElems l 0 .nil) s fun f v s' => .ok (.sl f v 0 n n false es) s'
noncomputable def appRoom (es n : Nat) (f : K) (v o len cap : Nat) (ex : Bool) (l : V) (s : St) : RO :=
  RO.ite (Nat.beq (Nat.mod o es) 0)
    (write f v (Nat.add o (Nat.mul len es)) (Nat.mul n es) s (fun sz ch => Bool.rec .undef (V.putElems l (Nat.add (Nat.div o es) len) ch) (Nat.beq sz es)) fun s' => .ok (.sl f v o (Nat.add len n) cap ex es) s') (.bad 81)
noncomputable def appOpen (elem es n : Nat) (f : K) (v o len : Nat) (l : V) (s : St) : RO :=
  OC.rec (motive := fun _ => RO) (.bad 82) (fun elem' sz ro a b vs =>
    Ver.rec (motive := fun _ => RO) (.bad 83) (fun id nv ch rest _ =>
      RO.ite (band (bnot ro) (band (Nat.beq sz es) (band (Nat.beq elem elem') (band (Nat.beq (Nat.mod o es) 0) (band (Nat.beq nv (Nat.add o (Nat.mul len es))) (Nat.ble b nv))))))
        (Nat.rec (motive := fun _ => RO) (.bad 84) (fun m _ =>
          .ok (.sl f (Nat.succ m) o (Nat.add len n) (Nat.add len n) false es)
            ⟨H4.put f (.cells elem' sz false a b (.more (Nat.succ m) (Nat.add o (Nat.mul (Nat.add len n) es)) (V.putElems l (Nat.add (Nat.div o es) len) ch) (Ver.trim 15 (.more id nv ch (Ver.keep nv rest))))) s.h, s.nk, Nat.succ (Nat.succ m)⟩) s.nx)
        (.bad 85)) (Ver.from v vs)) (Obj.cells? (H4.at f s.h))
noncomputable def evApp (elem es : Nat) (x y : V) (s : St) : RO :=
  source es y s fun n more =>
    OL.rec (motive := fun _ => RO) (.bad 80)
      (Bool.rec (motive := fun _ => RO) (RO.ite (Nat.ble n 1048576) (more n fun l => appNew elem es n l s) (.bad 79)) (.ok .nils s) (Nat.beq n 0))
      (fun f v o len cap ex es' => RO.ite (Nat.beq es es')
        (Bool.rec (motive := fun _ => RO)
          (RO.ite (Nat.ble (Nat.add len n) 1048576) (more n fun l => Bool.rec (motive := fun _ => RO) (appOpen elem es n f v o len l s)
            (getElems es len f v o s fun old => appNew elem es (Nat.add len n) (V.app old l) s) ex) (.bad 89))
          (Bool.rec (motive := fun _ => RO) (more n fun l => appRoom es n f v o len cap ex l s) (.ok (.sl f v o len cap ex es) s) (Nat.beq n 0))
          (Nat.ble (Nat.add len n) cap)) (.bad 86)) (V.sl? x)
noncomputable def evCopy (es : Nat) (d y : V) (s : St) : RO :=
  source es y s fun n more =>
    OL.rec (motive := fun _ => RO) (.bad 87) (okNat .i64 0 s)
      (fun f v o len cap ex es' => (fun m => Bool.rec (motive := fun _ => RO)
        (more m fun l => RO.ite (band (Nat.beq es es') (Nat.beq (Nat.mod o es) 0))
          (write f v o (Nat.mul m es) s (fun sz ch => Bool.rec .undef (V.putElems l (Nat.div o es) ch) (Nat.beq sz es)) fun s' => okNat .i64 m s') (.bad 88)) (okNat .i64 0 s) (Nat.beq m 0)) (Bool.rec len n (Nat.ble n len))) (V.sl? d)

/-! ## Runes -/
noncomputable def decodeAt (len d i : Nat) : Nat × Nat :=
  let at' (k : Nat) : Nat := strAt d (i + k)
  let cont (k : Nat) : Bool := Nat.blt (i + k) len && Nat.beq (at' k / 64) 2
  let b0 := at' 0
  if b0 < 0x80 then (b0, 1) else
  if b0 / 32 == 6 && cont 1 then
    let c := (b0 % 32) * 64 + at' 1 % 64
    if c ≥ 0x80 then (c, 2) else (0xFFFD, 1)
  else if b0 / 16 == 14 && cont 1 && cont 2 then
    let c := (b0 % 16) * 4096 + (at' 1 % 64) * 64 + at' 2 % 64
    if c ≥ 0x800 && Utf8.valid c then (c, 3) else (0xFFFD, 1)
  else if b0 / 8 == 30 && cont 1 && cont 2 && cont 3 then
    let c := (b0 % 8) * 262144 + (at' 1 % 64) * 4096 + (at' 2 % 64) * 64 + at' 3 % 64
    if c ≥ 0x10000 && Utf8.valid c then (c, 4) else (0xFFFD, 1)
  else (0xFFFD, 1)
noncomputable def decodeF (len d i : Nat) (k : Nat → Nat → RO) : RO :=
  (fun b => Bool.rec (motive := fun _ => RO) (Prod.rec (motive := fun _ => RO) (fun c w => k c w) (decodeAt len d i)) (k b 1) (Nat.ble (Nat.succ b) 128)) (strAt d i)
def encodeStr (n : Int) : Nat × Nat :=
  let c := if Utf8.valid n then n.toNat else 0xFFFD
  if c < 0x80 then (1, c)
  else if c < 0x800 then (2, (0xC0 + c / 64) + 256 * (0x80 + c % 64))
  else if c < 0x10000 then (3, (0xE0 + c / 4096) + 256 * (0x80 + c / 64 % 64) + 65536 * (0x80 + c % 64))
  else (4, (0xF0 + c / 262144) + 256 * (0x80 + c / 4096 % 64) + 65536 * (0x80 + c / 64 % 64) + 16777216 * (0x80 + c % 64))

/-! ## One operation -/
noncomputable def fillParts (ps : PartL) (e : E2) : V → (V → RO) → RO :=
  PartL.rec (motive := fun _ => V → (V → RO) → RO) (fun z k => k z) (fun off size x _ ih z k =>
    (fun y => Bool.rec (motive := fun _ => RO)
      (OV.rec (motive := fun _ => RO) (.bad 91) (fun cs => RO.ite (band (V.lenIs size cs) (V.has (Nat.add off size) z)) (ih (V.takeOn off z (V.takeOn size cs (V.drop (Nat.add off size) z))) k) (.bad 91)) (V.agg? y))
      (RO.ite (band (Nat.beq size 1) (V.has (Nat.succ off) z)) (ih (V.setNth off y z) k) (.bad 91)) (isCell y)) (Opd.val x e)) ps
noncomputable def fillElems (ps : PartL) (es len : Nat) (e : E2) : V → (V → RO) → RO :=
  PartL.rec (motive := fun _ => V → (V → RO) → RO) (fun z k => k z) (fun off _ x _ ih z k =>
    (fun y => Bool.rec (motive := fun _ => RO)
      (OV.rec (motive := fun _ => RO) (.bad 91) (fun cs => RO.ite (band (V.lenIs es cs) (Nat.ble (Nat.succ off) len)) (ih (V.putElem off cs z) k) (.bad 91)) (V.agg? y))
      (RO.ite (band (Nat.beq es 1) (Nat.ble (Nat.succ off) len)) (ih (V.putElem off (.cons y .nil) z) k) (.bad 91)) (isCell y)) (Opd.val x e)) ps
noncomputable def MTab.find (t : Nat) (m : MTab) (k : Nat → RO) : RO := MTab.rec (motive := fun _ => RO) (.bad 90) (fun t' f _ ih => Bool.rec (motive := fun _ => RO) ih (k f) (Nat.beq t t')) m
noncomputable def isLive (v : V) : Bool := V.rec (motive := fun _ => Bool) false (fun _ => false) (fun _ _ => false) (fun _ _ => false) false (fun f v o => true) false (fun _ _ _ _ _ _ _ => false) false (fun _ _ => false) false (fun fn a b _ _ => Fn.rec (motive := fun _ => Bool) (fun _ => true) (fun _ => false) (fun _ _ => false) (fun _ _ _ _ => false) (fun _ => false) fn) false (fun t x _ => true) (fun _ _ => false) (fun _ _ => false) (fun _ => false) (fun _ => false) false (fun _ _ _ _ => false) v

noncomputable def evAssert (t : Nat) (zero : V) (ok : Bool) (x : V) (s : St) : RO :=
  match x with
  | .nili => if ok then .ok (.tup (.cons zero (.cons (.bool false) .nil))) s else .bad 105
  | .iface t' y => if Nat.beq t t' then (if ok then .ok (.tup (.cons y (.cons (.bool true) .nil))) s else .ok y s)
      else (if ok then .ok (.tup (.cons zero (.cons (.bool false) .nil))) s else .bad 105)
  | _ => .bad 105
noncomputable def evCallV (x : V) (args : OpdL) (e : E2) (s : St) : RO :=
  match x with
  | .fn (.func f) first cap => .call f (V.app first (OpdL.valsOn args e cap)) s
  | .fn (.yield y) (.ptr k v o) c => .call 4095 (.agg (.cons (.fn (.yield y) (.ptr k v o) c) (OpdL.vals args e))) s
  | _ => .bad 106
noncomputable def evCallI (tab : MTab) (x : V) (args : OpdL) (e : E2) (s : St) : RO :=
  match x with
  | .iface t y => MTab.find t tab fun f => .call f (.cons y (OpdL.vals args e)) s
  | _ => .bad 107

noncomputable def ETab.find (t : Nat) (m : ETab) (k : Bool → List Nat → RO) : RO := ETab.rec (motive := fun _ => RO) (.bad 90) (fun t' a c _ ih => Bool.rec (motive := fun _ => RO) ih (k a c) (Nat.beq t t')) m
noncomputable def eqIface (neg : Bool) (tab : ETab) (x y : V) (s : St) : RO :=
  match x, y with
  | .nili, .iface _ _ => okBool neg s
  | .iface _ _, .nili => okBool neg s
  | .iface t x, .iface u y => Bool.rec (motive := fun _ => RO) (okBool neg s) (ETab.find t tab (fun a c => okCode neg (eqOf a c x y) s)) (Nat.beq t u)
  | _, _ => .bad 108

noncomputable def countByte (b l : Nat) : Nat → Nat := Nat.rec (motive := fun _ => Nat → Nat) (fun _ => 0) (fun _ ih d => Bool.rec (ih (Nat.div d 256)) (Nat.succ (ih (Nat.div d 256))) (Nat.beq (Nat.mod d 256) b)) l
noncomputable def indexByte (b l : Nat) : Nat → Nat → Int := Nat.rec (motive := fun _ => Nat → Nat → Int) (fun _ _ => Int.negSucc 0) (fun _ ih d i => Bool.rec (ih (Nat.div d 256) (Nat.succ i)) (Int.ofNat i) (Nat.beq (Nat.mod d 256) b)) l
noncomputable def indexStr (l2 d2 k : Nat) : Nat → Nat → Int := Nat.rec (motive := fun _ => Nat → Nat → Int) (fun _ _ => Int.negSucc 0) (fun _ ih d i => Bool.rec (ih (Nat.div d 256) (Nat.succ i)) (Int.ofNat i) (Nat.beq (Nat.mod d (Nat.pow 2 (Nat.mul 8 l2))) d2)) k
/-- a list of one-byte elements as a text's number -/
noncomputable def bytesNum (l : V) : Nat := V.rec (motive := fun _ => Nat) 0 (fun _ => 0) (fun _ _ => 0) (fun _ _ => 0) 0 (fun _ _ _ => 0) 0 (fun _ _ _ _ _ _ _ => 0) 0 (fun _ _ => 0) 0 (fun _ _ _ _ _ => 0) 0 (fun _ _ _ => 0) (fun _ _ => 0) (fun _ _ => 0) (fun _ => 0) (fun _ => 0) 0 (fun h _ _ r => OI.rec (motive := fun _ => Nat) 0 (fun _ n => Int.rec (motive := fun _ => Nat) (fun m => Nat.add m (Nat.mul 256 r)) (fun _ => 0) n) (V.int? (V.hd h))) l
noncomputable def allBytes (l : V) : Bool := V.rec (motive := fun _ => Bool) false (fun _ => false) (fun _ _ => false) (fun _ _ => false) false (fun _ _ _ => false) false (fun _ _ _ _ _ _ _ => false) false (fun _ _ => false) false (fun _ _ _ _ _ => false) false (fun _ _ _ => false) (fun _ _ => false) (fun _ _ => false) (fun _ => false) (fun _ => false) true (fun h _ _ r => OI.rec (motive := fun _ => Bool) false (fun k n => Bool.rec (motive := fun _ => Bool) false (Int.rec (motive := fun _ => Bool) (fun m => Bool.rec (motive := fun _ => Bool) false r (Nat.ble (Nat.succ m) 256)) (fun _ => false) n) (Nat.beq (kcode k) 4)) (V.int? (V.hd h))) l
noncomputable def minN (x y : Nat) : Nat := Bool.rec y x (Nat.ble x y)
noncomputable def maxN (x y : Nat) : Nat := Bool.rec x y (Nat.ble x y)
noncomputable def evUStrP (elem : Nat) (f : K) (v o n : Nat) (s : St) : RO :=
  getElems 1 n f v o s fun l => RO.ite (allBytes l)
    (OC.rec (motive := fun _ => RO) (.bad 116) (fun elem' sz ro a b vs => RO.ite (band (bnot ro) (Nat.beq elem elem')) (okStr n (bytesNum l) ⟨H4.put f (.cells elem' sz ro (Bool.rec (minN a o) o (Nat.beq a b)) (Bool.rec (maxN b (Nat.add o n)) (Nat.add o n) (Nat.beq a b)) vs) s.h, s.nk, s.nx⟩) (.bad 123)) (Obj.cells? (H4.at f s.h))) (.bad 117)
noncomputable def evUStr (elem : Nat) (x : V) (n : Nat) (s : St) : RO :=
  match x with
  | .nilp => RO.ite (Nat.beq n 0) (.ok (.str 0 0) s) (.bad 117)
  | .ptr f v o => Nat.rec (motive := fun _ => RO) (.ok (.str 0 0) s) (fun m _ => RO.ite (Nat.ble (Nat.succ m) 1048576) (evUStrP elem f v o (Nat.succ m) s) (.bad 122)) n
  | _ => .bad 117

noncomputable def evToUns (x : V) (s : St) : RO :=
  match x with
  | .nilp => .ok .nilp s
  | .ptr f v o => row f v s fun sz n ch => RO.ite (Nat.ble (Nat.succ o) n) (.ok (.ptr f v o) s) (.bad 118)
  | _ => .bad 118
noncomputable def evFromUns (u es : Nat) (x : V) (s : St) : RO :=
  match x with
  | .nilp => .ok .nilp s
  | .ptr f v o => OC.rec (motive := fun _ => RO) (.bad 119) (fun elem sz ro a b vs => OW.rec (motive := fun _ => RO) (.bad 119) (fun n ch =>
      RO.ite (band (Nat.beq elem u) (band (Nat.beq sz es) (band (Nat.beq (Nat.mod o sz) 0) (Nat.ble (Nat.add o sz) n)))) (.ok (.ptr f v o) s) (.bad 119)) (Ver.find v vs)) (Obj.cells? (H4.at f s.h))
  | _ => .bad 119

/-! Maps: entries in the order in which they came: key, value, stamp. -/
/-- are two keys the same? 2: can't be told. cls: 0 whole numbers, 1 texts, 2 bools -/
noncomputable def keyEq (cls : Nat) (x y : V) : Nat :=
  Nat.rec (motive := fun _ => Nat) (OI.rec (motive := fun _ => Nat) 2 (fun k a => OI.rec (motive := fun _ => Nat) 2 (fun k' b => Bool.rec (motive := fun _ => Nat) 2 (Bool.rec (motive := fun _ => Nat) 0 1 (ieq a b)) (Nat.beq (kcode k) (kcode k'))) (V.int? y)) (V.int? x))
    (fun c _ => Nat.rec (motive := fun _ => Nat) (OS.rec (motive := fun _ => Nat) 2 (fun l1 d1 => OS.rec (motive := fun _ => Nat) 2 (fun l2 d2 => Bool.rec (motive := fun _ => Nat) 0 1 (strEq l1 d1 l2 d2)) (V.str? y)) (V.str? x))
      (fun c' _ => Nat.rec (motive := fun _ => Nat) (OB.rec (motive := fun _ => Nat) 2 (fun a => OB.rec (motive := fun _ => Nat) 2 (fun b => Bool.rec (motive := fun _ => Nat) 0 1 (beqB a b)) (V.bool? y)) (V.bool? x)) (fun _ _ => 2) c') c) cls
noncomputable def mapFind (cls : Nat) (k es : V) (yes : V → RO) (no : RO) : RO :=
  V.rec (motive := fun _ => RO) (.bad 131) (fun _ => (.bad 131)) (fun _ _ => (.bad 131)) (fun _ _ => (.bad 131)) (.bad 131) (fun _ _ _ => (.bad 131)) (.bad 131) (fun _ _ _ _ _ _ _ => (.bad 131)) (.bad 131) (fun _ _ => (.bad 131)) (.bad 131) (fun _ _ _ _ _ => (.bad 131)) (.bad 131) (fun _ _ _ => (.bad 131)) (fun _ _ => (.bad 131)) (fun _ _ => (.bad 131)) (fun _ => (.bad 131)) (fun _ => (.bad 131)) no (fun h _ _ ih => (fun c => Bool.rec (motive := fun _ => RO) (Bool.rec (motive := fun _ => RO) (.bad 131) ih (Nat.beq c 0)) (yes (V.nth 1 h)) (Nat.beq c 1)) (keyEq cls k (V.hd h))) es
noncomputable def mapPut (cls : Nat) (k x : V) (clock : Nat) (es : V) : V :=
  V.rec (motive := fun _ => V) .nil (fun _ => .nil) (fun _ _ => .nil) (fun _ _ => .nil) .nil (fun _ _ _ => .nil) .nil (fun _ _ _ _ _ _ _ => .nil) .nil (fun _ _ => .nil) .nil (fun _ _ _ _ _ => .nil) .nil (fun _ _ _ => .nil) (fun _ _ => .nil) (fun _ _ => .nil) (fun _ => .nil) (fun _ => .nil) (.cons (.cons k (.cons x (.cons (.int .i64 (Int.ofNat clock)) .nil))) .nil) (fun h t _ ih => Bool.rec (motive := fun _ => V) (.cons h ih) (.cons (.cons k (.cons x (V.tl (V.tl h)))) t) (Nat.beq (keyEq cls k (V.hd h)) 1)) es
noncomputable def lookRes (ok : Bool) (b : Bool) (x : V) (s : St) : RO := Bool.rec (motive := fun _ => RO) (.ok x s) (.ok (.tup (.cons x (.cons (.bool b) .nil))) s) ok
noncomputable def evLook (cls : Nat) (zero : V) (ok : Bool) (x k : V) (s : St) : RO :=
  match x with
  | .nilm => lookRes ok false zero s
  | .map f v => Obj.rec (motive := fun _ => RO) (.bad 132) (fun _ _ _ _ _ _ => .bad 132) (fun v' es _ => RO.ite (Nat.beq v v') (mapFind cls k es (fun y => lookRes ok true y s) (lookRes ok false zero s)) (.bad 132)) (fun _ _ _ _ => .bad 132) (fun _ _ _ _ _ => .bad 132) (fun _ _ _ _ _ _ _ _ => .bad 132) (H4.at f s.h)
  | _ => .bad 132
noncomputable def evUpd (cls : Nat) (m k x : V) (s : St) : RO :=
  match m with
  | .map f v => Obj.rec (motive := fun _ => RO) (.bad 133) (fun _ _ _ _ _ _ => .bad 133) (fun v' es clock => RO.ite (Nat.beq v v')
      (mapFind cls k es (fun _ => .ok .undef ⟨H4.put f (.map v' (mapPut cls k x clock es) clock) s.h, s.nk, s.nx⟩) (.ok .undef ⟨H4.put f (.map v' (mapPut cls k x clock es) (Nat.succ clock)) s.h, s.nk, s.nx⟩)) (.bad 133)) (fun _ _ _ _ => .bad 133) (fun _ _ _ _ _ => .bad 133) (fun _ _ _ _ _ _ _ _ => .bad 133) (H4.at f s.h)
  | _ => .bad 133
/-- a key of structs (class 3 and its size): has it its cells? -/
noncomputable def keyOK (cls : Nat) (k : V) : Bool := Bool.rec (motive := fun _ => Bool) (OV.rec (motive := fun _ => Bool) false (fun cs => V.lenIs (Nat.sub cls 3) cs) (V.agg? k)) true (Nat.ble cls 2)
noncomputable def mapDrop (cls : Nat) (k es : V) : V := V.rec (motive := fun _ => V) .nil (fun _ => .nil) (fun _ _ => .nil) (fun _ _ => .nil) .nil (fun _ _ _ => .nil) .nil (fun _ _ _ _ _ _ _ => .nil) .nil (fun _ _ => .nil) .nil (fun _ _ _ _ _ => .nil) .nil (fun _ _ _ => .nil) (fun _ _ => .nil) (fun _ _ => .nil) (fun _ => .nil) (fun _ => .nil) .nil (fun h t _ ih => Bool.rec (motive := fun _ => V) (.cons h ih) t (Nat.beq (keyEq cls k (V.hd h)) 1)) es
noncomputable def evDel (cls : Nat) (m k : V) (s : St) : RO :=
  match m with
  | .nilm => .ok .undef s
  | .map f v => match H4.at f s.h with
    | .map v' es clock => RO.ite (Nat.beq v v') (mapFind cls k es (fun _ => .ok .undef ⟨H4.put f (.map v' (mapDrop cls k es) clock) s.h, s.nk, s.nx⟩) (.ok .undef ⟨H4.put f (.map v' es clock) s.h, s.nk, s.nx⟩)) (.bad 158)
    | _ => .bad 158
  | _ => .bad 158
noncomputable def bornOf (h : V) : Nat := OI.rec (motive := fun _ => Nat) 0 (fun _ n => Int.rec (motive := fun _ => Nat) (fun m => m) (fun _ => 0) n) (V.int? (V.nth 2 h))
/-- the entries that were not seen -/
noncomputable def leftV (seen : List Nat) (es : V) : V := V.rec (motive := fun _ => V) .nil (fun _ => .nil) (fun _ _ => .nil) (fun _ _ => .nil) .nil (fun _ _ _ => .nil) .nil (fun _ _ _ _ _ _ _ => .nil) .nil (fun _ _ => .nil) .nil (fun _ _ _ _ _ => .nil) .nil (fun _ _ _ => .nil) (fun _ _ => .nil) (fun _ _ => .nil) (fun _ => .nil) (fun _ => .nil) .nil (fun h _ _ ih => Bool.rec (motive := fun _ => V) (.cons h ih) ih (List.elem (bornOf h) seen)) es
/-- all of them new -/
noncomputable def newV (last : Nat) (es : V) : Bool := V.rec (motive := fun _ => Bool) false (fun _ => false) (fun _ _ => false) (fun _ _ => false) false (fun _ _ _ => false) false (fun _ _ _ _ _ _ _ => false) false (fun _ _ => false) false (fun _ _ _ _ _ => false) false (fun _ _ _ => false) (fun _ _ => false) (fun _ _ => false) (fun _ => false) (fun _ => false) true (fun h _ _ ih => band (Nat.ble last (bornOf h)) ih) es
noncomputable def evRngM (x : V) (s : St) : RO :=
  Nat.rec (motive := fun _ => RO) (.bad 100) (fun m _ => Bool.rec (motive := fun _ => RO) (.bad 21)
    (match x with
    | .nilm => .ok (.ptr s.nk (Nat.succ m) 0) ⟨H4.put s.nk (.miter (Nat.succ m) .nilm 0 [] 0) s.h, K.succ s.nk, Nat.succ (Nat.succ m)⟩
    | .map f v => match H4.at f s.h with
      | .map v' es clock => RO.ite (Nat.beq v v') (.ok (.ptr s.nk (Nat.succ m) 0) ⟨H4.put s.nk (.miter (Nat.succ m) (.map f v) clock [] clock) s.h, K.succ s.nk, Nat.succ (Nat.succ m)⟩) (.bad 159)
      | _ => .bad 159
    | _ => .bad 159) (Obj.isNone (H4.at s.nk s.h))) s.nx
noncomputable def overR (s : St) : RO := .ok (.tup (.cons (.bool false) .nil)) s
noncomputable def nxtGo (f : K) (v : Nat) (src : V) (since : Nat) (seen : List Nat) (last : Nat) (es : V) (clock : Nat) (s : St) : RO :=
  Bool.rec (motive := fun _ => RO)
    (match leftV seen es with
    | .nil => overR s
    | .cons h .nil => RO.ite (Nat.blt (bornOf h) since) (.ok (.tup (.cons (.bool true) (.cons (V.hd h) (.cons (V.nth 1 h) .nil)))) ⟨H4.put f (.miter v src since (seen ++ [bornOf h]) clock) s.h, s.nk, s.nx⟩) (.bad 160)
    | _ => .bad 161) (.bad 162) (band (bnot (List.isEmpty seen)) (band (V.isCons es) (newV last es)))
noncomputable def evNxtM (x : V) (s : St) : RO :=
  match x with
  | .ptr f v o => match H4.at f s.h with
    | .miter v' src since seen last => RO.ite (band (Nat.beq o 0) (Nat.beq v v')) (match src with
      | .nilm => overR s
      | .map f2 i => match H4.at f2 s.h with
        | .map i' es clock => RO.ite (Nat.beq i i') (nxtGo f v' src since seen last es clock s) (.bad 163)
        | _ => .bad 163
      | _ => .bad 163) (.bad 163)
    | _ => .bad 163
  | _ => .bad 163
noncomputable def evLenM (x : V) (s : St) : RO :=
  match x with
  | .nilm => okNat .i64 0 s
  | .map f v => Obj.rec (motive := fun _ => RO) (.bad 134) (fun _ _ _ _ _ _ => .bad 134) (fun v' es _ => RO.ite (Nat.beq v v') (okNat .i64 (V.len es) s) (.bad 134)) (fun _ _ _ _ => .bad 134) (fun _ _ _ _ _ => .bad 134) (fun _ _ _ _ _ _ _ _ => .bad 134) (H4.at f s.h)
  | _ => .bad 134
noncomputable def evMkMap (s : St) : RO :=
  Nat.rec (motive := fun _ => RO) (.bad 100) (fun m _ => Bool.rec (motive := fun _ => RO) (.bad 21)
    (.ok (.map s.nk (Nat.succ m)) ⟨H4.put s.nk (.map (Nat.succ m) .nil 0) s.h, K.succ s.nk, Nat.succ (Nat.succ m)⟩) (Obj.isNone (H4.at s.nk s.h))) s.nx
noncomputable def withByte (v : V) (k : Nat → RO) : RO := withInt v fun kd a => RO.ite (Nat.beq (kcode kd) 4) (Int.rec (motive := fun _ => RO) (fun m => RO.ite (Nat.ble (Nat.succ m) 256) (k m) (.bad 125)) (fun _ => .bad 125) a) (.bad 125)
noncomputable def withI64 (v : V) (k : Nat → RO) : RO := withInt v fun kd a => RO.ite (Nat.beq (kcode kd) 3) (Int.rec (motive := fun _ => RO) (fun m => k m) (fun _ => .bad 126) a) (.bad 126)
noncomputable def mmF (max : Bool) (a b : Int) : Int := Bool.rec (motive := fun _ => Int) (Bool.rec (motive := fun _ => Int) b a (ile a b)) (Bool.rec (motive := fun _ => Int) a b (ile a b)) max
noncomputable def evS2B (elem l d : Nat) (s : St) : RO :=
  RO.ite (Nat.ble l 1048576) (alloc elem 1 l (V.putElems (bytesOf l d) 0 .nil) s fun f v s' => .ok (.sl f v 0 l l false 1) ⟨H4.put f (.cells elem 1 false l 18446744073709551616 (.more v l (V.putElems (bytesOf l d) 0 .nil) .none)) s'.h, s'.nk, s'.nx⟩) (.bad 135)
noncomputable def evB2S (x : V) (s : St) : RO :=
  OL.rec (motive := fun _ => RO) (.bad 136) (.ok (.str 0 0) s) (fun f v o len _ _ es => RO.ite (Nat.beq es 1) (getElems 1 len f v o s fun l => RO.ite (allBytes l) (okStr len (bytesNum l) s) (.bad 117)) (.bad 136)) (V.sl? x)
noncomputable def evOp (op : IOp) : E2 → St → RO :=
  IOp.rec (motive := fun _ => E2 → St → RO)
    (fun x e s => .ok (Opd.val x e) s)                                            -- mv
    (fun c a b e s => withBool (Opd.val c e) (.ok (Opd.val a e) s) (.ok (Opd.val b e) s))  -- pick
    (fun elem sz zero e s => alloc elem sz sz (.cons (.cons zero .nil) .nil) s fun f v s' => .ok (.ptr f v 0) s')      -- new
    (fun elem x e s => RO.ite (isCell (Opd.val x e)) (alloc elem 1 1 (.cons (.cons (.cons (Opd.val x e) .nil) .nil) .nil) s fun f v s' => .ok (.ptr f v 0) s') (.bad 91))   -- box1
    (fun elem sz x e s => OV.rec (motive := fun _ => RO) (.bad 91) (fun cs => RO.ite (V.lenIs sz cs) (alloc elem sz sz (.cons (.cons cs .nil) .nil) s fun f v s' => .ok (.ptr f v 0) s') (.bad 91)) (V.agg? (Opd.val x e)))  -- boxN
    (fun zero ps e s => fillParts ps e zero fun cs => .ok (.agg cs) s)            -- build
    (fun elem es len zero ps e s => fillElems ps es len e (V.putElems (V.rep len zero) 0 .nil) fun ch => alloc elem es (Nat.mul len es) ch s fun f v s' => .ok (.sl f v 0 len len true es) s')   -- mkSl
    (fun x e s => withPtr (Opd.val x e) fun f v o => load1 f v o s fun c => .ok c s)             -- ld1
    (fun sz x e s => withPtr (Opd.val x e) fun f v o => loadN sz f v o s fun cs => .ok (.agg cs) s)   -- ldN
    (fun a x e s => withPtr (Opd.val a e) fun f v o => store1 f v o (Opd.val x e) s)             -- st1
    (fun sz a x e s => withPtr (Opd.val a e) fun f v o => storeN sz f v o (Opd.val x e) s)       -- stN
    (fun x e s => Bool.rec (motive := fun _ => RO) (.bad 92) (.ok (Opd.val x e) s) (isLive (Opd.val x e)))   -- chk
    (fun op x y e s => evBin op (Opd.val x e) (Opd.val y e) s)                    -- bin
    (fun left x y e s => evShift left (Opd.val x e) (Opd.val y e) s)              -- shift
    (fun neg x y e s => okCode neg (eqPtr (Opd.val x e) (Opd.val y e) s) s)         -- eq
    (fun neg x y e s => withB (Opd.val x e) fun a => withB (Opd.val y e) fun b => okBool (Bool.rec (beqB a b) (bnot (beqB a b)) neg) s)          -- eqB
    (fun neg kind x e s => okNil neg kind (isNil (Opd.val x e)) s)                 -- eqNil
    (fun neg tab x y e s => eqIface neg tab (Opd.val x e) (Opd.val y e) s)          -- eqI
    (fun neg cls x y e s => okCode neg (eqAgg cls (Opd.val x e) (Opd.val y e)) s)   -- eqFlat
    (fun x e s => withInt (Opd.val x e) fun k a => okInt k (wrapF k (isub 0 a)) s)  -- neg
    (fun x e s => withBool (Opd.val x e) (.ok (.bool false) s) (.ok (.bool true) s))   -- not
    (fun k x e s => withInt (Opd.val x e) fun _ a => okInt k (wrapF k a) s)         -- cvI
    (fun x e s => withInt (Opd.val x e) fun _ a => Prod.rec (motive := fun _ => RO) (fun l d => okStr l d s) (encodeStr a))   -- cvRune
    (fun t x e s => .ok (.iface t (Opd.val x e)) s)                               -- mkIf
    (fun fn first cap e s => .ok (.fn fn (OpdL.vals first e) (OpdL.vals cap e)) s)   -- mkFn
    (fun es x lo hi mx e s => evSlice es (Opd.val x e) lo hi mx e s)              -- slice
    (fun n es x lo hi mx e s => evSliceA n es (Opd.val x e) lo hi mx e s)         -- sliceA
    (fun x lo hi e s => evCut (Opd.val x e) lo hi e s)                            -- cut
    (fun off x e s => withPtr (Opd.val x e) fun f v o => .ok (.ptr f v (Nat.add o off)) s)   -- fld
    (fun off x e s => OV.rec (motive := fun _ => RO) (.bad 94) (fun cs => RO.ite (V.has (Nat.succ off) cs) (.ok (V.nth off cs) s) (.bad 94)) (V.agg? (Opd.val x e)))   -- part1
    (fun off size x e s => OV.rec (motive := fun _ => RO) (.bad 94) (fun cs => RO.ite (V.has (Nat.add off size) cs) (.ok (.agg (V.takeOn size (V.drop off cs) .nil)) s) (.bad 94)) (V.agg? (Opd.val x e)))   -- partN
    (fun es x i e s => OL.rec (motive := fun _ => RO) (.bad 95) (.bad 95) (fun f v o len _ _ es' => withNat (Opd.val i e) fun n => RO.ite (band (Nat.ble (Nat.succ n) len) (Nat.beq es es')) (.ok (.ptr f v (Nat.add o (Nat.mul n es))) s) (.bad 96)) (V.sl? (Opd.val x e)))   -- ixA
    (fun len es x i e s => withPtr (Opd.val x e) fun f v o => withNat (Opd.val i e) fun n => RO.ite (Nat.ble (Nat.succ n) len) (.ok (.ptr f v (Nat.add o (Nat.mul n es))) s) (.bad 97))   -- ixArr
    (fun x i e s => withStr (Opd.val x e) fun l d => withNat (Opd.val i e) fun n => RO.ite (Nat.ble (Nat.succ n) l) (okNat .u8 (strAt d n) s) (.bad 98))   -- ixS
    (fun len x i e s => OV.rec (motive := fun _ => RO) (.bad 99) (fun cs => withNat (Opd.val i e) fun n => RO.ite (band (Nat.ble (Nat.succ n) len) (V.has (Nat.succ n) cs)) (.ok (V.nth n cs) s) (.bad 99)) (V.agg? (Opd.val x e)))   -- ixV1
    (fun len es x i e s => OV.rec (motive := fun _ => RO) (.bad 99) (fun cs => withNat (Opd.val i e) fun n => RO.ite (band (Nat.ble (Nat.succ n) len) (V.has (Nat.add (Nat.mul n es) es) cs)) (.ok (.agg (V.takeOn es (V.drop (Nat.mul n es) cs) .nil)) s) (.bad 99)) (V.agg? (Opd.val x e)))   -- ixVN
    (fun x e s => withStr (Opd.val x e) fun l d => Nat.rec (motive := fun _ => RO) (.bad 100) (fun m _ => Bool.rec (motive := fun _ => RO) (.bad 21)
        (.ok (.ptr s.nk (Nat.succ m) 0) ⟨H4.put s.nk (.siter (Nat.succ m) l d 0) s.h, K.succ s.nk, Nat.succ (Nat.succ m)⟩) (Obj.isNone (H4.at s.nk s.h))) s.nx)   -- rng
    (fun x e s => withPtr (Opd.val x e) fun f v o => Obj.rec (motive := fun _ => RO) (.bad 101) (fun _ _ _ _ _ _ => .bad 101) (fun _ _ _ => .bad 101)
        (fun v' l d pos => RO.ite (band (Nat.beq o 0) (Nat.beq v v')) (Bool.rec (motive := fun _ => RO) (.ok (.tup (.cons (.bool false) .nil)) s)
          (decodeF l d pos fun c w => .ok (.tup (.cons (.bool true) (.cons (.int .i64 (Int.ofNat pos)) (.cons (.int .i32 (Int.ofNat c)) .nil)))) ⟨H4.put f (.siter v' l d (Nat.add pos w)) s.h, s.nk, s.nx⟩) (Nat.ble (Nat.succ pos) l)) (.bad 102)) (fun _ _ _ _ _ => .bad 101) (fun _ _ _ _ _ _ _ _ => .bad 101) (H4.at f s.h))   -- nxt
    (fun t zero ok x e s => evAssert t zero ok (Opd.val x e) s)                   -- asrt
    (fun i x e s => OV.rec (motive := fun _ => RO) (.bad 103) (fun cs => RO.ite (V.has (Nat.succ i) cs) (.ok (V.nth i cs) s) (.bad 103)) (V.tup? (Opd.val x e)))   -- ext
    (fun f args e s => .call f (OpdL.vals args e) s)                              -- call
    (fun x args e s => evCallV (Opd.val x e) args e s)                            -- callV
    (fun tab x args e s => evCallI tab (Opd.val x e) args e s)                    -- callI
    (fun x e s => withStr (Opd.val x e) fun l _ => okNat .i64 l s)                  -- lenS
    (fun x e s => OL.rec (motive := fun _ => RO) (.bad 104) (okNat .i64 0 s) (fun _ _ _ len _ _ _ => okNat .i64 len s) (V.sl? (Opd.val x e)))   -- lenL
    (fun max x y e s => withInt (Opd.val x e) fun k a => withInt (Opd.val y e) fun _ b => Bool.rec (motive := fun _ => RO) (Bool.rec (motive := fun _ => RO) (.ok (.int k b) s) (.ok (.int k a) s) (ile a b)) (Bool.rec (motive := fun _ => RO) (.ok (.int k a) s) (.ok (.int k b) s) (ile a b)) max)   -- minmax
    (fun elem es x y e s => evApp elem es (Opd.val x e) (Opd.val y e) s)          -- app
    (fun es x y e s => evCopy es (Opd.val x e) (Opd.val y e) s)                   -- copy
    (fun x e s => .ok (Opd.val x e) s)                                            -- same
    (fun x e s => withStr (Opd.val x e) fun l d => .ok (Opd.val x e) s)           -- sameS
    (fun x e s => evToUns (Opd.val x e) s)                                        -- toUns
    (fun u es x e s => evFromUns u es (Opd.val x e) s)                                  -- fromUns
    (fun x c e s => withStr (Opd.val x e) fun l d => withByte (Opd.val c e) fun b => okNat .i64 (countByte b l d) s)   -- xCount
    (fun x c e s => withStr (Opd.val x e) fun l d => withByte (Opd.val c e) fun b => okInt .i64 (indexByte b l d 0) s)   -- xIndexByte
    (fun g x y e s => withStr (Opd.val x e) fun l1 d1 => withStr (Opd.val y e) fun l2 d2 => load1 g 0 0 s fun m => withI64 m fun m => RO.ite (band (Nat.ble 2 l2) (band (Nat.ble l2 m) (Nat.ble l1 4294967280))) (okInt .i64 (indexStr l2 d2 (Nat.sub (Nat.succ l1) l2) d1 0) s) (.bad 109))   -- xIndex
    (fun elem x e s => withI64 (Opd.val x e) fun n => RO.ite (Nat.ble n 1048576) (alloc elem 1 n .nil s fun f v s' => .ok (.sl f v 0 n n false 1) s') (.bad 124))   -- xNoZero
    (fun x e s => OL.rec (motive := fun _ => RO) (.bad 112) (.ok .nilp s) (fun f v o len cap ex es => Nat.rec (motive := fun _ => RO) (.bad 113) (fun _ _ => .ok (.ptr f v o) s) cap) (V.sl? (Opd.val x e)))   -- sdata
    (fun elem x n e s => withNat (Opd.val n e) fun n => evUStr elem (Opd.val x e) n s)   -- ustr
    (fun x e s => OL.rec (motive := fun _ => RO) (.bad 114) (okNat .i64 0 s) (fun _ _ _ _ cap ex _ => RO.ite ex (okNat .i64 cap s) (.bad 114)) (V.sl? (Opd.val x e)))   -- capL
    (fun elem es zero len cap e s => withNat (Opd.val len e) fun n => withNat (Opd.val cap e) fun c => RO.ite (band (Nat.ble n c) (Nat.ble c 1048576)) (alloc elem es (Nat.mul c es) (V.putElems (V.rep c zero) 0 .nil) s fun f v s' => .ok (.sl f v 0 n c true es) s') (.bad 115))   -- mkMake
    (fun e s => evMkMap s)                                                        -- mkMap
    (fun cls zero ok x k e s => RO.ite (keyOK cls (Opd.val k e)) (evLook cls zero ok (Opd.val x e) (Opd.val k e) s) (.bad 155))  -- lookM
    (fun cls m k x e s => RO.ite (keyOK cls (Opd.val k e)) (evUpd cls (Opd.val m e) (Opd.val k e) (Opd.val x e) s) (.bad 155))   -- updM
    (fun x e s => evLenM (Opd.val x e) s)                                         -- lenM
    (fun max x y z e s => withInt (Opd.val x e) fun k a => withInt (Opd.val y e) fun _ b => withInt (Opd.val z e) fun _ c => .ok (.int k (mmF max (mmF max a b) c)) s)   -- minmax3
    (fun elem x e s => withStr (Opd.val x e) fun l d => evS2B elem l d s)                  -- s2b
    (fun x e s => evB2S (Opd.val x e) s)                                                  -- b2s
    (fun cls m k e s => RO.ite (keyOK cls (Opd.val k e)) (evDel cls (Opd.val m e) (Opd.val k e) s) (.bad 155))   -- delM
    (fun x e s => evRngM (Opd.val x e) s)   -- rngM
    (fun x e s => evNxtM (Opd.val x e) s)   -- nxtM
    (fun w e s => .bad w) op

/-- the same, as a closed function of the operation -/
inductive RunF where
  | mk (f : E2 → St → RO)
noncomputable def runOf (op : IOp) : RunF :=
  IOp.rec (motive := fun _ => RunF)
    (fun x => .mk fun e s => .ok (Opd.val x e) s)                                            -- mv
    (fun c a b => .mk fun e s => withBool (Opd.val c e) (.ok (Opd.val a e) s) (.ok (Opd.val b e) s))  -- pick
    (fun elem sz zero => .mk fun e s => alloc elem sz sz (.cons (.cons zero .nil) .nil) s fun f v s' => .ok (.ptr f v 0) s')      -- new
    (fun elem x => .mk fun e s => RO.ite (isCell (Opd.val x e)) (alloc elem 1 1 (.cons (.cons (.cons (Opd.val x e) .nil) .nil) .nil) s fun f v s' => .ok (.ptr f v 0) s') (.bad 91))   -- box1
    (fun elem sz x => .mk fun e s => OV.rec (motive := fun _ => RO) (.bad 91) (fun cs => RO.ite (V.lenIs sz cs) (alloc elem sz sz (.cons (.cons cs .nil) .nil) s fun f v s' => .ok (.ptr f v 0) s') (.bad 91)) (V.agg? (Opd.val x e)))  -- boxN
    (fun zero ps => .mk fun e s => fillParts ps e zero fun cs => .ok (.agg cs) s)            -- build
    (fun elem es len zero ps => .mk fun e s => fillElems ps es len e (V.putElems (V.rep len zero) 0 .nil) fun ch => alloc elem es (Nat.mul len es) ch s fun f v s' => .ok (.sl f v 0 len len true es) s')   -- mkSl
    (fun x => .mk fun e s => withPtr (Opd.val x e) fun f v o => load1 f v o s fun c => .ok c s)             -- ld1
    (fun sz x => .mk fun e s => withPtr (Opd.val x e) fun f v o => loadN sz f v o s fun cs => .ok (.agg cs) s)   -- ldN
    (fun a x => .mk fun e s => withPtr (Opd.val a e) fun f v o => store1 f v o (Opd.val x e) s)             -- st1
    (fun sz a x => .mk fun e s => withPtr (Opd.val a e) fun f v o => storeN sz f v o (Opd.val x e) s)       -- stN
    (fun x => .mk fun e s => Bool.rec (motive := fun _ => RO) (.bad 92) (.ok (Opd.val x e) s) (isLive (Opd.val x e)))   -- chk
    (fun op x y => .mk fun e s => evBin op (Opd.val x e) (Opd.val y e) s)                    -- bin
    (fun left x y => .mk fun e s => evShift left (Opd.val x e) (Opd.val y e) s)              -- shift
    (fun neg x y => .mk fun e s => okCode neg (eqPtr (Opd.val x e) (Opd.val y e) s) s)         -- eq
    (fun neg x y => .mk fun e s => withB (Opd.val x e) fun a => withB (Opd.val y e) fun b => okBool (Bool.rec (beqB a b) (bnot (beqB a b)) neg) s)          -- eqB
    (fun neg kind x => .mk fun e s => okNil neg kind (isNil (Opd.val x e)) s)                 -- eqNil
    (fun neg tab x y => .mk fun e s => eqIface neg tab (Opd.val x e) (Opd.val y e) s)          -- eqI
    (fun neg cls x y => .mk fun e s => okCode neg (eqAgg cls (Opd.val x e) (Opd.val y e)) s)   -- eqFlat
    (fun x => .mk fun e s => withInt (Opd.val x e) fun k a => okInt k (wrapF k (isub 0 a)) s)  -- neg
    (fun x => .mk fun e s => withBool (Opd.val x e) (.ok (.bool false) s) (.ok (.bool true) s))   -- not
    (fun k x => .mk fun e s => withInt (Opd.val x e) fun _ a => okInt k (wrapF k a) s)         -- cvI
    (fun x => .mk fun e s => withInt (Opd.val x e) fun _ a => Prod.rec (motive := fun _ => RO) (fun l d => okStr l d s) (encodeStr a))   -- cvRune
    (fun t x => .mk fun e s => .ok (.iface t (Opd.val x e)) s)                               -- mkIf
    (fun fn first cap => .mk fun e s => .ok (.fn fn (OpdL.vals first e) (OpdL.vals cap e)) s)   -- mkFn
    (fun es x lo hi mx => .mk fun e s => evSlice es (Opd.val x e) lo hi mx e s)              -- slice
    (fun n es x lo hi mx => .mk fun e s => evSliceA n es (Opd.val x e) lo hi mx e s)         -- sliceA
    (fun x lo hi => .mk fun e s => evCut (Opd.val x e) lo hi e s)                            -- cut
    (fun off x => .mk fun e s => withPtr (Opd.val x e) fun f v o => .ok (.ptr f v (Nat.add o off)) s)   -- fld
    (fun off x => .mk fun e s => OV.rec (motive := fun _ => RO) (.bad 94) (fun cs => RO.ite (V.has (Nat.succ off) cs) (.ok (V.nth off cs) s) (.bad 94)) (V.agg? (Opd.val x e)))   -- part1
    (fun off size x => .mk fun e s => OV.rec (motive := fun _ => RO) (.bad 94) (fun cs => RO.ite (V.has (Nat.add off size) cs) (.ok (.agg (V.takeOn size (V.drop off cs) .nil)) s) (.bad 94)) (V.agg? (Opd.val x e)))   -- partN
    (fun es x i => .mk fun e s => OL.rec (motive := fun _ => RO) (.bad 95) (.bad 95) (fun f v o len _ _ es' => withNat (Opd.val i e) fun n => RO.ite (band (Nat.ble (Nat.succ n) len) (Nat.beq es es')) (.ok (.ptr f v (Nat.add o (Nat.mul n es))) s) (.bad 96)) (V.sl? (Opd.val x e)))   -- ixA
    (fun len es x i => .mk fun e s => withPtr (Opd.val x e) fun f v o => withNat (Opd.val i e) fun n => RO.ite (Nat.ble (Nat.succ n) len) (.ok (.ptr f v (Nat.add o (Nat.mul n es))) s) (.bad 97))   -- ixArr
    (fun x i => .mk fun e s => withStr (Opd.val x e) fun l d => withNat (Opd.val i e) fun n => RO.ite (Nat.ble (Nat.succ n) l) (okNat .u8 (strAt d n) s) (.bad 98))   -- ixS
    (fun len x i => .mk fun e s => OV.rec (motive := fun _ => RO) (.bad 99) (fun cs => withNat (Opd.val i e) fun n => RO.ite (band (Nat.ble (Nat.succ n) len) (V.has (Nat.succ n) cs)) (.ok (V.nth n cs) s) (.bad 99)) (V.agg? (Opd.val x e)))   -- ixV1
    (fun len es x i => .mk fun e s => OV.rec (motive := fun _ => RO) (.bad 99) (fun cs => withNat (Opd.val i e) fun n => RO.ite (band (Nat.ble (Nat.succ n) len) (V.has (Nat.add (Nat.mul n es) es) cs)) (.ok (.agg (V.takeOn es (V.drop (Nat.mul n es) cs) .nil)) s) (.bad 99)) (V.agg? (Opd.val x e)))   -- ixVN
    (fun x => .mk fun e s => withStr (Opd.val x e) fun l d => Nat.rec (motive := fun _ => RO) (.bad 100) (fun m _ => Bool.rec (motive := fun _ => RO) (.bad 21)
        (.ok (.ptr s.nk (Nat.succ m) 0) ⟨H4.put s.nk (.siter (Nat.succ m) l d 0) s.h, K.succ s.nk, Nat.succ (Nat.succ m)⟩) (Obj.isNone (H4.at s.nk s.h))) s.nx)   -- rng
    (fun x => .mk fun e s => withPtr (Opd.val x e) fun f v o => Obj.rec (motive := fun _ => RO) (.bad 101) (fun _ _ _ _ _ _ => .bad 101) (fun _ _ _ => .bad 101)
        (fun v' l d pos => RO.ite (band (Nat.beq o 0) (Nat.beq v v')) (Bool.rec (motive := fun _ => RO) (.ok (.tup (.cons (.bool false) .nil)) s)
          (decodeF l d pos fun c w => .ok (.tup (.cons (.bool true) (.cons (.int .i64 (Int.ofNat pos)) (.cons (.int .i32 (Int.ofNat c)) .nil)))) ⟨H4.put f (.siter v' l d (Nat.add pos w)) s.h, s.nk, s.nx⟩) (Nat.ble (Nat.succ pos) l)) (.bad 102)) (fun _ _ _ _ _ => .bad 101) (fun _ _ _ _ _ _ _ _ => .bad 101) (H4.at f s.h))   -- nxt
    (fun t zero ok x => .mk fun e s => evAssert t zero ok (Opd.val x e) s)                   -- asrt
    (fun i x => .mk fun e s => OV.rec (motive := fun _ => RO) (.bad 103) (fun cs => RO.ite (V.has (Nat.succ i) cs) (.ok (V.nth i cs) s) (.bad 103)) (V.tup? (Opd.val x e)))   -- ext
    (fun f args => .mk fun e s => .call f (OpdL.vals args e) s)                              -- call
    (fun x args => .mk fun e s => evCallV (Opd.val x e) args e s)                            -- callV
    (fun tab x args => .mk fun e s => evCallI tab (Opd.val x e) args e s)                    -- callI
    (fun x => .mk fun e s => withStr (Opd.val x e) fun l _ => okNat .i64 l s)                  -- lenS
    (fun x => .mk fun e s => OL.rec (motive := fun _ => RO) (.bad 104) (okNat .i64 0 s) (fun _ _ _ len _ _ _ => okNat .i64 len s) (V.sl? (Opd.val x e)))   -- lenL
    (fun max x y => .mk fun e s => withInt (Opd.val x e) fun k a => withInt (Opd.val y e) fun _ b => Bool.rec (motive := fun _ => RO) (Bool.rec (motive := fun _ => RO) (.ok (.int k b) s) (.ok (.int k a) s) (ile a b)) (Bool.rec (motive := fun _ => RO) (.ok (.int k a) s) (.ok (.int k b) s) (ile a b)) max)   -- minmax
    (fun elem es x y => .mk fun e s => evApp elem es (Opd.val x e) (Opd.val y e) s)          -- app
    (fun es x y => .mk fun e s => evCopy es (Opd.val x e) (Opd.val y e) s)                   -- copy
    (fun x => .mk fun e s => .ok (Opd.val x e) s)                                            -- same
    (fun x => .mk fun e s => withStr (Opd.val x e) fun l d => .ok (Opd.val x e) s)           -- sameS
    (fun x => .mk fun e s => evToUns (Opd.val x e) s)                                        -- toUns
    (fun u es x => .mk fun e s => evFromUns u es (Opd.val x e) s)                                  -- fromUns
    (fun x c => .mk fun e s => withStr (Opd.val x e) fun l d => withByte (Opd.val c e) fun b => okNat .i64 (countByte b l d) s)   -- xCount
    (fun x c => .mk fun e s => withStr (Opd.val x e) fun l d => withByte (Opd.val c e) fun b => okInt .i64 (indexByte b l d 0) s)   -- xIndexByte
    (fun g x y => .mk fun e s => withStr (Opd.val x e) fun l1 d1 => withStr (Opd.val y e) fun l2 d2 => load1 g 0 0 s fun m => withI64 m fun m => RO.ite (band (Nat.ble 2 l2) (band (Nat.ble l2 m) (Nat.ble l1 4294967280))) (okInt .i64 (indexStr l2 d2 (Nat.sub (Nat.succ l1) l2) d1 0) s) (.bad 109))   -- xIndex
    (fun elem x => .mk fun e s => withI64 (Opd.val x e) fun n => RO.ite (Nat.ble n 1048576) (alloc elem 1 n .nil s fun f v s' => .ok (.sl f v 0 n n false 1) s') (.bad 124))   -- xNoZero
    (fun x => .mk fun e s => OL.rec (motive := fun _ => RO) (.bad 112) (.ok .nilp s) (fun f v o len cap ex es => Nat.rec (motive := fun _ => RO) (.bad 113) (fun _ _ => .ok (.ptr f v o) s) cap) (V.sl? (Opd.val x e)))   -- sdata
    (fun elem x n => .mk fun e s => withNat (Opd.val n e) fun n => evUStr elem (Opd.val x e) n s)   -- ustr
    (fun x => .mk fun e s => OL.rec (motive := fun _ => RO) (.bad 114) (okNat .i64 0 s) (fun _ _ _ _ cap ex _ => RO.ite ex (okNat .i64 cap s) (.bad 114)) (V.sl? (Opd.val x e)))   -- capL
    (fun elem es zero len cap => .mk fun e s => withNat (Opd.val len e) fun n => withNat (Opd.val cap e) fun c => RO.ite (band (Nat.ble n c) (Nat.ble c 1048576)) (alloc elem es (Nat.mul c es) (V.putElems (V.rep c zero) 0 .nil) s fun f v s' => .ok (.sl f v 0 n c true es) s') (.bad 115))   -- mkMake
    (.mk fun e s => evMkMap s)                                                        -- mkMap
    (fun cls zero ok x k => .mk fun e s => RO.ite (keyOK cls (Opd.val k e)) (evLook cls zero ok (Opd.val x e) (Opd.val k e) s) (.bad 155))  -- lookM
    (fun cls m k x => .mk fun e s => RO.ite (keyOK cls (Opd.val k e)) (evUpd cls (Opd.val m e) (Opd.val k e) (Opd.val x e) s) (.bad 155))   -- updM
    (fun x => .mk fun e s => evLenM (Opd.val x e) s)                                         -- lenM
    (fun max x y z => .mk fun e s => withInt (Opd.val x e) fun k a => withInt (Opd.val y e) fun _ b => withInt (Opd.val z e) fun _ c => .ok (.int k (mmF max (mmF max a b) c)) s)   -- minmax3
    (fun elem x => .mk fun e s => withStr (Opd.val x e) fun l d => evS2B elem l d s)                  -- s2b
    (fun x => .mk fun e s => evB2S (Opd.val x e) s)                                                  -- b2s
    (fun cls m k => .mk fun e s => RO.ite (keyOK cls (Opd.val k e)) (evDel cls (Opd.val m e) (Opd.val k e) s) (.bad 155))   -- delM
    (fun x => .mk fun e s => evRngM (Opd.val x e) s)   -- rngM
    (fun x => .mk fun e s => evNxtM (Opd.val x e) s)   -- nxtM
    (fun w => .mk fun e s => .bad w) op

/-! ## Code -/
noncomputable def Gd.ok (g : Gd) (e : E2) : Bool :=
  Gd.rec (motive := fun _ => Bool) true (fun f want => OB.rec (motive := fun _ => Bool) false (fun b => Bool.rec (bnot b) b want) (V.bool? (f e))) g
/-! moves are laid together: one closed function for a row of them -/
inductive FnV where
  | mk (f : E2 → V)
noncomputable def Opd.fn (x : Opd) : FnV := Opd.rec (motive := fun _ => FnV) (fun f => .mk f) (fun v => .mk fun _ => v) x
noncomputable def mvOf (op : IOp) : OpdO := match op with
  | .mv x => .yes x
  | _ => .no
noncomputable def OpL.move (f : E2 → E2) (l : OpL) : OpL :=
  OpL.rec (motive := fun _ => OpL) (.mvs f .nil) (fun op run d g rest _ => .mvs f (.cons op run d g rest)) (fun f' rest _ => .mvs (fun e => f' (f e)) rest) l
noncomputable def OpL.run (a : IOp) (d : Dst) (g : Gd) (rest : OpL) : OpL := RunF.rec (motive := fun _ => OpL) (fun f => .cons a f d g rest) (runOf a)
noncomputable def consOp (a : IOp) (d : Dst) (g : Gd) (rest : OpL) : OpL :=
  Gd.rec (motive := fun _ => OpL) (Dst.rec (motive := fun _ => OpL) (OpL.run a d g rest) (fun f => OpdO.rec (motive := fun _ => OpL) (OpL.run a d g rest)
    (fun x => FnV.rec (motive := fun _ => OpL) (fun h => OpL.move (fun e => f (h e) e) rest) (Opd.fn x)) (mvOf a)) d) (fun _ _ => OpL.run a d g rest) g
noncomputable def evOps (call : Nat → V → St → RC) (l : OpL) : E2 → St → R :=
  OpL.rec (motive := fun _ => E2 → St → R) (fun e s => .norm e s)
    (fun op run dst g _ ih e s => Bool.rec (motive := fun _ => R) (ih (Dst.put dst .undef e) s)
      (RO.rec (motive := fun _ => R) (fun v s' => ih (Dst.put dst v e) s')
        (fun f as s' => RC.rec (motive := fun _ => R) (fun v s'' => ih (Dst.put dst v e) s'') (fun w => .bad w) (call f as s')) (fun w => .bad w) (run e s)) (Gd.ok g e))
    (fun f _ ih e s => ih (f e) s) l
noncomputable def goR (k : E2 → St → R) (e : E2) (s : St) : R := k e s
noncomputable def sameMap (f : K) (v : Nat) (y : V) : Bool := match y with
  | .map f' v' => band (K.beq f f') (Nat.beq v v')
  | _ => false
noncomputable def sameFn (fn : Fn) (iha ihb : V → Bool) (y : V) : Bool := match fn, y with
  | .func f, .fn (.func f') a' b' => band (Nat.beq f f') (band (iha a') (ihb b'))
  | _, _ => false
noncomputable def sameIf (t : Nat) (ih : V → Bool) (y : V) : Bool := match y with
  | .iface t' x' => band (Nat.beq t t') (ih x')
  | _ => false
noncomputable def sameSym (i : Nat) (y : V) : Bool := match y with
  | .sym j => Nat.beq i j
  | _ => false
noncomputable def sameOpq (i : Nat) (y : V) : Bool := match y with
  | .opq j => Nat.beq i j
  | _ => false
noncomputable def same (x : V) : V → Bool :=
  V.rec (motive := fun _ => V → Bool) (fun y => V.isUndef y) (fun b y => OB.rec (motive := fun _ => Bool) false (fun c => beqB b c) (V.bool? y))
    (fun k n y => OI.rec (motive := fun _ => Bool) false (fun k' n' => band (Nat.beq (kcode k) (kcode k')) (ieq n n')) (V.int? y))
    (fun l d y => OS.rec (motive := fun _ => Bool) false (fun l' d' => band (Nat.beq l l') (Nat.beq d d')) (V.str? y))
    (fun y => Nat.beq (isNil y) 1)
    (fun f v o y => OP.rec (motive := fun _ => Bool) false (fun f' v' o' => band (K.beq f f') (band (Nat.beq v v') (Nat.beq o o'))) (V.ptr? y))
    (fun y => Nat.beq (isNil y) 3)
    (fun f v o len cap ex es y => OL.rec (motive := fun _ => Bool) false false (fun f' v' o' len' cap' ex' es' => band (K.beq f f') (band (Nat.beq v v') (band (Nat.beq o o') (band (Nat.beq len len') (band (Nat.beq cap cap') (band (beqB ex ex') (Nat.beq es es'))))))) (V.sl? y))
    (fun y => Nat.beq (isNil y) 5) (fun f v y => sameMap f v y) (fun y => Nat.beq (isNil y) 7) (fun fn _ _ iha ihb y => sameFn fn iha ihb y) (fun y => Nat.beq (isNil y) 9)
    (fun t _ ih y => sameIf t ih y) (fun _ ih y => OV.rec (motive := fun _ => Bool) false (fun cs => ih cs) (V.agg? y)) (fun _ ih y => OV.rec (motive := fun _ => Bool) false (fun cs => ih cs) (V.tup? y))
    (fun i y => sameSym i y) (fun i y => sameOpq i y) (fun y => V.isEnd y) (fun _ _ ihh iht y => Bool.rec (motive := fun _ => Bool) false (band (ihh (V.hd y)) (iht (V.tl y))) (V.isCons y)) x
inductive OMore where
  | no
  | end
  | yes (id n : Nat) (ch : V) (rest : Ver)
noncomputable def Ver.more? (v : Ver) : OMore := Ver.rec (motive := fun _ => OMore) .end (fun i n c r _ => .yes i n c r) v
noncomputable def Ver.same (x : Ver) : Ver → Bool :=
  Ver.rec (motive := fun _ => Ver → Bool) (fun y => OMore.rec (motive := fun _ => Bool) false true (fun _ _ _ _ => false) (Ver.more? y))
    (fun i n c _ ih y => OMore.rec (motive := fun _ => Bool) false false (fun i' n' c' r' => band (Nat.beq i i') (band (Nat.beq n n') (band (Ev.same c c') (ih r')))) (Ver.more? y)) x
noncomputable def Obj.same (x y : Obj) : Bool :=
  OC.rec (motive := fun _ => Bool) false (fun e s ro a b vs => OC.rec (motive := fun _ => Bool) false (fun e' s' ro' a' b' vs' =>
    band (Nat.beq e e') (band (Nat.beq s s') (band (beqB ro ro') (band (Nat.beq a a') (band (Nat.beq b b') (Ver.same vs vs')))))) (Obj.cells? y)) (Obj.cells? x)

/-! ## Regions whose order is drawn -/
noncomputable def E2.rd (t : Nat) (e : E2) : V := E2.at (D.dig (Nat.div t 16)) (D.dig (Nat.mod t 16)) e
noncomputable def E2.wr (t : Nat) (v : V) (e : E2) : E2 := E2.put (D.dig (Nat.div t 16)) (D.dig (Nat.mod t 16)) v e
noncomputable def envOf (vs e0 : E2) (l : List (Nat × Nat)) : E2 :=
  List.rec (motive := fun _ => E2) e0 (fun q _ ih => Prod.rec (motive := fun _ => E2) (fun t w => E2.wr t (E2.rd w vs) ih) q) l
inductive PR where
  | ok (vs : E2) (ts : List St)
  | bad (why : Nat)
noncomputable def PR.cons (s : St) (p : PR) : PR := PR.rec (motive := fun _ => PR) (fun vs ts => .ok vs (s :: ts)) (fun w => .bad w) p
noncomputable def evEff (call : Nat → V → St → RC) (op : IOp) (e : E2) (s : St) : RC :=
  RO.rec (motive := fun _ => RC) (fun v s' => .ok v s') (fun f as s' => call f as s') (fun w => .bad w) (evOp op e s)
noncomputable def guarded (call : Nat → V → St → RC) (d : DEnt) (e : E2) (s : St) : RC :=
  Bool.rec (motive := fun _ => RC) (.ok .undef s) (evEff call d.op e s) (Gd.ok d.gd e)
noncomputable def ph1 (call : Nat → V → St → RC) (e0 : E2) (l : List DEnt) : E2 → St → PR :=
  List.rec (motive := fun _ => E2 → St → PR) (fun vs s => .ok vs [s])
    (fun d _ ih vs s => RC.rec (motive := fun _ => PR)
      (fun v s' => Bool.rec (motive := fun _ => PR) (ih (E2.wr d.ix v vs) s') (PR.cons s (ih (E2.wr d.ix v vs) s')) (Nat.beq d.kind 1))
      (fun w => .bad w) (guarded call d (envOf vs e0 d.lk) s)) l
noncomputable def chkFloat (vs e0 : E2) (d : DEnt) (s : St) : Bool :=
  Bool.rec (motive := fun _ => Bool) (same .undef (E2.rd d.ix vs)) (RO.rec (motive := fun _ => Bool) (fun v _ => same v (E2.rd d.ix vs)) (fun _ _ _ => false) (fun _ => false) (evOp d.op (envOf vs e0 d.lk) s))
    (Gd.ok d.gd (envOf vs e0 d.lk))
noncomputable def keyOf : V → Option (K × Nat)
  | .ptr f v _ => some (f, v)
  | .sl f v _ _ _ _ _ => some (f, v)
  | _ => none
noncomputable def chkAlloc (vs e0 : E2) (d : DEnt) (s : St) : Bool :=
  match keyOf (E2.rd d.ix vs) with
  | some (k, v) => Gd.ok d.gd (envOf vs e0 d.lk) && RO.rec (motive := fun _ => Bool)
      (fun x s' => same x (E2.rd d.ix vs) && Obj.same (H4.at k s.h) (H4.at k s'.h)) (fun _ _ _ => false) (fun _ => false) (evOp d.op (envOf vs e0 d.lk) ⟨H4.empty, k, v⟩)
  | none => false
noncomputable def chkNode (vs e0 : E2) (d : DEnt) (s : St) : Bool :=
  Bool.rec (motive := fun _ => Bool) (Bool.rec (motive := fun _ => Bool) true (chkAlloc vs e0 d s) (Nat.beq d.kind 2)) (chkFloat vs e0 d s) (Nat.beq d.kind 0)
/-- what looks at no memory -/
noncomputable def isPure (op : IOp) : Bool :=
  IOp.rec (motive := fun _ => Bool) (fun _ => true) (fun _ _ _ => true) (fun _ _ _ => false) (fun _ _ => false) (fun _ _ _ => false) (fun _ _ => true) (fun _ _ _ _ _ => false) (fun _ => false) (fun _ _ => false) (fun _ _ => false) (fun _ _ _ => false) (fun _ => true) (fun _ _ _ => true) (fun _ _ _ => true) (fun _ _ _ => false) (fun _ _ _ => true) (fun _ _ _ => true) (fun _ _ _ _ => true) (fun _ _ _ _ => true) (fun _ => true) (fun _ => true) (fun _ _ => true) (fun _ => false) (fun _ _ => true) (fun _ _ _ => true) (fun _ _ _ _ _ => true) (fun _ _ _ _ _ _ => false) (fun _ _ _ => true) (fun _ _ => true) (fun _ _ => true) (fun _ _ _ => true) (fun _ _ _ => true) (fun _ _ _ _ => true) (fun _ _ => true) (fun _ _ _ => true) (fun _ _ _ _ => true) (fun _ => false) (fun _ => false) (fun _ _ _ _ => false) (fun _ _ => true) (fun _ _ => false) (fun _ _ => false) (fun _ _ _ => false) (fun _ => true) (fun _ => true) (fun _ _ _ => true) (fun _ _ _ _ => false) (fun _ _ _ => false) (fun _ => true) (fun _ => true) (fun _ => false) (fun _ _ _ => false) (fun _ _ => true) (fun _ _ => true) (fun _ _ _ => false) (fun _ _ => false) (fun _ => true) (fun _ _ _ => false) (fun _ => true) (fun _ _ _ _ _ => false) false (fun _ _ _ _ _ => false) (fun _ _ _ _ => false) (fun _ => false) (fun _ _ _ _ => false) (fun _ _ => false) (fun _ => false) (fun _ _ _ => false) (fun _ => false) (fun _ => false) (fun _ => false) op
noncomputable def nodeSt (ts : List St) (alt : Option St) : Nat → Option St :=
  List.rec (motive := fun _ => Nat → Option St) (fun _ => alt) (fun s _ ih n => Nat.rec (motive := fun _ => Option St) (some s) (fun m _ => ih m) n) ts
noncomputable def chkNodes (vs e0 : E2) (ts : List St) (alt : Option St) (d : DEnt) (l : List Nat) : Bool :=
  List.rec (motive := fun _ => Bool) true (fun n _ ih => band (Option.rec (motive := fun _ => Bool) false (fun s => chkNode vs e0 d s) (nodeSt ts alt n)) ih) l
noncomputable def chkEnt (vs e0 : E2) (ts : List St) (alt : Option St) (d : DEnt) : Bool :=
  Bool.rec (motive := fun _ => Bool) (chkNodes vs e0 ts alt d d.nodes) true (band (Nat.beq d.kind 0) (isPure d.op))
noncomputable def chkEnts (vs e0 : E2) (ts : List St) (alt : Option St) (l : List DEnt) : Bool :=
  List.rec (motive := fun _ => Bool) true (fun d _ ih => band (chkEnt vs e0 ts alt d) ih) l
/-- an early row's version is known in every state, and its family is its own -/
noncomputable def chkVers (vs : E2) (nx0 : Nat) (ts : List St) (alt : Option St) : List K → List DEnt → Bool
  | _, [] => true
  | ks, d :: l => bif Nat.beq d.kind 2 then (match keyOf (E2.rd d.ix vs) with
      | some (k, v) => ks.all (fun k' => !K.beq k k') && (Nat.ble nx0 v && (ts.all (fun s => Nat.blt v s.nx) && (alt.all (fun s => Nat.blt v s.nx) && chkVers vs nx0 ts alt (k :: ks) l)))
      | none => false) else chkVers vs nx0 ts alt ks l
noncomputable def stKey (op : IOp) (e : E2) : Option K :=
  match op with
  | .st1 a _ => (keyOf (Opd.val a e)).map (·.1)
  | .stN _ a _ => (keyOf (Opd.val a e)).map (·.1)
  | _ => none
noncomputable def okWith (x : V) : RO → Option St
  | .ok v s => if same v x then some s else none
  | _ => none
/-- two stores at the end that may come in either order: the state behind the second one alone -/
noncomputable def altOf (vs e0 : E2) (ts : List St) : Option (DEnt × DEnt) → Option (Option St)
  | none => some none
  | some (A, B) => match ts[ts.length - 3]?, ts[ts.length - 1]?, stKey A.op (envOf vs e0 A.lk), stKey B.op (envOf vs e0 B.lk) with
    | some s, some fin, some ka, some kb => match okWith (E2.rd B.ix vs) (evOp B.op (envOf vs e0 B.lk) s) with
      | some sb => match okWith (E2.rd A.ix vs) (evOp A.op (envOf vs e0 A.lk) sb) with
        | some s4 => if Obj.same (H4.at ka s4.h) (H4.at ka fin.h) && Obj.same (H4.at kb s4.h) (H4.at kb fin.h) then some (some sb) else none
        | none => none
      | none => none
    | _, _, _, _ => none
noncomputable def evDraw (call : Nat → V → St → RC) (l : List DEnt) (fins : List (Nat × Nat)) (dia : Option (DEnt × DEnt)) (e : E2) (s : St) : R :=
  match ph1 call e l E2.empty s with
  | .bad w => .bad w
  | .ok vs ts => match altOf vs e ts dia, ts[ts.length - 1]? with
    | some alt, some fin => if chkEnts vs e ts alt l && chkVers vs s.nx ts alt [] l then .norm (envOf vs e fins) fin else .bad 406
    | _, _ => .bad 407

/-! the fast ones -/
inductive LayF where
  | mk (f : V → E2 → E2)
inductive GdF where
  | mk (f : E2 → Bool)
noncomputable def slotGet (t : Nat) : FnV := Get1.rec (motive := fun _ => FnV) (fun f => Get0.rec (motive := fun _ => FnV) (fun g => .mk fun e => g (f e)) (get0 (D.dig (Nat.mod t 16)))) (get1 (D.dig (Nat.div t 16)))
noncomputable def slotPut (t : Nat) : LayF := Set1.rec (motive := fun _ => LayF) (fun f => Set0.rec (motive := fun _ => LayF) (fun g => .mk fun v e => f (g v) e) (set0 (D.dig (Nat.mod t 16)))) (set1 (D.dig (Nat.div t 16)))
noncomputable def envF (l : List (Nat × Nat)) : EnvF :=
  List.rec (motive := fun _ => EnvF) (.mk fun _ e0 => e0) (fun q _ ih => Prod.rec (motive := fun _ => EnvF) (fun t w => EnvF.rec (motive := fun _ => EnvF) (fun f => FnV.rec (motive := fun _ => EnvF) (fun g => LayF.rec (motive := fun _ => EnvF)
    (fun p => .mk fun vs e0 => p (g vs) (f vs e0)) (slotPut t)) (slotGet w)) ih) q) l
noncomputable def gdF (g : Gd) : GdF :=
  Gd.rec (motive := fun _ => GdF) (.mk fun _ => true) (fun f want => Bool.rec (motive := fun _ => GdF) (.mk fun e => OB.rec (motive := fun _ => Bool) false (fun b => bnot b) (V.bool? (f e))) (.mk fun e => OB.rec (motive := fun _ => Bool) false (fun b => b) (V.bool? (f e))) want) g
noncomputable def mkF (d : DEnt) : FEnt :=
  RunF.rec (motive := fun _ => FEnt) (fun run => EnvF.rec (motive := fun _ => FEnt) (fun env => GdF.rec (motive := fun _ => FEnt) (fun gd => FnV.rec (motive := fun _ => FEnt) (fun get => LayF.rec (motive := fun _ => FEnt)
    (fun put => ⟨d, run, env, gd, get, put, band (Nat.beq d.kind 0) (isPure d.op)⟩) (slotPut d.ix)) (slotGet d.ix)) (gdF d.gd)) (envF d.lk)) (runOf d.op)
noncomputable def mkFs (l : List DEnt) : List FEnt := List.rec (motive := fun _ => List FEnt) [] (fun d _ ih => mkF d :: ih) l
noncomputable def guardF (call : Nat → V → St → RC) (run : E2 → St → RO) (gd : E2 → Bool) (e : E2) (s : St) : RC :=
  Bool.rec (motive := fun _ => RC) (.ok .undef s) (RO.rec (motive := fun _ => RC) (fun v s' => .ok v s') (fun f as s' => call f as s') (fun w => .bad w) (run e s)) (gd e)
noncomputable def ph1F (call : Nat → V → St → RC) (e0 : E2) (l : List FEnt) : E2 → St → PR :=
  List.rec (motive := fun _ => E2 → St → PR) (fun vs s => .ok vs [s])
    (fun x _ ih => FEnt.rec (motive := fun _ => E2 → St → PR) (fun d run env gd get put skip vs s => RC.rec (motive := fun _ => PR)
      (fun v s' => Bool.rec (motive := fun _ => PR) (ih (put v vs) s') (PR.cons s (ih (put v vs) s')) (Nat.beq d.kind 1))
      (fun w => .bad w) (guardF call run gd (env vs e0) s)) x) l
noncomputable def chkNodeF (vs e0 : E2) (d : DEnt) (run : E2 → St → RO) (env : E2 → E2 → E2) (gd : E2 → Bool) (get : E2 → V) (s : St) : Bool :=
  Bool.rec (motive := fun _ => Bool) (chkNode vs e0 d s)
    (Bool.rec (motive := fun _ => Bool) (same .undef (get vs)) (RO.rec (motive := fun _ => Bool) (fun v _ => same v (get vs)) (fun _ _ _ => false) (fun _ => false) (run (env vs e0) s)) (gd (env vs e0))) (Nat.beq d.kind 0)
noncomputable def chkNodesF (vs e0 : E2) (ts : List St) (alt : Option St) (d : DEnt) (run : E2 → St → RO) (env : E2 → E2 → E2) (gd : E2 → Bool) (get : E2 → V) (l : List Nat) : Bool :=
  List.rec (motive := fun _ => Bool) true (fun n _ ih => band (Option.rec (motive := fun _ => Bool) false (fun s => chkNodeF vs e0 d run env gd get s) (nodeSt ts alt n)) ih) l
noncomputable def chkEntsF (vs e0 : E2) (ts : List St) (alt : Option St) (l : List FEnt) : Bool :=
  List.rec (motive := fun _ => Bool) true (fun x _ ih => FEnt.rec (motive := fun _ => Bool) (fun d run env gd get put skip => band (Bool.rec (motive := fun _ => Bool) (chkNodesF vs e0 ts alt d run env gd get d.nodes) true skip) ih) x) l
noncomputable def chkVersF (vs : E2) (nx0 : Nat) (ts : List St) (alt : Option St) (l : List FEnt) : List K → Bool :=
  List.rec (motive := fun _ => List K → Bool) (fun _ => true) (fun x _ ih => FEnt.rec (motive := fun _ => List K → Bool) (fun d run env gd get put skip ks =>
    Bool.rec (motive := fun _ => Bool) (ih ks) (match keyOf (get vs) with
      | some (k, v) => ks.all (fun k' => !K.beq k k') && (Nat.ble nx0 v && (ts.all (fun s => Nat.blt v s.nx) && (alt.all (fun s => Nat.blt v s.nx) && ih (k :: ks))))
      | none => false) (Nat.beq d.kind 2)) x) l
noncomputable def lastOf (l : List St) : Option St := List.rec (motive := fun _ => Option St) none (fun h _ ih => Option.rec (motive := fun _ => Option St) (some h) (fun x => some x) ih) l
noncomputable def altOfF (vs e0 : E2) (ts : List St) (dia : Option (DEnt × DEnt)) : Option (Option St) := Option.rec (motive := fun _ => Option (Option St)) (some none) (fun q => altOf vs e0 ts (some q)) dia
noncomputable def evDrawF (call : Nat → V → St → RC) (l : List FEnt) (fins : EnvF) (dia : Option (DEnt × DEnt)) (e : E2) (s : St) : R :=
  PR.rec (motive := fun _ => R) (fun vs ts => Option.rec (motive := fun _ => R) (.bad 407) (fun alt => Option.rec (motive := fun _ => R) (.bad 407) (fun fin =>
      Bool.rec (motive := fun _ => R) (.bad 406) (EnvF.rec (motive := fun _ => R) (fun f => .norm (f vs e) fin) fins) (band (chkEntsF vs e ts alt l) (chkVersF vs s.nx ts alt l []))) (lastOf ts)) (altOfF vs e ts dia))
    (fun w => .bad w) (ph1F call e l E2.empty s)

/-! ## A range over a function: the loop's record -/
inductive OLp where
  | no
  | yes (env : E2) (ps : List Nat) (a b : Code) (nt : Nat) (st : LoopState) (pend : Option Code)
noncomputable def Obj.loop? (v : Nat) (x : Obj) : OLp :=
  match x with
  | .loop v' env ps a b nt st pend => bif Nat.beq v v' then .yes env ps a b nt st pend else .no
  | _ => .no
noncomputable def yldV (k : K) (v : Nat) : V := .fn (.yield 0) (.ptr k v 0) .nil
noncomputable def rangeEnd (k : K) (v : Nat) (e : E2) (s : St) : R :=
  match Obj.loop? v (H4.at k s.h) with
  | .no => .bad 142
  | .yes env ps a b nt st pend => match st with
    | .busy => .bad 140
    | _ => match pend with
      | none => .norm e ⟨H4.put k (.loop v env ps a b nt .exhausted none) s.h, s.nk, s.nx⟩
      | some .ret => .ret e ⟨H4.put k (.loop v env ps a b nt .exhausted (some .ret)) s.h, s.nk, s.nx⟩
      | some (.exit id) => .exit id e ⟨H4.put k (.loop v env ps a b nt .exhausted (some (.exit id))) s.h, s.nk, s.nx⟩
      | _ => .bad 141
noncomputable def evRange (call : Nat → V → St → RC) (x : V) (ps : List Nat) (a b : Code) (nt : Nat) (e : E2) (s : St) : R :=
  Nat.rec (motive := fun _ => R) (.bad 143) (fun m _ => Bool.rec (motive := fun _ => R) (.bad 145)
    (match x with
    | .fn (.func f) first cap => RC.rec (motive := fun _ => R) (fun _ s2 => rangeEnd s.nk (Nat.succ m) e s2) (fun w => .bad w)
        (call f (V.app first (.cons (yldV s.nk (Nat.succ m)) cap)) ⟨H4.put s.nk (.loop (Nat.succ m) e ps a b nt .ready none) s.h, K.succ s.nk, Nat.succ (Nat.succ m)⟩)
    | _ => .bad 144) (Obj.isNone (H4.at s.nk s.h))) s.nx

noncomputable def loopFuel : Nat := 1048576
noncomputable def roundsN (body : E2 → St → R) (n : Nat) : E2 → St → R :=
  Nat.rec (motive := fun _ => E2 → St → R) (fun _ _ => .bad 111)
    (fun _ again e s => R.rec (motive := fun _ => R) (fun e s => goR again e s) (fun id e s => .exit id e s) (fun l e s => .goto l e s) (fun e s => .ret e s) (fun w => .bad w) (body e s)) n
noncomputable def evC (call : Nat → V → St → RC) (c : C) : E2 → St → R :=
  C.rec (motive := fun _ => E2 → St → R)
    (fun e s => .norm e s)
    (fun ops e s => evOps call ops e s)
    (fun l fins dia e s => evDrawF call l fins dia e s)
    (fun _ _ iha ihb e s => R.rec (motive := fun _ => R) (fun e s => goR ihb e s) (fun id e s => .exit id e s) (fun l e s => .goto l e s) (fun e s => .ret e s) (fun w => .bad w) (iha e s))
    (fun x _ _ iha ihb e s => OB.rec (motive := fun _ => R) (.bad 110) (fun b => Bool.rec (motive := fun _ => R) (ihb e s) (iha e s) b) (V.bool? (Opd.val x e)))
    (fun id _ ih e s => R.rec (motive := fun _ => R) (fun e s => .norm e s) (fun id' e s => Bool.rec (motive := fun _ => R) (.exit id' e s) (.norm e s) (Nat.beq id' id)) (fun l e s => .goto l e s) (fun e s => .ret e s) (fun w => .bad w) (ih e s))
    (fun _ ih => roundsN ih loopFuel)
    (fun id e s => .exit id e s)
    (fun e s => .ret e s)
    (fun x ps a b nt e s => evRange call (Opd.val x e) ps a b nt e s)
    (fun w _ _ => .bad w) c

/-! ## Functions -/
noncomputable def results (l : ResL) (e : E2) (s : St) (k : V → RO) : RO :=
  ResL.rec (motive := fun _ => (V → RO) → RO) (fun k => k .nil)
    (fun i j _ ih k => ih fun t => k (.cons (E2.at i j e) t))
    (fun i j _ ih k => withPtr (E2.at i j e) fun f v o => load1 f v o s fun c => ih fun t => k (.cons c t))
    (fun i j sz _ ih k => withPtr (E2.at i j e) fun f v o => loadN sz f v o s fun c => ih fun t => k (.cons (.agg c) t)) l k
noncomputable def RO.rc (x : RO) : RC := RO.rec (motive := fun _ => RC) (fun v s => .ok v s) (fun _ _ _ => .bad 120) (fun w => .bad w) x
noncomputable def endOf (res : ResL) (one : Bool) (e : E2) (s : St) : RC :=
  RO.rc (results res e s fun l => Bool.rec (motive := fun _ => RO) (.ok (.tup l) s) (.ok (V.hd l) s) one)
noncomputable def putArgs (l : V) : Nat → E2 → E2 := V.rec (motive := fun _ => Nat → E2 → E2) (fun _ e => e) (fun _ => (fun _ e => e)) (fun _ _ => (fun _ e => e)) (fun _ _ => (fun _ e => e)) (fun _ e => e) (fun _ _ _ => (fun _ e => e)) (fun _ e => e) (fun _ _ _ _ _ _ _ => (fun _ e => e)) (fun _ e => e) (fun _ _ => (fun _ e => e)) (fun _ e => e) (fun _ _ _ _ _ => (fun _ e => e)) (fun _ e => e) (fun _ _ _ => (fun _ e => e)) (fun _ _ => (fun _ e => e)) (fun _ _ => (fun _ e => e)) (fun _ => (fun _ e => e)) (fun _ => (fun _ e => e)) (fun _ e => e) (fun h _ _ ih n e => ih (Nat.succ n) (E2.put (D.dig (Nat.div n 16)) (D.dig (Nat.mod n 16)) h e)) l

noncomputable def putAt (ps : List Nat) : V → E2 → E2 := List.rec (motive := fun _ => V → E2 → E2) (fun _ e => e) (fun t _ ih l e => ih (V.tl l) (E2.wr t (V.hd l) e)) ps
noncomputable def roundEnd (k : K) (v : Nat) (jump : Option Code) (s : St) : RC :=
  match Obj.loop? v (H4.at k s.h) with
  | .no => .bad 146
  | .yes env ps a b nt _ _ => match jump with
    | none => .ok (.bool true) ⟨H4.put k (.loop v env ps a b nt .ready none) s.h, s.nk, s.nx⟩
    | some c => .ok (.bool false) ⟨H4.put k (.loop v env ps a b nt .done (some c)) s.h, s.nk, s.nx⟩
noncomputable def roundBody (ih : Nat → V → St → RC) (k : K) (v : Nat) (c : C) (e : E2) (s : St) : RC :=
  match Obj.loop? v (H4.at k s.h) with
  | .no => .bad 147
  | .yes env ps a b nt st pend => match st with
    | .ready => R.rec (motive := fun _ => RC) (fun _ s3 => roundEnd k v none s3) (fun id _ s3 => roundEnd k v (some (.exit id)) s3) (fun _ _ _ => .bad 148) (fun _ s3 => roundEnd k v (some .ret) s3) (fun w => .bad w)
        (evC ih c e ⟨H4.put k (.loop v env ps a b nt .busy pend) s.h, s.nk, s.nx⟩)
    | _ => .bad 149
noncomputable def roundRun (ih : Nat → V → St → RC) (comp : Nat → Code → C) (args : V) (s : St) : RC :=
  match args with
  | .agg (.cons (.fn (.yield _) (.ptr k v _) _) l) => match Obj.loop? v (H4.at k s.h) with
    | .no => .bad 150
    | .yes env ps a b nt _ _ => bif band (V.lenIs (List.length ps) l) (ps.all fun t => Nat.blt t nt) then
        R.rec (motive := fun _ => RC) (fun e1 s1 => roundBody ih k v (comp nt b) e1 s1) (fun _ _ _ => .bad 151) (fun _ _ _ => .bad 151) (fun _ _ => .bad 151) (fun w => .bad w) (evC ih (comp nt a) (putAt ps l env) s)
      else .bad 152
  | _ => .bad 153

/-- families and what lies in them -/
inductive KOL where
  | nil
  | cons (k : K) (x : Obj) (t : KOL)
noncomputable def KOL.put (l : KOL) (h : H4) : H4 := KOL.rec (motive := fun _ => H4) h (fun k x _ ih => H4.put k x ih) l
noncomputable def KOL.free (l : KOL) (h : H4) : Bool := KOL.rec (motive := fun _ => Bool) true (fun k _ _ ih => band (Obj.isNone (H4.at k h)) ih) l
noncomputable def KOL.all (p : K → Obj → Bool) (l : KOL) : Bool := KOL.rec (motive := fun _ => Bool) true (fun k x _ ih => band (p k x) ih) l
/-- a family that is old, or one of these -/
noncomputable def inTree (T : H4) (n0 : Nat) (f : K) (v : Nat) : Bool := Bool.rec (motive := fun _ => Bool) (bnot (Obj.isNone (H4.at f T))) true (Nat.ble (Nat.succ v) n0)
noncomputable def closedV (T : H4) (n0 : Nat) (v : V) : Bool := V.rec (motive := fun _ => Bool) true (fun _ => true) (fun _ _ => true) (fun _ _ => true) true (fun f v _ => inTree T n0 f v) true (fun f v _ _ _ _ _ => inTree T n0 f v) true (fun f v => inTree T n0 f v) true (fun _ _ _ r1 r2 => band r1 r2) true (fun _ _ r => r) (fun _ r => r) (fun _ r => r) (fun _ => true) (fun _ => true) true (fun _ _ r1 r2 => band r1 r2) v
noncomputable def closedVer (T : H4) (n0 : Nat) (vs : Ver) : Bool := Ver.rec (motive := fun _ => Bool) true (fun _ _ ch _ ih => band (closedV T n0 ch) ih) vs
noncomputable def closedObj (T : H4) (n0 : Nat) (x : Obj) : Bool := OC.rec (motive := fun _ => Bool) false (fun _ _ _ _ _ vs => closedVer T n0 vs) (Obj.cells? x)
noncomputable def memoChk (r : RC) (ans : V) (objs : KOL) (n0 n1 : Nat) : Bool :=
  RC.rec (motive := fun _ => Bool) (fun v s => band (same v ans) (band (Nat.beq s.nx n1) (band (closedV (KOL.put objs H4.empty) n0 ans)
    (KOL.all (fun k x => band (Obj.same (H4.at k s.h) x) (closedObj (KOL.put objs H4.empty) n0 x)) objs)))) (fun _ => false) r
/-- What is known of calls ahead: a function, its arguments, its answer. -/
inductive Orc where
  | nil
  | more (f : Nat) (args : V) (ans : V) (rest : Orc)
  | place (f : Nat) (ms : List Nat) (rest : Orc)
  | idx (f : Nat) (rest : Orc)
  | memo (f : Nat) (args ans : V) (objs : KOL) (n0 n1 : Nat) (rest : Orc)
/-- the remainder of an open number whose name tells it -/
noncomputable def placeAns (ms : List Nat) (args : V) (yes : V → RC) (no : RC) : RC :=
  match args with
  | .cons (.sym i) (.cons (.int k (.ofNat m)) .nil) => Bool.rec (motive := fun _ => RC) no (yes (.int .i64 (Int.ofNat (symLo i)))) (band (Nat.beq (Nat.mod i 4) 3) (band (Nat.beq (symM i) m) (band (Nat.beq (kcode k) 3) (List.elem m ms))))
  | _ => no
/-- where a text of two bytes or more lies in another one -/
noncomputable def idxAns (args : V) (yes : V → RC) (no : RC) : RC :=
  match args with
  | .cons (.str l1 d1) (.cons (.str l2 d2) .nil) => Bool.rec (motive := fun _ => RC) no (yes (.int .i64 (indexStr l2 d2 (Nat.sub (Nat.succ l1) l2) d1 0))) (band (Nat.ble 2 l2) (Nat.ble l1 4294967280))
  | _ => no
noncomputable def Orc.find (o : Orc) (f : Nat) (args : V) (s : St) (no : RC) : RC :=
  Orc.rec (motive := fun _ => RC) no (fun f' args' ans _ ih => Bool.rec (motive := fun _ => RC) ih (Bool.rec (motive := fun _ => RC) ih (.ok ans s) (same args args')) (Nat.beq f f'))
    (fun f' ms _ ih => Bool.rec (motive := fun _ => RC) ih (placeAns ms args (fun v => .ok v s) ih) (Nat.beq f f'))
    (fun f' _ ih => Bool.rec (motive := fun _ => RC) ih (idxAns args (fun v => .ok v s) ih) (Nat.beq f f'))
    (fun f' args' ans objs n0 n1 _ ih => Bool.rec (motive := fun _ => RC) ih (Bool.rec (motive := fun _ => RC) ih
      (Bool.rec (motive := fun _ => RC) ih (.ok ans ⟨KOL.put objs s.h, s.nk, n1⟩) (band (Nat.ble s.nx n0) (KOL.free objs s.h))) (same args args')) (Nat.beq f f')) o

noncomputable def run (T : F3) (o : Orc) (fuel : Nat) : Nat → V → St → RC :=
  Nat.rec (motive := fun _ => Nat → V → St → RC) (fun _ _ _ => .bad 121)
    (fun _ ih f args s => Orc.find o f args s
      (Fun.rec (motive := fun _ => RC) (.bad (Nat.add 1000 f))
        (fun body res one nt => Bool.rec (motive := fun _ => RC) (.bad 124) (R.rec (motive := fun _ => RC) (fun e s => endOf res one e s) (fun _ _ _ => .bad 122) (fun _ _ _ => .bad 123) (fun e s => endOf res one e s) (fun w => .bad w)
          (evC ih body (putArgs args 0 E2.empty) s)) (band (Nat.ble f 4095) (bnot (V.has (Nat.succ nt) args))))
        (fun comp => Bool.rec (motive := fun _ => RC) (.bad 154) (roundRun ih comp args s) (Nat.beq f 4095)) (F3.at (K.ofNat f) T))) fuel

noncomputable def RC.isTrue (r : RC) : Bool := RC.rec (motive := fun _ => Bool) (fun v _ => OB.rec (motive := fun _ => Bool) false (fun b => b) (V.bool? v)) (fun _ => false) r
end Go.Ev

namespace Go.Ev
set_option linter.unusedVariables false

/-! ## Trees -/
theorem H4.at_put (k k' : K) (x : Obj) (h : H4) : H4.at k (H4.put k' x h) = if k = k' then x else H4.at k h := by
  obtain ⟨a, b, c, d⟩ := k
  obtain ⟨a', b', c', d'⟩ := k'
  simp only [H4.at, H4.put, H4.get_set, K.mk.injEq]
  by_cases hd : d = d' <;> simp [hd, H3.get_set]
  by_cases hc : c = c' <;> simp [hc, H2.get_set]
  by_cases hb : b = b' <;> simp [hb, H1.get_set]

theorem H4.at_empty (k : K) : H4.at k H4.empty = .none := by
  simp [H4.at, H4.empty, H4.get_all, H3.get_all, H2.get_all, H1.get_all]

theorem E2.at_put (i j i' j' : D) (x : V) (e : E2) : E2.at i j (E2.put i' j' x e) = if i = i' ∧ j = j' then x else E2.at i j e := by
  simp only [E2.at, E2.put, E2.get_set]
  by_cases hi : i = i' <;> simp [hi, E1.get_set]

theorem E2.at_empty (i j : D) : E2.at i j E2.empty = .undef := by simp [E2.at, E2.empty, E2.get_all, E1.get_all]

theorem D.beq_iff (a b : D) : D.beq a b = true ↔ a = b := by cases a <;> cases b <;> simp [D.beq]
theorem K.beq_iff (a b : K) : K.beq a b = true ↔ a = b := by
  obtain ⟨a1, a2, a3, a4⟩ := a
  obtain ⟨b1, b2, b3, b4⟩ := b
  simp only [K.beq, K.mk.injEq]
  have e : ∀ (p q : Bool), (Bool.rec false q p : Bool) = (p && q) := by intro p q; cases p <;> rfl
  rw [e, e, e]
  simp [D.beq_iff]

/-! ## Lists -/
@[simp] theorem V.hd_cons (h t : V) : V.hd (.cons h t) = h := rfl
@[simp] theorem V.tl_cons (h t : V) : V.tl (.cons h t) = t := rfl
@[simp] theorem V.drop_zero (l : V) : V.drop 0 l = l := rfl
theorem V.drop_succ (n : Nat) (l : V) : V.drop (n + 1) l = V.drop n (V.tl l) := rfl
theorem V.nth_zero (l : V) : V.nth 0 l = V.hd l := rfl
theorem V.nth_succ (n : Nat) (l : V) : V.nth (n + 1) l = V.nth n (V.tl l) := rfl
theorem V.setNth_zero (x l : V) : V.setNth 0 x l = .cons x (V.tl l) := by cases l <;> rfl
theorem V.setNth_succ (n : Nat) (x l : V) : V.setNth (n + 1) x l = .cons (V.hd l) (V.setNth n x (V.tl l)) := by cases l <;> rfl
theorem V.takeOn_zero (l t : V) : V.takeOn 0 l t = t := rfl
theorem V.takeOn_succ (n : Nat) (l t : V) : V.takeOn (n + 1) l t = .cons (V.hd l) (V.takeOn n (V.tl l) t) := by cases l <;> rfl

theorem V.nth_setNth (n m : Nat) (x l : V) : V.nth m (V.setNth n x l) = if m = n then x else V.nth m l := by
  induction n generalizing m l with
  | zero =>
    cases m with
    | zero => rw [V.setNth_zero]; rfl
    | succ m => simp [V.setNth_zero, V.nth_succ]
  | succ n ih =>
    cases m with
    | zero => simp [V.setNth_succ, V.nth_zero]
    | succ m => simp [V.setNth_succ, V.nth_succ, ih]

theorem V.nth_drop (n m : Nat) (l : V) : V.nth m (V.drop n l) = V.nth (n + m) l := by
  induction n generalizing l with
  | zero => simp
  | succ n ih => rw [V.drop_succ, ih, show n + 1 + m = (n + m) + 1 by omega, V.nth_succ]

theorem V.elem_putElem (e e' : Nat) (x ch : V) : V.elem e (V.putElem e' x ch) = if e = e' then x else V.elem e ch := by
  show V.nth (e % 16) (V.nth (e / 16) (V.setNth (e' / 16) (V.setNth (e' % 16) x (V.nth (e' / 16) ch)) ch)) = if e = e' then x else V.nth (e % 16) (V.nth (e / 16) ch)
  rw [V.nth_setNth]
  by_cases hd : e / 16 = e' / 16
  · rw [if_pos hd, V.nth_setNth]
    by_cases hm : e % 16 = e' % 16
    · rw [if_pos hm, if_pos (by omega)]
    · rw [if_neg hm, if_neg (by omega), hd]
  · rw [if_neg hd, if_neg (by intro h; exact hd (by rw [h]))]

theorem V.elem_undef (e : Nat) : V.elem e .undef = .undef := by
  show V.nth (e % 16) (V.nth (e / 16) .undef) = .undef
  have h : ∀ n, V.nth n .undef = .undef := by
    intro n
    induction n with
    | zero => rfl
    | succ n ih => rw [V.nth_succ]; exact ih
  rw [h, h]
theorem V.elem_nil (e : Nat) : V.elem e .nil = .undef := by
  show V.nth (e % 16) (V.nth (e / 16) .nil) = .undef
  have h0 : ∀ n, V.nth n .undef = .undef := by
    intro n
    induction n with
    | zero => rfl
    | succ n ih => rw [V.nth_succ]; exact ih
  have h : ∀ n, V.nth n .nil = .undef := by
    intro n
    cases n with
    | zero => rfl
    | succ n => rw [V.nth_succ]; exact h0 n
  rw [h, h0]

/-! ## What the evaluator's values stand for -/
/-- the open numbers; the families that stay as they are -/
structure Rho where
  f : Nat → Int
  fam : K → Option Obj
  v : Nat → Value
/-- what an open number's name says of it -/
def SymFact (i : Nat) (v : Int) : Prop :=
  (-9223372036854775808 ≤ v ∧ v < 9223372036854775808) ∧ (i % 4 = 1 → v % 8 = ((symLo i : Nat) : Int)) ∧
    (i % 4 = 2 → Int.tmod v (symM i : Nat) = ((symLo i : Nat) : Int) - (symM i : Nat)) ∧ (i % 4 = 3 → v % ((symM i : Nat) : Int) = ((symLo i : Nat) : Int))
structure Loc where
  blk : Nat
  sh : Nat
  csz : Nat

abbrev G := K → Nat → Option Loc

mutual
/-- 'VR g ρ v x': v stands for x, where families lie as g says and the open numbers are ρ's. -/
inductive VR (g : G) (ρ : Rho) : V → Value → Prop
  | undef : VR g ρ .undef (.tuple #[])
  | bool (b : Bool) : VR g ρ (.bool b) (.bool b)
  | int (k : IntKind) (n : Int) : VR g ρ (.int k n) (.int k n)
  | str (s : ByteArray) : VR g ρ (.str s.data.toList.length (encList s.data.toList)) (.string s)
  | nilp : VR g ρ .nilp (.pointer none)
  | ptr {f : K} {v o : Nat} {L : Loc} (h : g f v = some L) (ho : L.sh ≤ o) : VR g ρ (.ptr f v o) (.pointer (some ⟨L.blk, o - L.sh, none⟩))
  | nils : VR g ρ .nils (.slice none 0 0)
  | sl {f : K} {v o len cap cap' es : Nat} {ex : Bool} {a : Addr} {L : Loc} (h : g f v = some L) (ho : L.sh ≤ o) (hcap : cap ≤ cap') (hex : ex = true → cap' = cap)
      (hlen : len ≤ cap) (hfit : (o - L.sh) + cap' * es ≤ L.csz) (ha : cap' = 0 ∨ a = ⟨L.blk, o - L.sh, none⟩) : VR g ρ (.sl f v o len cap ex es) (.slice (some a) len cap')
  | nilm : VR g ρ .nilm (.map none)
  | map {f : K} {v : Nat} {L : Loc} (h : g f v = some L) : VR g ρ (.map f v) (.map (some L.blk))
  | nilf : VR g ρ .nilf .nilFunc
  | fn {F : Fn} {a b : V} {xs ys : List Value} (ha : VL g ρ a xs) (hb : VL g ρ b ys) : VR g ρ (.fn F a b) (.func F xs.toArray ys.toArray)
  | yld {f : K} {v : Nat} {L : Loc} (h : g f v = some L) : VR g ρ (.fn (.yield 0) (.ptr f v 0) .nil) (.func (.yield L.blk) #[] #[])
  | nili : VR g ρ .nili .nilIface
  | iface {t : TypeId} {v : V} {x : Value} (h : VR g ρ v x) : VR g ρ (.iface t v) (.iface t x)
  | agg {cs : V} {xs : List Value} (h : VL g ρ cs xs) (hc : ∀ x ∈ xs, x.oneCell' = true) : VR g ρ (.agg cs) (.agg xs.toArray)
  | tup {cs : V} {xs : List Value} (h : VL g ρ cs xs) : VR g ρ (.tup cs) (.tuple xs.toArray)
  | sym (i : Nat) (h : SymFact i (ρ.f i)) : VR g ρ (.sym i) (.int .i64 (ρ.f i))
  | opq (i : Nat) {t : TypeId} {x : Value} (h : ρ.v i = .iface t x) : VR g ρ (.opq i) (.iface t x)
inductive VL (g : G) (ρ : Rho) : V → List Value → Prop
  | nil : VL g ρ .nil []
  | cons {v t : V} {x : Value} {xs : List Value} (h : VR g ρ v x) (ht : VL g ρ t xs) : VL g ρ (.cons v t) (x :: xs)
end

def G.le (g g' : G) : Prop := ∀ f v L, g f v = some L → g' f v = some L

mutual
theorem VR.mono {g g' : G} {ρ : Rho} (hg : G.le g g') : ∀ {v : V} {x : Value}, VR g ρ v x → VR g' ρ v x
  | _, _, .undef => .undef
  | _, _, .bool b => .bool b
  | _, _, .int k n => .int k n
  | _, _, .str s => .str s
  | _, _, .nilp => .nilp
  | _, _, .ptr h ho => .ptr (hg _ _ _ h) ho
  | _, _, .nils => .nils
  | _, _, .sl h ho hcap hex hlen hfit ha => .sl (hg _ _ _ h) ho hcap hex hlen hfit ha
  | _, _, .nilm => .nilm
  | _, _, .map h => .map (hg _ _ _ h)
  | _, _, .nilf => .nilf
  | _, _, .fn ha hb => .fn (VL.mono hg ha) (VL.mono hg hb)
  | _, _, .yld h => .yld (hg _ _ _ h)
  | _, _, .nili => .nili
  | _, _, .iface h => .iface (VR.mono hg h)
  | _, _, .agg h hc => .agg (VL.mono hg h) hc
  | _, _, .tup h => .tup (VL.mono hg h)
  | _, _, .sym i h => .sym i h
  | _, _, .opq i h => .opq i h
theorem VL.mono {g g' : G} {ρ : Rho} (hg : G.le g g') : ∀ {l : V} {xs : List Value}, VL g ρ l xs → VL g' ρ l xs
  | _, _, .nil => .nil
  | _, _, .cons h ht => .cons (VR.mono hg h) (VL.mono hg ht)
end

section
variable {g : G} {ρ : Rho}

theorem VL.takeOn {l t : V} {xs ys : List Value} (h : VL g ρ l xs) (ht : VL g ρ t ys) : ∀ {n : Nat}, n ≤ xs.length → VL g ρ (V.takeOn n l t) (xs.take n ++ ys) := by
  intro n
  induction n generalizing l xs with
  | zero => intro _; simpa [V.takeOn_zero] using ht
  | succ n ih =>
    intro hn
    cases h with
    | nil => simp at hn
    | cons h1 h2 =>
      rw [V.takeOn_succ]
      exact .cons h1 (ih h2 (by simpa using hn))

theorem VL.drop {l : V} {xs : List Value} (h : VL g ρ l xs) : ∀ {n : Nat}, n ≤ xs.length → VL g ρ (V.drop n l) (xs.drop n) := by
  intro n
  induction n generalizing l xs with
  | zero => intro _; simpa using h
  | succ n ih =>
    intro hn
    cases h with
    | nil => simp at hn
    | cons h1 h2 => rw [V.drop_succ]; exact ih h2 (by simpa using hn)

theorem VL.setNth {l x : V} {y : Value} {xs : List Value} (h : VL g ρ l xs) (hx : VR g ρ x y) : ∀ {n : Nat}, n < xs.length → VL g ρ (V.setNth n x l) (xs.set n y) := by
  intro n
  induction n generalizing l xs with
  | zero =>
    intro hn
    cases h with
    | nil => simp at hn
    | cons h1 h2 => exact .cons hx h2
  | succ n ih =>
    intro hn
    cases h with
    | nil => simp at hn
    | cons h1 h2 => rw [V.setNth_succ]; exact .cons h1 (ih h2 (by simpa using hn))

theorem VL.nth {l : V} {xs : List Value} (h : VL g ρ l xs) : ∀ {n : Nat} (hn : n < xs.length), VR g ρ (V.nth n l) xs[n] := by
  intro n
  induction n generalizing l xs with
  | zero =>
    intro hn
    cases h with
    | nil => simp at hn
    | cons h1 h2 => exact h1
  | succ n ih =>
    intro hn
    cases h with
    | nil => simp at hn
    | cons h1 h2 => rw [V.nth_succ]; exact ih h2 (by simpa using hn)

theorem VL.app {l t : V} {xs ys : List Value} (h : VL g ρ l xs) (ht : VL g ρ t ys) : VL g ρ (V.app l t) (xs ++ ys) := by
  induction xs generalizing l with
  | nil => cases h; exact ht
  | cons x xs ih => cases h with | cons h1 h2 => exact .cons h1 (ih h2)

theorem V.isCons_iff {l : V} : V.isCons l = true ↔ ∃ h t, l = .cons h t := by
  cases l <;> simp [V.isCons]

theorem VL.has {l : V} {xs : List Value} (h : VL g ρ l xs) : ∀ {n : Nat}, V.has n l = true → n ≤ xs.length := by
  intro n
  induction n generalizing l xs with
  | zero => intro _; simp
  | succ n ih =>
    intro hn
    cases h with
    | nil => simp [V.has, V.isCons] at hn
    | cons h1 h2 =>
      have : V.has n _ = true := hn
      have := ih h2 this
      simp; omega

theorem VL.lenIs {l : V} {xs : List Value} (h : VL g ρ l xs) : ∀ {n : Nat}, V.lenIs n l = true → xs.length = n := by
  intro n
  induction n generalizing l xs with
  | zero =>
    intro hn
    cases h with
    | nil => rfl
    | cons h1 h2 => simp [V.lenIs, V.isCons, bnot] at hn
  | succ n ih =>
    intro hn
    cases h with
    | nil => simp [V.lenIs, V.isCons] at hn
    | cons h1 h2 =>
      have : V.lenIs n _ = true := hn
      simp [ih h2 this]

theorem VR.oneCell {v : V} {x : Value} (h : VR g ρ v x) (hc : isCell v = true) : x.oneCell' = true := by
  cases h <;> first | rfl | simp [isCell] at hc

theorem VL.len {l : V} {xs : List Value} (h : VL g ρ l xs) : V.len l = xs.length := by
  induction xs generalizing l with
  | nil => cases h; rfl
  | cons x xs ih => cases h with | cons h1 h2 => simp [← ih h2]; rfl
end
end Go.Ev

namespace Go.Ev
set_option linter.unusedVariables false

mutual
noncomputable def ofValue : Value → Option V
  | .bool b => some (.bool b)
  | .int k n => some (.int k n)
  | .string s => some (.str s.data.toList.length (encList s.data.toList))
  | .pointer none => some .nilp
  | .slice none 0 0 => some .nils
  | .map none => some .nilm
  | .nilFunc => some .nilf
  | .nilIface => some .nili
  | .agg ⟨cs⟩ => (ofCells cs).map .agg
  | .tuple ⟨[]⟩ => some .undef
  | _ => none
noncomputable def ofCells : List Value → Option V
  | [] => some .nil
  | v :: l => match ofValue v, ofCells l with
    | some x, some t => if isCell x then some (.cons x t) else none
    | _, _ => none
end

noncomputable def gkey (g : Nat) : K := ⟨D.dig (g % 16), D.dig (g / 16 % 16), D.dig (g / 256 % 16), .xf⟩

noncomputable def compOpd (gs : Nat → Bool) (nt : Nat) : Operand → Option Opd
  | .tmp t => if t < nt then some (.tmp (D.dig (t / 16)) (D.dig (t % 16))) else none
  | .const v => (ofValue v).map .cst
  | .global g => if gs g then some (.cst (.ptr (gkey g) 0 0)) else none
  | .func f => some (.cst (.fn (.func f) .nil .nil))

noncomputable def compOpds (gs : Nat → Bool) (nt : Nat) : List Operand → Option OpdL
  | [] => some .nil
  | x :: l => match compOpd gs nt x, compOpds gs nt l with
    | some a, some b => some (.cons a b)
    | _, _ => none

noncomputable def compOpt (gs : Nat → Bool) (nt : Nat) : Option Operand → Option OpdO
  | none => some .no
  | some x => (compOpd gs nt x).map .yes

noncomputable def isAggT (P : Program) (t : TypeId) : Option Bool :=
  match P.underlying t with
  | some (.struct _) | some (.array _ _) => some true
  | some _ => some false
  | none => none

noncomputable def sizeT (P : Program) (t : TypeId) : Option Nat := (P.info? t).map (·.size)

noncomputable def zeroCellsT (P : Program) (t : TypeId) : Option V :=
  match (P.info? t).bind (·.zero) with
  | some v => ofCells v.cells.toList
  | none => none

noncomputable def zeroT (P : Program) (t : TypeId) : Option V := ((P.info? t).bind (·.zero)).bind ofValue

noncomputable def clsT (P : Program) (t : TypeId) : Option Nat := match P.underlying t with | some .bool => some 1 | some (.int _) => some 2 | some .string => some 3 | _ => none
/-- fields that are all whole numbers, texts, bools, one cell each, in order: their classes -/
noncomputable def flatFields (P : Program) : Nat → List Field → Option (List Nat)
  | _, [] => some []
  | i, f :: l => match clsT P f.type, flatFields P (i + 1) l with
    | some c, some cs => if f.offset = i ∧ f.name ≠ "_" then some (c :: cs) else none
    | _, _ => none

noncomputable def flatT (P : Program) (t : TypeId) : Option (List Nat) :=
  match P.underlying t with
  | some (.struct fs) => if !P.stoodInHeld t && !P.eqGuardType P.depth t then flatFields P 0 fs.toList else none
  | _ => none

noncomputable def placeS (P : Program) (fs : Array Field) (i : Nat) : Option (Nat × Nat) :=
  match fs[i]? with
  | some f => (sizeT P f.type).map fun n => (f.offset, n)
  | none => none

noncomputable def compParts (P : Program) (gs : Nat → Bool) (nt : Nat) (place : Nat → Option (Nat × Nat)) : List (Nat × Operand) → Option PartL
  | [] => some .nil
  | (i, x) :: l => match place i, compOpd gs nt x, compParts P gs nt place l with
    | some (off, size), some a, some b => some (.cons off size a b)
    | _, _, _ => none

noncomputable def nilKind : Operand → Option Nat
  | .const (.pointer none) => some 0
  | .const (.slice none 0 0) => some 1
  | .const (.map none) => some 2
  | .const .nilFunc => some 3
  | .const .nilIface => some 4
  | _ => none
noncomputable def typeKind (P : Program) (t : TypeId) : Option Nat :=
  match P.underlying t with
  | some (.pointer _) => some 0
  | some (.slice _) => some 1
  | some (.map _ _) => some 2
  | some (.func _ _ _) => some 3
  | some (.interface _) => some 4
  | _ => none

/-- the dynamic types that compare flat -/
noncomputable def ifaceTab (P : Program) : List Nat → ETab
  | [] => .nil
  | t :: l => match P.info? t with
    | some i => if !i.comparable then ifaceTab P l else match clsT P t with
      | some c => .cons t false [c] (ifaceTab P l)
      | none => match flatT P t with
        | some cs => .cons t true cs (ifaceTab P l)
        | none => ifaceTab P l
    | none => ifaceTab P l

noncomputable def methodTab (P : Program) (name : String) : List Nat → MTab
  | [] => .nil
  | t :: l => match P.info? t with
    | some i => match i.methods.find? (·.name == name) with
      | some m => match m.path.toList, m.func, P.underlying t with
        | [], some (f, true), some (.pointer _) => .cons t f (methodTab P name l)
        | [], some (_, false), some (.pointer _) => methodTab P name l
        | [], some (f, false), some _ => .cons t f (methodTab P name l)
        | _, _, _ => methodTab P name l
      | none => methodTab P name l
    | none => methodTab P name l

noncomputable def isIntT (P : Program) (t : TypeId) : Bool := match P.underlying t with | some (.int _) => true | _ => false

noncomputable def compBin (P : Program) (gs : Nat → Bool) (nt : Nat) (op : BinOp) (t : TypeId) (x y : Operand) : Option IOp :=
  match compOpd gs nt x, compOpd gs nt y with
  | some a, some b =>
    match op with
    | .shl => if isIntT P t then some (.shift true a b) else none
    | .shr => if isIntT P t then some (.shift false a b) else none
    | .eql | .neq =>
      let neg := match op with | .neq => true | _ => false
      match nilKind x, nilKind y with
      | _, some k => if typeKind P t == some k then some (.eqNil neg k a) else none
      | some k, none => if typeKind P t == some k then some (.eqNil neg k b) else none
      | none, none => match P.underlying t with
      | some (.int _) | some .string => some (.bin op a b)
      | some .bool => some (.eqB neg a b)
      | some (.pointer e) => if (sizeT P e).any (0 < ·) then some (.eq neg a b) else none
      | some (.interface _) => some (.eqI neg (ifaceTab P (List.range P.types.size)) a b)
      | some (.struct _) => (flatT P t).map fun n => .eqFlat neg n a b
      | _ => none
    | _ => match P.underlying t with
      | some (.int _) | some .string => some (.bin op a b)
      | _ => none
  | _, _ => none

noncomputable def compConvert (P : Program) (gs : Nat → Bool) (nt : Nat) (src dst : TypeId) (x : Operand) : Option IOp :=
  match P.underlying src, P.underlying dst, compOpd gs nt x with
  | some (.int _), some (.int k), some a => some (.cvI k a)
  | some .string, some .string, some a => some (.sameS a)
  | some (.int _), some .string, some a => some (.cvRune a)
  | some (.pointer t), some .unsafePointer, some a => if (sizeT P t).any (0 < ·) then some (.toUns a) else none
  | some .unsafePointer, some (.pointer t), some a => match sizeT P t with
    | some (es + 1) => some (.fromUns t (es + 1) a)
    | _ => none
  | some .string, some (.slice el), some a => match P.underlying el with
    | some (.int .u8) => some (.s2b el a)
    | _ => none
  | some (.slice el), some .string, some a => match P.underlying el with
    | some (.int .u8) => some (.b2s a)
    | _ => none
  | _, _, _ => none

noncomputable def isSrcT (P : Program) (t : TypeId) : Bool := match P.underlying t with | some (.slice _) | some .string => true | _ => false

noncomputable def externOp (P : Program) (gs : Nat → Bool) (fn : Func) (args : List Opd) : Option IOp :=
  if fn.origin == "" then
    match fn.name, args with
    | "internal/bytealg.MakeNoZero", [x] => match fn.resultTypes[0]? with
      | some t => match P.underlying t with
        | some (.slice e) => if sizeT P e == some 1 then some (.xNoZero e x) else none
        | _ => none
      | none => none
    | "internal/bytealg.IndexString", [x, y] => match P.globals.findIdx? (·.name == "internal/bytealg.MaxLen") with
      | some g => if gs g then some (.xIndex (gkey g) x y) else none
      | none => none
    | "internal/bytealg.CountString", [s, c] => some (.xCount s c)
    | "internal/bytealg.IndexByteString", [s, c] => some (.xIndexByte s c)
    | "internal/abi.NoEscape", [x] => some (.same x)
    | _, _ => none
  else none

noncomputable def opdList : OpdL → List Opd
  | .nil => []
  | .cons x l => x :: opdList l

/-- a struct of k cells, of which none is an interface's -/
noncomputable def flatKey (P : Program) : Nat → TypeId → Nat → Bool
  | 0, _, _ => false
  | n + 1, t, k => match P.underlying t with
    | some (.struct fs) => fs.toList.all fun f => match isAggT P f.type, sizeT P f.type with
      | some true, some sz => Nat.ble (f.offset + sz) k && flatKey P n f.type sz
      | some false, some _ => Nat.blt f.offset k && (match P.underlying f.type with
        | some (.interface _) | some (.array _ _) | some (.struct _) => false
        | some _ => true
        | none => false)
      | _, _ => false
    | _ => false
/-- what a map's keys are -/
noncomputable def keyCls (P : Program) (t : TypeId) : Option Nat := match P.underlying t with
  | some (.int _) => some 0
  | some .string => some 1
  | some .bool => some 2
  | some (.struct _) => match sizeT P t with
    | some n => bif flatKey P 20 t n then some (3 + n) else none
    | none => none
  | _ => none
noncomputable def compCall (P : Program) (gs : Nat → Bool) (nt : Nat) (c : Call) : Option IOp :=
  match c.callee, compOpds gs nt c.args.toList with
  | .value (.func f), some as =>
    match P.funcs[f]? with
    | some fn => if fn.body.isSome then (if fn.name == "runtime.NumGoroutine" then none else some (.call f as)) else externOp P gs fn (opdList as)
    | none => none
  | .value x, some as => (compOpd gs nt x).map fun a => .callV a as
  | .invoke x name, some as => (compOpd gs nt x).map fun a => .callI (methodTab P name (List.range P.types.size)) a as
  | .builtin b, some as =>
    match b, opdList as, c.argTypes.toList with
    | .len, [x], [t] => match P.underlying t with
      | some .string => some (.lenS x)
      | some (.slice _) => some (.lenL x)
      | some (.map _ _) => some (.lenM x)
      | _ => none
    | .delete, [m, k], [t, _] => match P.underlying t with
      | some (.map kt _) => (keyCls P kt).map fun cls => .delM cls m k
      | _ => none
    | .cap, [x], [t] => match P.underlying t with
      | some (.slice _) => some (.capL x)
      | _ => none
    | .min, [x, y], _ => some (.minmax false x y)
    | .max, [x, y], _ => some (.minmax true x y)
    | .min, [x, y, z], _ => some (.minmax3 false x y z)
    | .max, [x, y, z], _ => some (.minmax3 true x y z)
    | .append, [s, x], [t, u] => match P.underlying t with
      | some (.slice e) => match sizeT P e, zeroCellsT P e with
        | some (es + 1), some z => if V.lenIs (es + 1) z && ((P.info? e).map (·.bytes)).any (· ≤ 1048576) && isSrcT P u then some (.app e (es + 1) s x) else none
        | _, _ => none
      | _ => none
    | .copy, [d, s], [t, _] => match P.underlying t with
      | some (.slice e) => match sizeT P e with
        | some (es + 1) => some (.copy (es + 1) d s)
        | _ => none
      | _ => none
    | .unsafeSliceData, [x], _ => some (.sdata x)
    | .unsafeString, [x, n], [pt, _] => match P.underlying pt with
      | some (.pointer e) => if sizeT P e == some 1 then some (.ustr e x n) else none
      | _ => none
    | _, _, _ => none
  | _, none => none

noncomputable def compOp0 (P : Program) (gs : Nat → Bool) (nt : Nat) (o : Op) : Option IOp :=
  match o with
  | .move x | .assign x => (compOpd gs nt x).map .mv
  | .pick c a b => match compOpd gs nt c, compOpd gs nt a, compOpd gs nt b with
    | some c, some a, some b => some (.pick c a b)
    | _, _, _ => none
  | .alloc e => match sizeT P e, zeroCellsT P e with
    | some (n + 1), some z => if V.lenIs (n + 1) z then some (.new e (n + 1) z) else none
    | _, _ => none
  | .box e x => match isAggT P e, sizeT P e, compOpd gs nt x with
    | some true, some (n + 1), some a => some (.boxN e (n + 1) a)
    | some false, some 1, some a => some (.box1 e a)
    | _, _, _ => none
  | .build t ps =>
    match P.underlying t, zeroCellsT P t with
    | some (.struct fs), some z => if fs.toList.all (fun f => (sizeT P f.type).isSome) then (compParts P gs nt (placeS P fs) ps.toList).map fun l => .build z l else none
    | some (.array _ e), some z => match sizeT P e with
      | some n => (compParts P gs nt (fun i => some (i * n, n)) ps.toList).map fun l => .build z l
      | none => none
    | _, _ => none
  | .buildSlice t len ps =>
    match P.underlying t with
    | some (.slice e) => match sizeT P e, zeroCellsT P e with
      | some (n + 1), some z => if len * (n + 1) > 2 ^ 24 || !V.lenIs (n + 1) z then none else (compParts P gs nt (fun i => some (i, n + 1)) ps.toList).map fun l => .mkSl e (n + 1) len z l
      | _, _ => none
    | _ => none
  | .load t a => match isAggT P t, sizeT P t, compOpd gs nt a with
    | some true, some (n + 1), some a => some (.ldN (n + 1) a)
    | some false, some _, some a => some (.ld1 a)
    | _, _, _ => none
  | .store t a x => match isAggT P t, sizeT P t, compOpd gs nt a, compOpd gs nt x with
    | some true, some (n + 1), some a, some x => some (.stN (n + 1) a x)
    | some false, some 1, some a, some x => some (.st1 a x)
    | _, _, _, _ => none
  | .nilCheck x => (compOpd gs nt x).map .chk
  | .binOp op t x y _ => compBin P gs nt op t x y
  | .unOp op _ x => match op, compOpd gs nt x with
    | .neg, some a => some (.neg a)
    | .not, some a => some (.not a)
    | _, _ => none
  | .convert s d x => compConvert P gs nt s d x
  | .makeInterface t x => match P.underlying t, compOpd gs nt x with
    | some (.interface _), _ => none
    | some _, some a => some (.mkIf t a)
    | _, _ => none
  | .makeFunc fn a b => match compOpds gs nt a.toList, compOpds gs nt b.toList with
    | some a, some b => some (.mkFn fn a b)
    | _, _ => none
  | .slice t x lo hi mx => match P.underlying t, compOpd gs nt x, compOpt gs nt lo, compOpt gs nt hi, compOpt gs nt mx with
    | some .string, some a, some l, some h, some .no => some (.cut a l h)
    | some (.slice e), some a, some l, some h, some m => bif mx.isSome && hi.isNone then none else (sizeT P e).map fun es => .slice es a l h m
    | some (.array n e), some a, some l, some h, some m => (sizeT P e).map fun es => .sliceA n es a l h m
    | _, _, _, _, _ => none
  | .fieldAddr s x f => match P.underlying s, compOpd gs nt x with
    | some (.struct fs), some a => match fs[f]? with
      | some fd => if (sizeT P fd.type).any (0 < ·) then some (.fld fd.offset a) else none
      | none => none
    | _, _ => none
  | .field t x f => match P.underlying t, compOpd gs nt x with
    | some (.struct fs), some a => match fs[f]? with
      | some fd => match isAggT P fd.type, sizeT P fd.type with
        | some true, some n => some (.partN fd.offset n a)
        | some false, some _ => some (.part1 fd.offset a)
        | _, _ => none
      | none => none
    | _, _ => none
  | .indexAddr t x i => match P.underlying t, compOpd gs nt x, compOpd gs nt i with
    | some (.slice e), some a, some i => (sizeT P e).map fun es => .ixA es a i
    | some (.array n e), some a, some i => (sizeT P e).map fun es => .ixArr n es a i
    | _, _, _ => none
  | .index t x i => match P.underlying t, compOpd gs nt x, compOpd gs nt i with
    | some .string, some a, some i => some (.ixS a i)
    | some (.array n e), some a, some i => match isAggT P e, sizeT P e with
      | some true, some es => some (.ixVN n es a i)
      | some false, some 1 => some (.ixV1 n a i)
      | _, _ => none
    | _, _, _ => none
  | .range t x => match P.underlying t, compOpd gs nt x with
    | some .string, some a => some (.rng a)
    | some (.map _ _), some a => some (.rngM a)
    | _, _ => none
  | .next x true => (compOpd gs nt x).map .nxt
  | .next x false => (compOpd gs nt x).map .nxtM
  | .typeAssert x _ t ok => match P.underlying t, zeroT P t, compOpd gs nt x with
    | some (.interface _), _, _ => none
    | some _, some z, some a => some (.asrt t z ok a)
    | _, _, _ => none
  | .extract x i => (compOpd gs nt x).map fun a => .ext i a
  | .makeSlice t l c => match P.underlying t with
    | some (.slice e) => match sizeT P e, zeroCellsT P e, compOpd gs nt l, compOpd gs nt c with
      | some (n + 1), some z, some l, some c => if V.lenIs (n + 1) z && ((P.info? e).map (·.bytes)).any (· ≤ 1048576) then some (.mkMake e (n + 1) z l c) else none
      | _, _, _, _ => none
    | _ => none
  | .call c => compCall P gs nt c
  | .makeMap _ none => some .mkMap
  | .lookup t x y ok => match P.underlying t with
    | some (.map kt el) => match keyCls P kt, zeroT P el, compOpd gs nt x, compOpd gs nt y with
      | some cls, some z, some a, some b => some (.lookM cls z ok a b)
      | _, _, _, _ => none
    | _ => none
  | .mapUpdate t x y z | .insert t x y z => match P.underlying t with
    | some (.map kt _) => match keyCls P kt, compOpd gs nt x, compOpd gs nt y, compOpd gs nt z with
      | some cls, some a, some b, some c => some (.updM cls a b c)
      | _, _, _, _ => none
    | _ => none
  | _ => none

/-- the operations whose evaluation is proved -/
noncomputable def proved : IOp → Bool
  | .cvRune .. | .sliceA .. | .bad .. => false
  | _ => true
noncomputable def compOp (P : Program) (gs : Nat → Bool) (nt : Nat) (o : Op) : Option IOp :=
  match compOp0 P gs nt o with
  | some iop => bif proved iop then some iop else none
  | none => none

noncomputable def compDst (nt : Nat) : Option Tmp → Option Dst
  | none => some .no
  | some t => if t < nt then some (.at (D.dig (t / 16)) (D.dig (t % 16))) else none

noncomputable def compGd (ops : Array Oper) (nt : Nat) : Option (Nat × Bool) → Option Gd
  | none => some .no
  | some (j, w) => match (ops[j]?).bind (·.dst) with
    | some t => if t < nt then some (.yes (D.dig (t / 16)) (D.dig (t % 16)) w) else none
    | none => none

noncomputable def compOps (P : Program) (gs : Nat → Bool) (ops : Array Oper) (nt : Nat) : List Oper → OpL
  | [] => .nil
  | o :: l => match compOp P gs nt o.op, compDst nt o.dst, compGd ops nt o.guard with
    | some a, some d, some g => consOp a d g (compOps P gs ops nt l)
    | _, _, _ => .cons (.bad (300 + o.op.ctorIdx)) (fun _ _ => .bad (300 + o.op.ctorIdx)) .no .no .nil


/-! ## Regions whose order is drawn -/
noncomputable def isFloat : IOp → Bool
  | .mv .. | .pick .. | .build .. | .ld1 .. | .ldN .. | .chk .. | .bin .. | .shift .. | .eq .. | .eqI .. | .eqFlat .. | .eqB .. | .eqNil .. | .neg .. | .not .. | .cvI .. | .mkIf .. | .mkFn .. | .slice .. | .cut .. | .fld .. | .part1 .. | .partN ..
  | .ixA .. | .ixArr .. | .ixS .. | .ixV1 .. | .ixVN .. | .ext .. | .lenS .. | .lenL .. | .minmax .. | .same .. | .sameS .. | .toUns .. | .fromUns .. | .sdata .. | .capL .. | .xCount .. | .xIndexByte .. | .lookM .. | .lenM .. => true
  | _ => false
noncomputable def isFresh : IOp → Bool
  | .new .. | .mkSl .. => true
  | _ => false
noncomputable def isStore : IOp → Bool
  | .st1 .. | .stN .. => true
  | _ => false

structure Plan where
  Bt : List (List Nat)
  kinds : List Nat
  perm : List Nat
  dia : Bool
  rankT : List Nat
  rankG : List Nat

noncomputable def dstIs (ops : Array Oper) (t j : Nat) : Bool := match ops[j]? with
  | some o => o.dst == some t
  | none => false
noncomputable def writer (ops : Array Oper) (t : Nat) : Option Nat := (List.range ops.size).find? (dstIs ops t)
noncomputable def lkOf0 (ops : Array Oper) (nt : Nat) (o : Oper) : List (Nat × Nat) :=
  (o.looksAt ops).filterMap fun t => if Nat.blt t nt then (writer ops t).map fun j => (t, j) else none
noncomputable def finsOf (ops : Array Oper) (nt : Nat) : List (Nat × Nat) :=
  (List.range ops.size).filterMap fun i => match (ops[i]?).bind (·.dst) with
    | some t => if Nat.blt t nt then some (t, i) else none
    | none => none

noncomputable def Plan.B (p : Plan) (i : Nat) : List Nat := p.Bt.getD i []
/-- whom it looks at: of those that write what it reads, not the ones that come behind it -/
noncomputable def lkOf (p : Plan) (ops : Array Oper) (nt i : Nat) (o : Oper) : List (Nat × Nat) := (lkOf0 ops nt o).filter fun q => !(p.B q.2).contains i
noncomputable def Plan.cls (p : Plan) (i : Nat) : Nat := p.kinds.getD i 0
noncomputable def Plan.effs (p : Plan) : List Nat := p.perm.filter fun i => Nat.beq (p.cls i) 1
noncomputable def Plan.setOf (p : Plan) (n : Nat) : List Nat :=
  if Nat.ble n p.effs.length then p.effs.take n else p.effs.take (p.effs.length - 2) ++ p.effs.drop (p.effs.length - 1)
noncomputable def Plan.has (p : Plan) (n j : Nat) : Bool := (p.setOf n).contains j
noncomputable def Plan.N (p : Plan) : Nat := bif p.dia then p.effs.length + 2 else p.effs.length + 1
noncomputable def Plan.compatB (p : Plan) (i n : Nat) : Bool :=
  (p.B i).all (fun j => !Nat.beq (p.cls j) 1 || p.has n j) && p.effs.all (fun j => !(p.B j).contains i || !p.has n j)
noncomputable def Plan.nodesOf (p : Plan) (i : Nat) : List Nat := (List.range p.N).filter (p.compatB i)
noncomputable def permOK (p : Plan) (ops : Array Oper) (nt : Nat) : List Nat → Bool
  | [] => true
  | i :: l => !l.contains i && ((match ops[i]? with
      | some o => (lkOf p ops nt i o).all fun q => !l.contains q.2 && !Nat.beq q.2 i
      | none => false) && ((!Nat.beq (p.cls i) 1 || l.all (fun j => !Nat.beq (p.cls j) 2)) && permOK p ops nt l))
noncomputable def pairsOK (p : Plan) : List Nat → Bool
  | [] => true
  | a :: l => (l.all (fun b => (p.B b).contains a) || (p.dia && Nat.beq l.length 1)) && pairsOK p l
noncomputable def rankOK (md : Region.Mode) (size : Nat) (rk : List Nat) (i : Nat) (o : Oper) : Bool :=
  o.after.toList.all fun e => !Region.binds md e || (Nat.blt (rk.getD e.on 0) (rk.getD i 0) && Nat.blt e.on size)
noncomputable def dstAlone (ops : Array Oper) (i : Nat) : Option Tmp → Bool
  | none => true
  | some t => (List.range ops.size).all fun j => Nat.beq i j || !dstIs ops t j
noncomputable def opPlanOK (p : Plan) (ops : Array Oper) (nt i : Nat) : Bool :=
  match ops[i]? with
  | none => false
  | some o => (p.B i).all (fun x => o.after.toList.any fun e => Region.binds .any e && (Nat.beq x e.on || (p.B e.on).contains x)) &&
      ((lkOf p ops nt i o).all (fun q => (p.B i).contains q.2) && (dstAlone ops i o.dst &&
      (p.perm.contains i && (rankOK .text ops.size p.rankT i o && rankOK .gc ops.size p.rankG i o))))
noncomputable def planOK (p : Plan) (ops : Array Oper) (nt : Nat) : Bool :=
  Nat.ble p.kinds.length ops.size && (Nat.ble ops.size 256 && (Nat.ble nt 256 && ((List.range ops.size).all (opPlanOK p ops nt) && (permOK p ops nt p.perm && (pairsOK p p.effs && (!p.dia || Nat.ble 2 p.effs.length))))))

noncomputable def entOf (P : Program) (gs : Nat → Bool) (ops : Array Oper) (nt : Nat) (p : Plan) (i : Nat) : Option DEnt :=
  match ops[i]? with
  | none => none
  | some o => match compOp P gs nt o.op, compDst nt o.dst, compGd ops nt o.guard with
    | some iop, some _, some gd =>
      if (Nat.beq (p.cls i) 0 && isFloat iop) || ((Nat.beq (p.cls i) 2 && isFresh iop) || Nat.beq (p.cls i) 1) then some ⟨i, iop, gd, lkOf p ops nt i o, p.cls i, bif Nat.beq (p.cls i) 1 then [] else p.nodesOf i⟩ else none
    | _, _, _ => none
noncomputable def entsOf (P : Program) (gs : Nat → Bool) (ops : Array Oper) (nt : Nat) (p : Plan) : List Nat → Option (List DEnt)
  | [] => some []
  | i :: l => match entOf P gs ops nt p i, entsOf P gs ops nt p l with
    | some d, some l => some (d :: l)
    | _, _ => none
noncomputable def Gd.isNo : Gd → Bool
  | .no => true
  | _ => false
noncomputable def diaOf (P : Program) (gs : Nat → Bool) (ops : Array Oper) (nt : Nat) (p : Plan) : Option (Option (DEnt × DEnt)) :=
  bif p.dia then
    match p.effs[p.effs.length - 2]?, p.effs[p.effs.length - 1]? with
    | some a, some b => match entOf P gs ops nt p a, entOf P gs ops nt p b with
      | some A, some B => if isStore A.op && (isStore B.op && (Gd.isNo A.gd && Gd.isNo B.gd)) then some (some (A, B)) else none
      | _, _ => none
    | _, _ => none
  else some none
/-! The same by explicit recursors: the kernel is fastest so (EvFast says that they are the same). -/
noncomputable def fAll {α : Type} (p : α → Bool) (l : List α) : Bool := List.rec (motive := fun _ => Bool) true (fun h _ ih => Bool.rec (motive := fun _ => Bool) false ih (p h)) l
noncomputable def fAny {α : Type} (p : α → Bool) (l : List α) : Bool := List.rec (motive := fun _ => Bool) false (fun h _ ih => Bool.rec (motive := fun _ => Bool) ih true (p h)) l
noncomputable def fMem (a : Nat) (l : List Nat) : Bool := List.rec (motive := fun _ => Bool) false (fun h _ ih => Bool.rec (motive := fun _ => Bool) ih true (Nat.beq a h)) l
noncomputable def fFilter {α : Type} (p : α → Bool) (l : List α) : List α := List.rec (motive := fun _ => List α) [] (fun h _ ih => Bool.rec (motive := fun _ => List α) ih (h :: ih) (p h)) l
noncomputable def fGetD {α : Type} (l : List α) (d : α) (i : Nat) : α := List.rec (motive := fun _ => Nat → α) (fun _ => d) (fun h _ ih i => Nat.rec (motive := fun _ => α) h (fun j _ => ih j) i) l i
noncomputable def fGet? {α : Type} (l : List α) (i : Nat) : Option α := List.rec (motive := fun _ => Nat → Option α) (fun _ => none) (fun h _ ih i => Nat.rec (motive := fun _ => Option α) (some h) (fun j _ => ih j) i) l i
/-- with the place -/
noncomputable def fAllI {α : Type} (p : Nat → α → Bool) (l : List α) : Nat → Bool := List.rec (motive := fun _ => Nat → Bool) (fun _ => true) (fun h _ ih i => Bool.rec (motive := fun _ => Bool) false (ih (Nat.succ i)) (p i h)) l
noncomputable def dstIsF (t : Nat) (o : Oper) : Bool := Option.rec (motive := fun _ => Bool) false (fun u => Nat.beq u t) o.dst
noncomputable def writerF (t : Nat) (l : List Oper) : Nat → Option Nat := List.rec (motive := fun _ => Nat → Option Nat) (fun _ => none) (fun o _ ih i => Bool.rec (motive := fun _ => Option Nat) (ih (Nat.succ i)) (some i) (dstIsF t o)) l
noncomputable def lkOfF (p : Plan) (ops : Array Oper) (nt i : Nat) (o : Oper) : List (Nat × Nat) :=
  List.rec (motive := fun _ => List (Nat × Nat)) [] (fun t _ ih => Bool.rec (motive := fun _ => List (Nat × Nat)) ih
    (Option.rec (motive := fun _ => List (Nat × Nat)) ih (fun j => Bool.rec (motive := fun _ => List (Nat × Nat)) ((t, j) :: ih) ih (fMem i (fGetD p.Bt [] j))) (writerF t ops.toList 0)) (Nat.blt t nt)) (o.looksAt ops)
noncomputable def rankOKF (md : Region.Mode) (size : Nat) (rk : List Nat) (i : Nat) (o : Oper) : Bool :=
  fAll (fun e => Bool.rec (motive := fun _ => Bool) true (band (Nat.blt (fGetD rk 0 e.on) (fGetD rk 0 i)) (Nat.blt e.on size)) (Region.binds md e)) o.after.toList
noncomputable def dstAloneF (ops : Array Oper) (i : Nat) (d : Option Tmp) : Bool :=
  Option.rec (motive := fun _ => Bool) true (fun t => fAllI (fun j o => Bool.rec (motive := fun _ => Bool) (bnot (dstIsF t o)) true (Nat.beq i j)) ops.toList 0) d
noncomputable def opPlanOKF (p : Plan) (ops : Array Oper) (nt i : Nat) (o : Oper) : Bool :=
  band (fAll (fun x => fAny (fun e => band (Region.binds .any e) (Bool.rec (motive := fun _ => Bool) (fMem x (fGetD p.Bt [] e.on)) true (Nat.beq x e.on))) o.after.toList) (fGetD p.Bt [] i))
    (band (fAll (fun q => fMem q.2 (fGetD p.Bt [] i)) (lkOfF p ops nt i o)) (band (dstAloneF ops i o.dst)
      (band (fMem i p.perm) (band (rankOKF .text ops.size p.rankT i o) (rankOKF .gc ops.size p.rankG i o)))))
noncomputable def clsF (p : Plan) (i : Nat) : Nat := fGetD p.kinds 0 i
noncomputable def permOKF (p : Plan) (ops : Array Oper) (nt : Nat) (l : List Nat) : Bool :=
  List.rec (motive := fun _ => Bool) true (fun i l ih => band (bnot (fMem i l)) (band (Option.rec (motive := fun _ => Bool) false (fun o => fAll (fun q => band (bnot (fMem q.2 l)) (bnot (Nat.beq q.2 i))) (lkOfF p ops nt i o)) (fGet? ops.toList i))
    (band (Bool.rec (motive := fun _ => Bool) true (fAll (fun j => bnot (Nat.beq (clsF p j) 2)) l) (Nat.beq (clsF p i) 1)) ih))) l
noncomputable def effsF (p : Plan) : List Nat := fFilter (fun i => Nat.beq (clsF p i) 1) p.perm
noncomputable def pairsOKF (p : Plan) (l : List Nat) : Bool :=
  List.rec (motive := fun _ => Bool) true (fun a l ih => band (Bool.rec (motive := fun _ => Bool) (band p.dia (Nat.beq (List.length l) 1)) true (fAll (fun b => fMem a (fGetD p.Bt [] b)) l)) ih) l
noncomputable def planOKF (p : Plan) (ops : Array Oper) (nt : Nat) : Bool :=
  band (Nat.ble (List.length p.kinds) ops.size) (band (Nat.ble ops.size 256) (band (Nat.ble nt 256) (band (fAllI (opPlanOKF p ops nt) ops.toList 0) (band (permOKF p ops nt p.perm)
    (band (pairsOKF p (effsF p)) (Bool.rec (motive := fun _ => Bool) true (Nat.ble 2 (List.length (effsF p))) p.dia))))))
noncomputable def setOfF (p : Plan) (effs : List Nat) (n : Nat) : List Nat :=
  Bool.rec (motive := fun _ => List Nat) (effs.take (effs.length - 2) ++ effs.drop (effs.length - 1)) (effs.take n) (Nat.ble n (List.length effs))
noncomputable def compatF (p : Plan) (effs set : List Nat) (i : Nat) : Bool :=
  band (fAll (fun j => Bool.rec (motive := fun _ => Bool) true (fMem j set) (Nat.beq (clsF p j) 1)) (fGetD p.Bt [] i)) (fAll (fun j => Bool.rec (motive := fun _ => Bool) true (bnot (fMem j set)) (fMem i (fGetD p.Bt [] j))) effs)
noncomputable def nodesF (p : Plan) (effs : List Nat) (i : Nat) : List Nat :=
  fFilter (fun n => compatF p effs (setOfF p effs n) i) (List.range (Bool.rec (motive := fun _ => Nat) (Nat.succ (List.length effs)) (Nat.add (List.length effs) 2) p.dia))
noncomputable def entOfF (P : Program) (gs : Nat → Bool) (ops : Array Oper) (nt : Nat) (p : Plan) (effs : List Nat) (i : Nat) : Option DEnt :=
  match fGet? ops.toList i with
  | none => none
  | some o => match compOp P gs nt o.op, compDst nt o.dst, compGd ops nt o.guard with
    | some iop, some _, some gd =>
      Bool.rec (motive := fun _ => Option DEnt) none (some ⟨i, iop, gd, lkOfF p ops nt i o, clsF p i, Bool.rec (motive := fun _ => List Nat) (nodesF p effs i) [] (Nat.beq (clsF p i) 1)⟩)
        (Bool.rec (motive := fun _ => Bool) (Bool.rec (motive := fun _ => Bool) (Nat.beq (clsF p i) 1) true (band (Nat.beq (clsF p i) 2) (isFresh iop))) true (band (Nat.beq (clsF p i) 0) (isFloat iop)))
    | _, _, _ => none
noncomputable def entsOfF (P : Program) (gs : Nat → Bool) (ops : Array Oper) (nt : Nat) (p : Plan) (effs : List Nat) (l : List Nat) : Option (List DEnt) :=
  List.rec (motive := fun _ => Option (List DEnt)) (some []) (fun i _ ih => match entOfF P gs ops nt p effs i, ih with
    | some d, some l => some (d :: l)
    | _, _ => none) l
noncomputable def finsOfF (ops : Array Oper) (nt : Nat) : List (Nat × Nat) :=
  List.rec (motive := fun _ => Nat → List (Nat × Nat)) (fun _ => []) (fun o _ ih i => Option.rec (motive := fun _ => List (Nat × Nat)) (ih (Nat.succ i)) (fun t => Bool.rec (motive := fun _ => List (Nat × Nat)) (ih (Nat.succ i)) ((t, i) :: ih (Nat.succ i)) (Nat.blt t nt)) o.dst) ops.toList 0
noncomputable def drawC (P : Program) (gs : Nat → Bool) (ops : Array Oper) (nt : Nat) (p : Plan) : C :=
  bif planOKF p ops nt then
    match entsOfF P gs ops nt p (effsF p) p.perm, diaOf P gs ops nt p with
    | some l, some dia => .draw (mkFs l) (envF (finsOfF ops nt)) dia
    | _, _ => .bad 408
  else .bad 404

/-- the plan: none of it is taken on trust -/
noncomputable def bitAt (m i : Nat) : Bool := Nat.beq (Nat.mod (Nat.shiftRight m i) 2) 1
noncomputable def bitsL (m n : Nat) : Nat → List Nat := Nat.rec (motive := fun _ => Nat → List Nat) (fun _ => []) (fun _ ih i => Bool.rec (motive := fun _ => List Nat) (ih (Nat.succ i)) (i :: ih (Nat.succ i)) (bitAt m i)) n
noncomputable def upto (n : Nat) : Nat → List Nat := Nat.rec (motive := fun _ => Nat → List Nat) (fun _ => []) (fun _ ih i => i :: ih (Nat.succ i)) n
noncomputable def edgeMask (acc : List Nat) (l : List Edge) : Nat :=
  List.rec (motive := fun _ => Nat) 0 (fun e _ ih => Bool.rec (motive := fun _ => Nat) ih (Nat.lor ih (Nat.lor (Nat.shiftLeft 1 e.on) (fGetD acc 0 e.on))) (Region.binds .any e)) l
noncomputable def maskL (l : List Oper) : List Nat → List Nat :=
  List.rec (motive := fun _ => List Nat → List Nat) (fun acc => acc) (fun o _ ih acc => ih (acc ++ [edgeMask acc o.after.toList])) l
noncomputable def kind0 (P : Program) (gs : Nat → Bool) (nt : Nat) (o : Oper) : Nat :=
  match compOp P gs nt o.op with
  | some iop => Bool.rec (motive := fun _ => Nat) (Bool.rec (motive := fun _ => Nat) 1 2 (isFresh iop)) 0 (isFloat iop)
  | none => 1
noncomputable def fMap {α β : Type} (f : α → β) (l : List α) : List β := List.rec (motive := fun _ => List β) [] (fun h _ ih => f h :: ih) l
noncomputable def kind1 (Ms k0 : List Nat) (n i : Nat) : Nat :=
  Bool.rec (motive := fun _ => Nat) (fGetD k0 0 i)
    (Bool.rec (motive := fun _ => Nat) (Bool.rec (motive := fun _ => Nat) 1 2 (fAny (fun j => band (bnot (Nat.beq i j)) (band (Nat.ble 1 (fGetD k0 0 j)) (band (bnot (bitAt (fGetD Ms 0 i) j)) (bnot (bitAt (fGetD Ms 0 j) i))))) (upto n 0)))
      1 (fAny (fun j => band (Nat.beq (fGetD k0 0 j) 1) (bitAt (fGetD Ms 0 i) j)) (upto n 0)))
    (Nat.beq (fGetD k0 0 i) 2)
noncomputable def effMask (kinds : List Nat) (l : List Nat) : Nat := List.rec (motive := fun _ => Nat) 0 (fun i _ ih => Bool.rec (motive := fun _ => Nat) ih (Nat.lor ih (Nat.shiftLeft 1 i)) (Nat.beq (fGetD kinds 0 i) 1)) l
noncomputable def mkPlan3 (ops : Array Oper) (n : Nat) (Ms kinds perm effs : List Nat) : Plan :=
  ⟨fMap (fun m => bitsL m n 0) Ms, kinds, perm, match fGet? effs (effs.length - 2), fGet? effs (effs.length - 1) with
    | some a, some b => band (Nat.ble 2 (List.length effs)) (bnot (bitAt (fGetD Ms 0 b) a))
    | _, _ => false, upto n 0,
    bif Region.departs ops then (fun π => (List.range ops.size).map fun i => π.idxOf i) (Region.linearise .gc ops 0) else upto n 0⟩
noncomputable def mkPlan2 (ops : Array Oper) (n em : Nat) (Ms kinds : List Nat) : Plan :=
  (fun perm => mkPlan3 ops n Ms kinds perm (fFilter (fun i => Nat.beq (fGetD kinds 0 i) 1) perm))
    (fFilter (fun i => band (bnot (Nat.beq (fGetD kinds 0 i) 1)) (Nat.beq (Nat.land (fGetD Ms 0 i) em) 0)) (upto n 0) ++
      fFilter (fun i => bnot (band (bnot (Nat.beq (fGetD kinds 0 i) 1)) (Nat.beq (Nat.land (fGetD Ms 0 i) em) 0))) (upto n 0))
noncomputable def mkPlan1 (ops : Array Oper) (n : Nat) (Ms kinds : List Nat) : Plan := mkPlan2 ops n (effMask kinds (upto n 0)) Ms kinds
noncomputable def mkPlan0 (ops : Array Oper) (n : Nat) (Ms k0 : List Nat) : Plan := mkPlan1 ops n Ms (fMap (kind1 Ms k0 n) (upto n 0))
noncomputable def mkPlan (P : Program) (gs : Nat → Bool) (ops : Array Oper) (nt : Nat) : Plan := mkPlan0 ops (List.length ops.toList) (maskL ops.toList []) (fMap (kind0 P gs nt) ops.toList)

/-- il: may ranges over functions stand in it? -/
noncomputable def compC (P : Program) (gs : Nat → Bool) (il : Bool) (nt : Nat) : Code → C
  | .skip => .skip
  | .label _ => .skip
  | .region _ ops false => .reg (compOps P gs ops nt ops.toList)
  | .region _ ops true => drawC P gs ops nt (mkPlan P gs ops nt)
  | .seq a b => .seq (compC P gs il nt a) (compC P gs il nt b)
  | .cond x a b => match compOpd gs nt x with
    | some c => .cond c (compC P gs il nt a) (compC P gs il nt b)
    | none => .bad 400
  | .block id b => .block id (compC P gs il nt b)
  | .loop b => .loop (compC P gs il nt b)
  | .exit id => .exit id
  | .scope b => compC P gs il nt b
  | .goto _ => .bad 401
  | .ret => .ret
  | .rangeFunc x ps a b => bif il then (match compOpd gs nt x with
    | some p => .rangeF p ps.toList a b nt
    | none => .bad 400) else .bad 402
  | .refuse _ => .bad 403

noncomputable def compRes (P : Program) (nt : Nat) : List ResultVar → Option ResL
  | [] => some .nil
  | .tmp t :: l => if t < nt then (compRes P nt l).map (.tmp (D.dig (t / 16)) (D.dig (t % 16))) else none
  | .cell a t :: l => if a < nt then match isAggT P t, sizeT P t with
      | some true, some (n + 1) => (compRes P nt l).map (.cellN (D.dig (a / 16)) (D.dig (a % 16)) (n + 1))
      | some false, some 1 => (compRes P nt l).map (.cell1 (D.dig (a / 16)) (D.dig (a % 16)))
      | _, _ => none
    else none

noncomputable def compFun (P : Program) (gs : Nat → Bool) (f : Func) : Fun :=
  if f.ntmps ≤ 256 ∧ f.name ≠ "runtime.NumGoroutine" then
    match f.body, compRes P f.ntmps f.results.toList with
    | some b, some r => .some (compC P gs true f.ntmps b) r (f.results.size == 1) f.ntmps
    | _, _ => .none
  else .none

noncomputable def compAll (P : Program) (gs : Nat → Bool) : Nat → List Func → F3 → F3
  | _, [], t => t
  | n, f :: l, t => compAll P gs (n + 1) l (F3.put (K.ofNat n) (compFun P gs f) t)

noncomputable def table (P : Program) (gs : Nat → Bool) : F3 := F3.put (K.ofNat 4095) (.round fun nt c => compC P gs false nt c) (compAll P gs 0 P.funcs.toList F3.empty)
noncomputable def start : St := ⟨H4.empty, ⟨.x0, .x0, .x0, .x0⟩, 1⟩

end Go.Ev

namespace Go.Ev
set_option linter.unusedVariables false

/-! ## The memory -/
def Ver.has (v n : Nat) (ch : V) : Ver → Prop
  | .none => False
  | .more i m c rest => (i = v ∧ m = n ∧ c = ch) ∨ Ver.has v n ch rest

theorem Ver.find_has {v n : Nat} {ch : V} : ∀ {vs : Ver}, Ver.find v vs = .yes n ch → Ver.has v n ch vs
  | .none, h => by simp [Ver.find] at h
  | .more i m c rest, h => by
    have e : Ver.find v (.more i m c rest) = Bool.rec (Ver.find v rest) (.yes m c) (Nat.beq i v) := rfl
    rw [e] at h
    cases hb : Nat.beq i v with
    | true =>
      rw [hb] at h
      have h' : OW.yes m c = .yes n ch := h
      injection h' with h1 h2
      exact .inl ⟨Nat.eq_of_beq_eq_true hb, h1, h2⟩
    | false => rw [hb] at h; exact .inr (Ver.find_has h)

theorem Ver.keep_has {p v n : Nat} {ch : V} : ∀ {vs : Ver}, Ver.has v n ch (Ver.keep p vs) → Ver.has v n ch vs ∧ n ≤ p
  | .none, h => h.elim
  | .more i m c rest, h => by
    have e : Ver.keep p (.more i m c rest) = Bool.rec (Ver.keep p rest) (.more i m c (Ver.keep p rest)) (Nat.ble m p) := rfl
    rw [e] at h
    cases hb : Nat.ble m p with
    | true =>
      rw [hb] at h
      rcases h with ⟨h1, h2, h3⟩ | h
      · exact ⟨.inl ⟨h1, h2, h3⟩, h2 ▸ Nat.le_of_ble_eq_true hb⟩
      · exact ⟨.inr (Ver.keep_has h).1, (Ver.keep_has h).2⟩
    | false => rw [hb] at h; exact ⟨.inr (Ver.keep_has h).1, (Ver.keep_has h).2⟩

theorem Ver.from_more {v i m : Nat} {c : V} {rest : Ver} : ∀ {vs : Ver}, Ver.from v vs = .more i m c rest → i = v ∧ Ver.has v m c vs ∧ ∀ {v' n' ch'}, Ver.has v' n' ch' rest → Ver.has v' n' ch' vs
  | .none, h => by simp [Ver.from] at h
  | .more i' m' c' rest', h => by
    have e : Ver.from v (.more i' m' c' rest') = Bool.rec (Ver.from v rest') (.more i' m' c' rest') (Nat.beq i' v) := rfl
    rw [e] at h
    cases hb : Nat.beq i' v with
    | true =>
      rw [hb] at h
      have h' : Ver.more i' m' c' rest' = .more i m c rest := h
      injection h' with h1 h2 h3 h4
      subst h1 h2 h3 h4
      exact ⟨Nat.eq_of_beq_eq_true hb, .inl ⟨Nat.eq_of_beq_eq_true hb, rfl, rfl⟩, fun h => .inr h⟩
    | false =>
      rw [hb] at h
      obtain ⟨h1, h2, h3⟩ := Ver.from_more h
      exact ⟨h1, .inr h2, fun h => .inr (h3 h)⟩

theorem Ver.trim_has {v n : Nat} {ch : V} : ∀ {m : Nat} {vs : Ver}, Ver.has v n ch (Ver.trim m vs) → Ver.has v n ch vs
  | 0, _, h => h.elim
  | m + 1, .none, h => h.elim
  | m + 1, .more i k c rest, h => by
    have e : Ver.trim (m + 1) (.more i k c rest) = .more i k c (Ver.trim m rest) := rfl
    rw [e] at h
    rcases h with h | h
    · exact .inl h
    · exact .inr (Ver.trim_has h)

/-- the known elements of a version lie in the cells -/
def RowR (g : G) (ρ : Rho) (sz sh n : Nat) (ch : V) (c : Array Value) : Prop :=
  ∀ e, sh ≤ e * sz → V.elem e ch ≠ .undef → e * sz + sz ≤ n ∧
    ∃ xs, VL g ρ (V.elem e ch) xs ∧ xs.length = sz ∧ (∀ x ∈ xs, x.oneCell' = true) ∧ ∀ r, r < sz → c[e * sz - sh + r]? = xs[r]?

/-- a map's entries -/
inductive MapR (g : G) (ρ : Rho) : V → List MapEntry → Prop
  | nil : MapR g ρ .nil []
  | cons {k x t : V} {e : MapEntry} {l : List MapEntry} (hk : VR g ρ k e.key) (hx : VR g ρ x e.val) (ht : MapR g ρ t l) : MapR g ρ (.cons (.cons k (.cons x (.cons (.int .i64 (e.born : Int)) .nil))) t) (e :: l)
theorem MapR.mono {g g' : G} {ρ : Rho} (hle : G.le g g') {es : V} {l : List MapEntry} (h : MapR g ρ es l) : MapR g' ρ es l := by
  induction h with
  | nil => exact .nil
  | cons hk hx _ ih => exact .cons (hk.mono hle) (hx.mono hle) ih

def ObjR (g : G) (ρ : Rho) (base v : Nat) (L : Loc) (w : World) : Obj → Prop
  | .none => False
  | .cells elem sz ro flo fhi vs => (ro = false → base ≤ L.blk) ∧ sz ∣ L.sh ∧ 0 < sz ∧ ∃ c fz, w.heap[L.blk]? = some (.cells c elem fz) ∧ c.size = L.csz ∧
      (fz.1 ≤ fz.2 ∧ ∀ i, fz.1 ≤ i → i < fz.2 → flo ≤ i + L.sh ∧ i + L.sh < fhi) ∧
      ∀ n ch, Ver.has v n ch vs → n ≤ L.sh + L.csz ∧ RowR g ρ sz L.sh n ch c
  | .map v' es clock => v = v' ∧ base ≤ L.blk ∧ L.sh = 0 ∧ ∃ es', w.heap[L.blk]? = some (.map es' clock) ∧ MapR g ρ es es'.toList
  | .siter v' len d pos => v = v' ∧ base ≤ L.blk ∧ L.sh = 0 ∧ ∃ s, w.heap[L.blk]? = some (.stringIter s pos) ∧ len = s.data.toList.length ∧ d = encList s.data.toList

  | .miter v' src since seen last => v = v' ∧ base ≤ L.blk ∧ L.sh = 0 ∧ ∃ m se, w.heap[L.blk]? = some (.mapIter m since se last) ∧ se.toList = seen ∧ VR g ρ src (.map m)
  | .loop v' env ps A B nt st pend => v = v' ∧ base ≤ L.blk ∧ L.sh = 0 ∧ ∃ r : Go.Loop, w.heap[L.blk]? = some (.loop r) ∧ (r.params.toList = ps ∧ r.assign = A ∧ r.body = B ∧ r.state = st ∧ r.pending = pend) ∧
      r.tmps.size = nt ∧ nt ≤ 256 ∧ ∀ t, t < nt → VR g ρ (E2.at (D.dig (t / 16)) (D.dig (t % 16)) env) (r.tmps.getD t undef)

structure WR (g : G) (ρ : Rho) (base : Nat) (s : St) (w : World) : Prop where
  fresh : ∀ f v, s.nx ≤ v → g f v = none
  inj : ∀ {f v f' v' L L'}, g f v = some L → g f' v' = some L' → L.blk = L'.blk → f = f' ∧ L.sh = L'.sh ∧ L.csz = L'.csz
  lt : ∀ {f v L}, g f v = some L → L.blk < w.heap.size
  obj : ∀ {f v L}, g f v = some L → ObjR g ρ base v L w (s.h.at f)
  base : base ≤ w.heap.size
  ids : ∀ {f elem sz ro a b vs v n ch}, s.h.at f = .cells elem sz ro a b vs → Ver.has v n ch vs → v < s.nx
  ro : ∀ {k x}, ρ.fam k = some x → s.h.at k = x ∧ ∃ elem sz a b vs, x = .cells elem sz true a b vs

structure Ext (g g' : G) (w : World) : Prop where
  le : G.le g g'
  new : ∀ f v L, g' f v = some L → L.blk < w.heap.size → ∃ f0 v0 L0, g f0 v0 = some L0 ∧ L0.blk = L.blk

structure Keep (g : G) (base : Nat) (w w' : World) : Prop where
  size : w.heap.size ≤ w'.heap.size
  blk : ∀ b, b < w.heap.size → (b < base ∨ ∀ f v L, g f v = some L → L.blk ≠ b) → w'.heap[b]? = w.heap[b]?
  os : w'.os = w.os
  output : w'.output = w.output
  tape : w'.tape = w.tape

structure Step (g : G) (ρ : Rho) (base : Nat) (s : St) (w : World) (g' : G) (s' : St) (w' : World) : Prop where
  ext : Ext g g' w
  keep : Keep g base w w'
  wr : WR g' ρ base s' w'
  nx : s.nx ≤ s'.nx
  old : ∀ f v L, g' f v = some L → v < s.nx → g f v = some L

theorem Ext.refl (g : G) (w : World) : Ext g g w := ⟨fun _ _ _ h => h, fun f v L h _ => ⟨f, v, L, h, rfl⟩⟩
theorem Keep.refl (g : G) (base : Nat) (w : World) : Keep g base w w := ⟨Nat.le_refl _, fun _ _ _ => rfl, rfl, rfl, rfl⟩
theorem Keep.drew {g : G} {base : Nat} {w w' : World} (h : Keep g base w w') : Keep g base w w'.drew := ⟨h.size, h.blk, h.os, h.output, h.tape⟩
theorem WR.drew {g : G} {ρ : Rho} {base : Nat} {s : St} {w : World} (h : WR g ρ base s w) : WR g ρ base s w.drew :=
  ⟨h.fresh, h.inj, h.lt, fun hg => by
    have := h.obj hg
    revert this
    cases s.h.at _ <;> exact fun h => h, h.base, h.ids, h.ro⟩
/-- the families that stay are not written -/
theorem WR.ro_put {g : G} {ρ : Rho} {base : Nat} {s : St} {w : World} (hW : WR g ρ base s w) {f : K} {x : Obj} (hno : ∀ elem sz a b vs, s.h.at f ≠ .cells elem sz true a b vs) :
    ∀ {k y}, ρ.fam k = some y → H4.at k (H4.put f x s.h) = y ∧ ∃ elem sz a b vs, y = .cells elem sz true a b vs := by
  intro k y hk
  obtain ⟨h1, elem, sz, a, b, vs, h2⟩ := hW.ro hk
  refine ⟨?_, elem, sz, a, b, vs, h2⟩
  rw [H4.at_put, if_neg]
  · exact h1
  · intro he
    subst he
    exact hno elem sz a b vs (h1.trans h2)
theorem Step.refl {g : G} {ρ : Rho} {base : Nat} {s : St} {w : World} (h : WR g ρ base s w) : Step g ρ base s w g s w := ⟨.refl g w, .refl g base w, h, Nat.le_refl _, fun _ _ _ h _ => h⟩

theorem Step.trans {g g1 g2 : G} {ρ : Rho} {base : Nat} {s s1 s2 : St} {w w1 w2 : World} (h1 : Step g ρ base s w g1 s1 w1) (h2 : Step g1 ρ base s1 w1 g2 s2 w2) :
    Step g ρ base s w g2 s2 w2 := by
  refine ⟨⟨fun f v L h => h2.ext.le _ _ _ (h1.ext.le _ _ _ h), ?_⟩, ⟨Nat.le_trans h1.keep.size h2.keep.size, ?_, h2.keep.os.trans h1.keep.os, h2.keep.output.trans h1.keep.output, h2.keep.tape.trans h1.keep.tape⟩, h2.wr, Nat.le_trans h1.nx h2.nx, fun f v L h hv => h1.old f v L (h2.old f v L h (Nat.lt_of_lt_of_le hv h1.nx)) hv⟩
  · intro f v L h hlt
    obtain ⟨f0, v0, L0, hg, hb⟩ := h2.ext.new f v L h (Nat.lt_of_lt_of_le hlt h1.keep.size)
    obtain ⟨f1, v1, L1, hg1, hb1⟩ := h1.ext.new f0 v0 L0 hg (by omega)
    exact ⟨f1, v1, L1, hg1, hb1.trans hb⟩
  · intro b hb hor
    have hk1 := h1.keep.blk b hb hor
    have hk2 := h2.keep.blk b (Nat.lt_of_lt_of_le hb h1.keep.size) (by
      rcases hor with hor | hor
      · exact .inl hor
      · refine .inr fun f v L hg he => ?_
        obtain ⟨f0, v0, L0, hg0, hb0⟩ := h1.ext.new f v L hg (he ▸ hb)
        exact hor f0 v0 L0 hg0 (hb0.trans he))
    exact hk2.trans hk1

theorem RowR.mono {g g' : G} {ρ : Rho} (hle : G.le g g') {sz sh n : Nat} {ch : V} {c : Array Value} (h : RowR g ρ sz sh n ch c) : RowR g' ρ sz sh n ch c := by
  intro e he hk
  obtain ⟨hn, xs, h1, h2⟩ := h e he hk
  exact ⟨hn, xs, h1.mono hle, h2⟩

/-- a world whose block k holds what is said -/
def World.put (w : World) (k : Nat) (o : Go.Obj) : World := { w with heap := w.heap.setIfInBounds k o }

theorem heap_put (w : World) (k i : Nat) (o : Go.Obj) : (World.put w k o).heap[i]? = if k = i then (if k < w.heap.size then some o else none) else w.heap[i]? := by
  simp only [World.put, Array.getElem?_setIfInBounds]

theorem ObjR.mono {g g' : G} {ρ : Rho} (hle : G.le g g') {base v : Nat} {L : Loc} {w w' : World} (hw : w'.heap[L.blk]? = w.heap[L.blk]?) {o : Obj} (h : ObjR g ρ base v L w o) :
    ObjR g' ρ base v L w' o := by
  cases o with
  | none => exact h
  | cells elem sz ro flo fhi vs =>
    obtain ⟨h1, h2, h3, c, fz, h4, h5, h6, h7⟩ := h
    exact ⟨h1, h2, h3, c, fz, hw.trans h4, h5, h6, fun n ch hv => ⟨(h7 n ch hv).1, (h7 n ch hv).2.mono hle⟩⟩
  | map v' es clock =>
    obtain ⟨h0, h1, h2, s, h3, h4⟩ := h
    exact ⟨h0, h1, h2, s, hw.trans h3, h4.mono hle⟩
  | siter v' len d pos =>
    obtain ⟨h0, h1, h2, s, h3, h4⟩ := h
    exact ⟨h0, h1, h2, s, hw.trans h3, h4⟩
  | miter v' src since seen last =>
    obtain ⟨h0, h1, h2, m, se, h3, h4, h5⟩ := h
    exact ⟨h0, h1, h2, m, se, hw.trans h3, h4, h5.mono hle⟩
  | loop v' env ps A B nt st pend =>
    obtain ⟨h0, h1, h2, r, h3, h4, h5, h6, h7⟩ := h
    exact ⟨h0, h1, h2, r, hw.trans h3, h4, h5, h6, fun t ht => (h7 t ht).mono hle⟩

/-- THE WRITE: a version's row is turned in cells [o - sh, o - sh + size). -/
theorem WR.write {g : G} {ρ : Rho} {base : Nat} {s : St} {w : World} (hW : WR g ρ base s w) {f : K} {v : Nat} {L : Loc} (hg : g f v = some L)
    {elem sz flo fhi : Nat} {vs : Ver} (hobj : s.h.at f = .cells elem sz false flo fhi vs) {i n o size : Nat} {ch ch' : V} {rest : Ver}
    (hfrom : Ver.from v vs = .more i n ch rest) (ho : L.sh ≤ o) {c c' : Array Value} {fz : Nat × Nat} (hc : w.heap[L.blk]? = some (.cells c elem fz)) (hsize : c'.size = c.size)
    (hsame : ∀ k, ¬ (o - L.sh ≤ k) → c'[k]? = c[k]?) (hrow : RowR g ρ sz L.sh n ch' c') :
    Step g ρ base s w g ⟨H4.put f (.cells elem sz false flo fhi (.more i n ch' (Ver.keep o rest))) s.h, s.nk, s.nx⟩ (World.put w L.blk (.cells c' elem fz)) := by
  have hlt := hW.lt hg
  obtain ⟨hi, hhas, hsub⟩ := Ver.from_more hfrom
  refine ⟨.refl g w, ⟨by simp [World.put], ?_, rfl, rfl, rfl⟩, ⟨hW.fresh, hW.inj, fun h => by have := hW.lt h; simpa [World.put] using this, ?_, by simpa [World.put] using hW.base, ?_, hW.ro_put (by rw [hobj]; intro _ _ _ _ _ h; cases h)⟩, Nat.le_refl _, fun _ _ _ h _ => h⟩
  · intro b hb hor
    rw [heap_put]
    by_cases he : L.blk = b
    · exfalso
      have h0 := hW.obj hg
      rw [hobj] at h0
      rcases hor with hor | hor
      · have := h0.1 rfl; omega
      · exact hor f v L hg he
    · rw [if_neg he]
  · intro f' v' L' hg'
    have h0 := hW.obj hg'
    show ObjR g ρ base v' L' _ (H4.at f' (H4.put f _ s.h))
    rw [H4.at_put]
    by_cases hf : f' = f
    · subst hf
      rw [if_pos rfl]
      rw [hobj] at h0
      obtain ⟨h1, h2, h2', c0, fz0, h3, h4, h5, h6⟩ := h0
      by_cases hb : L.blk = L'.blk
      · obtain ⟨_, hsh, hcsz⟩ := hW.inj hg hg' hb
        rw [← hb, hc] at h3
        injection h3 with h3
        injection h3 with h3a h3b h3c
        subst h3a h3c
        refine ⟨h1, h2, h2', c', fz, by rw [heap_put, if_pos hb, if_pos hlt], hsize.trans h4, h5, ?_⟩
        intro n' ch'' hv
        rcases hv with ⟨he1, he2, he3⟩ | hv
        · subst he2 he3
          have := (h6 n ch (by rw [← he1, hi]; exact hhas)).1
          exact ⟨this, by rw [← hsh]; exact hrow⟩
        · obtain ⟨hv1, hv2⟩ := Ver.keep_has hv
          obtain ⟨h7, h8⟩ := h6 n' ch'' (hsub hv1)
          refine ⟨h7, ?_⟩
          intro e he hk
          obtain ⟨hn, xs, hx1, hx2, hx3, hx4⟩ := h8 e he hk
          refine ⟨hn, xs, hx1, hx2, hx3, fun r hr => ?_⟩
          rw [hsame _ (by omega)]
          exact hx4 r hr
      · refine ⟨h1, h2, h2', c0, fz0, by rw [heap_put, if_neg hb]; exact h3, h4, h5, ?_⟩
        intro n' ch'' hv
        rcases hv with ⟨he1, he2, he3⟩ | hv
        · exfalso
          apply hb
          have : v' = v := by rw [← he1, hi]
          subst this
          rw [hg] at hg'
          injection hg' with hg'
          rw [hg']
        · exact h6 n' ch'' (hsub (Ver.keep_has hv).1)
    · rw [if_neg hf]
      refine ObjR.mono (fun _ _ _ h => h) ?_ h0
      rw [heap_put, if_neg]
      intro hb
      exact hf (hW.inj hg hg' hb).1.symm

  · intro f' elem' sz' ro' a' b' vs' v' n' ch'' hf hv
    have hf : H4.at f' (H4.put f _ s.h) = _ := hf
    rw [H4.at_put] at hf
    by_cases he : f' = f
    · rw [if_pos he] at hf
      injection hf with _ _ _ _ _ e6
      subst e6
      rcases hv with ⟨h1, h2, h3⟩ | hv
      · rw [← h1, hi]; exact hW.ids hobj hhas
      · exact hW.ids hobj (hsub (Ver.keep_has hv).1)
    · rw [if_neg he] at hf
      exact hW.ids hf hv

/-- THE NEW BLOCK. -/
def G.add (g : G) (f : K) (v : Nat) (L : Loc) : G := fun f' v' => if f' = f ∧ v' = v then some L else g f' v'

theorem G.le_add {g : G} {f : K} {v : Nat} {L : Loc} (h : g f v = none) : G.le g (G.add g f v L) := by
  intro f' v' L' hg
  unfold G.add
  by_cases he : f' = f ∧ v' = v
  · obtain ⟨rfl, rfl⟩ := he
    rw [h] at hg
    cases hg
  · rw [if_neg he]; exact hg
theorem G.add_same (g : G) (f : K) (v : Nat) (L : Loc) : G.add g f v L f v = some L := by simp [G.add]

theorem WR.alloc {g : G} {ρ : Rho} {base : Nat} {s : St} {w : World} (hW : WR g ρ base s w) (hnone : s.h.at s.nk = .none) (o : Go.Obj) (ob : Obj) (csz : Nat) (nk' : K)
    (hob : ObjR (G.add g s.nk s.nx ⟨w.heap.size, 0, csz⟩) ρ base s.nx ⟨w.heap.size, 0, csz⟩ (w.alloc o) ob)
    (hids : ∀ {elem sz ro a b vs v n ch}, ob = .cells elem sz ro a b vs → Ver.has v n ch vs → v = s.nx) :
    Step g ρ base s w (G.add g s.nk s.nx ⟨w.heap.size, 0, csz⟩) ⟨H4.put s.nk ob s.h, nk', s.nx + 1⟩ (w.alloc o) := by
  have hn : g s.nk s.nx = none := hW.fresh _ _ (Nat.le_refl _)
  have hle := G.le_add (L := ⟨w.heap.size, 0, csz⟩) hn
  have hinv : ∀ {f v L}, G.add g s.nk s.nx ⟨w.heap.size, 0, csz⟩ f v = some L → (f = s.nk ∧ v = s.nx ∧ L = ⟨w.heap.size, 0, csz⟩) ∨ (g f v = some L ∧ f ≠ s.nk) := by
    intro f v L h
    unfold G.add at h
    by_cases he : f = s.nk ∧ v = s.nx
    · rw [if_pos he] at h
      injection h with h
      exact .inl ⟨he.1, he.2, h.symm⟩
    · rw [if_neg he] at h
      refine .inr ⟨h, fun hf => ?_⟩
      have := hW.obj h
      rw [hf, hnone] at this
      exact this
  refine ⟨⟨hle, ?_⟩, ⟨by simp, ?_, rfl, rfl, rfl⟩, ⟨?_, ?_, ?_, ?_, by have := hW.base; simp; omega, ?_, hW.ro_put (by rw [hnone]; intro _ _ _ _ _ h; cases h)⟩, Nat.le_succ _, by
    intro f' v' L' h hv
    simp only [G.add] at h
    split at h
    · rename_i he
      exact absurd hv (by rw [he.2]; exact Nat.lt_irrefl _)
    · exact h⟩
  · intro f v L h hlt
    rcases hinv h with ⟨_, _, rfl⟩ | ⟨h, _⟩
    · simp at hlt
    · exact ⟨f, v, L, h, rfl⟩
  · intro b hb _
    simp only [World.alloc, Array.getElem?_push]
    rw [if_neg (by omega)]
  · intro f v hv
    have hv : s.nx + 1 ≤ v := hv
    unfold G.add
    rw [if_neg (by omega)]
    exact hW.fresh f v (by omega)
  · intro f v f' v' L L' h h' hb
    rcases hinv h with ⟨h1, h2, h3⟩ | ⟨h, hf⟩
    · rcases hinv h' with ⟨h1', h2', h3'⟩ | ⟨h', hf'⟩
      · subst h3 h3'; exact ⟨h1.trans h1'.symm, rfl, rfl⟩
      · have := hW.lt h'
        subst h3
        simp at hb
        omega
    · rcases hinv h' with ⟨h1', h2', h3'⟩ | ⟨h', hf'⟩
      · have := hW.lt h
        subst h3'
        simp at hb
        omega
      · exact hW.inj h h' hb
  · intro f v L h
    rcases hinv h with ⟨_, _, rfl⟩ | ⟨h, _⟩
    · simp
    · have := hW.lt h
      simp
      omega
  · intro f v L h
    show ObjR _ ρ base v L _ (H4.at f (H4.put s.nk ob s.h))
    rw [H4.at_put]
    rcases hinv h with ⟨h1, h2, h3⟩ | ⟨h, hf⟩
    · rw [if_pos h1, h2, h3]
      exact hob
    · rw [if_neg hf]
      refine ObjR.mono hle ?_ (hW.obj h)
      have := hW.lt h
      simp only [World.alloc, Array.getElem?_push]
      rw [if_neg (by omega)]
  · intro f' elem' sz' ro' a' b' vs' v' n' ch'' hf hv
    have hf : H4.at f' (H4.put s.nk ob s.h) = _ := hf
    show v' < s.nx + 1
    rw [H4.at_put] at hf
    by_cases he : f' = s.nk
    · rw [if_pos he] at hf
      rw [hids hf hv]
      exact Nat.lt_succ_self _
    · rw [if_neg he] at hf
      exact Nat.lt_succ_of_lt (hW.ids hf hv)

/-- A NEW VERSION OF A ROW, in the same block: cells from nv on are written. -/
theorem WR.extend {g : G} {ρ : Rho} {base : Nat} {s : St} {w : World} (hW : WR g ρ base s w) {f : K} {v : Nat} {L : Loc} (hg : g f v = some L)
    {elem sz flo fhi : Nat} {vs : Ver} (hobj : s.h.at f = .cells elem sz false flo fhi vs) {i nv n' m : Nat} {ch ch' : V} {rest : Ver}
    (hfrom : Ver.from v vs = .more i nv ch rest) (ho : L.sh ≤ nv) {c c' : Array Value} {fz : Nat × Nat} (hc : w.heap[L.blk]? = some (.cells c elem fz)) (hsize : c'.size = c.size)
    (hsame : ∀ k, ¬ (nv - L.sh ≤ k) → c'[k]? = c[k]?) (hn : n' ≤ L.sh + L.csz) (hrow : RowR g ρ sz L.sh n' ch' c') :
    Step g ρ base s w (G.add g f s.nx L) ⟨H4.put f (.cells elem sz false flo fhi (.more s.nx n' ch' (Ver.trim m (.more i nv ch (Ver.keep nv rest))))) s.h, s.nk, s.nx + 1⟩ (World.put w L.blk (.cells c' elem fz)) := by
  have hnone := hW.fresh f s.nx (Nat.le_refl _)
  have hle := G.le_add (L := L) hnone
  have hlt := hW.lt hg
  obtain ⟨hi, hhas, hsub⟩ := Ver.from_more hfrom
  have hinv : ∀ {f' v' L'}, G.add g f s.nx L f' v' = some L' → (f' = f ∧ v' = s.nx ∧ L' = L) ∨ g f' v' = some L' := by
    intro f' v' L' h
    unfold G.add at h
    by_cases he : f' = f ∧ v' = s.nx
    · rw [if_pos he] at h; injection h with h; exact .inl ⟨he.1, he.2, h.symm⟩
    · rw [if_neg he] at h; exact .inr h
  have hinv' : ∀ {f' v' L'}, G.add g f s.nx L f' v' = some L' → ∃ v0, g f' v0 = some L' := by
    intro f' v' L' h
    rcases hinv h with ⟨h1, h2, h3⟩ | h
    · exact ⟨v, by rw [h1, h3]; exact hg⟩
    · exact ⟨v', h⟩
  refine ⟨⟨hle, ?_⟩, ⟨by simp [World.put], ?_, rfl, rfl, rfl⟩, ⟨?_, ?_, ?_, ?_, by simpa [World.put] using hW.base, ?_, hW.ro_put (by rw [hobj]; intro _ _ _ _ _ h; cases h)⟩, Nat.le_succ _, by
    intro f' v' L' h hv
    simp only [G.add] at h
    split at h
    · rename_i he
      exact absurd hv (by rw [he.2]; exact Nat.lt_irrefl _)
    · exact h⟩
  · intro f' v' L' h _
    obtain ⟨v0, h0⟩ := hinv' h
    exact ⟨f', v0, L', h0, rfl⟩
  · intro b hb hor
    rw [heap_put]
    by_cases he : L.blk = b
    · exfalso
      have h0 := hW.obj hg
      rw [hobj] at h0
      rcases hor with hor | hor
      · have := h0.1 rfl; omega
      · exact hor f v L hg he
    · rw [if_neg he]
  · intro f' v' hv
    have hv : s.nx + 1 ≤ v' := hv
    unfold G.add
    rw [if_neg (by omega)]
    exact hW.fresh f' v' (by omega)
  · intro f1 v1 f2 v2 L1 L2 h1 h2 hb
    obtain ⟨_, h1⟩ := hinv' h1
    obtain ⟨_, h2⟩ := hinv' h2
    exact hW.inj h1 h2 hb
  · intro f' v' L' h
    obtain ⟨_, h⟩ := hinv' h
    have := hW.lt h
    simpa [World.put] using this
  · intro f' v' L' h
    show ObjR _ ρ base v' L' _ (H4.at f' (H4.put f _ s.h))
    rw [H4.at_put]
    by_cases hf : f' = f
    · rw [if_pos hf]
      subst hf
      obtain ⟨v0, hv0⟩ := hinv' h
      have h0 := hW.obj hv0
      rw [hobj] at h0
      obtain ⟨h1, h2, h2', c0, fz0, h3, h4, h5, h6⟩ := h0
      -- the cells behind L'
      obtain ⟨c1, fz1, k1, k2, k3, k4⟩ : ∃ c1 fz1, (World.put w L.blk (.cells c' elem fz)).heap[L'.blk]? = some (.cells c1 elem fz1) ∧ c1.size = L'.csz ∧
          (fz1.1 ≤ fz1.2 ∧ ∀ i, fz1.1 ≤ i → i < fz1.2 → flo ≤ i + L'.sh ∧ i + L'.sh < fhi) ∧ (∀ k, ¬ (nv - L'.sh ≤ k) → c1[k]? = c0[k]?) := by
        by_cases hb : L.blk = L'.blk
        · obtain ⟨_, hsh, hcsz⟩ := hW.inj hg hv0 hb
          rw [← hb, hc] at h3
          injection h3 with h3
          injection h3 with h3a h3b h3c
          subst h3a h3c
          exact ⟨c', fz, by rw [heap_put, if_pos hb, if_pos hlt], hsize.trans h4, h5, by rw [← hsh]; exact hsame⟩
        · exact ⟨c0, fz0, by rw [heap_put, if_neg hb]; exact h3, h4, h5, fun _ _ => rfl⟩
      refine ⟨h1, h2, h2', c1, fz1, k1, k2, k3, ?_⟩
      intro n'' ch'' hv
      rcases hv with ⟨he1, he2, he3⟩ | hv
      · subst he2 he3
        rcases hinv h with ⟨_, _, e3⟩ | h
        · subst e3
          rw [heap_put, if_pos rfl, if_pos hlt] at k1
          injection k1 with k1
          injection k1 with k1
          subst k1
          exact ⟨hn, hrow.mono hle⟩
        · rw [← he1, hnone] at h; cases h
      · have hv := Ver.trim_has hv
        have hold : Ver.has v' n'' ch'' vs ∧ n'' ≤ nv := by
          rcases hv with ⟨e1, e2, e3⟩ | hv
          · exact ⟨by rw [← e1, ← e2, ← e3, hi]; exact hhas, by omega⟩
          · obtain ⟨q1, q2⟩ := Ver.keep_has hv
            exact ⟨hsub q1, q2⟩
        have hlt' := hW.ids hobj hold.1
        rcases hinv h with ⟨_, e2, _⟩ | h
        · omega
        · have h0 := hW.obj h
          rw [hobj] at h0
          obtain ⟨_, _, _, c0', fz0', h3', _, _, h6'⟩ := h0
          rw [h3] at h3'
          injection h3' with h3'
          injection h3' with h3a
          subst h3a
          obtain ⟨h7, h8⟩ := h6' n'' ch'' hold.1
          refine ⟨h7, ?_⟩
          intro e he hk
          obtain ⟨hn0, xs, hx1, hx2, hx3, hx4⟩ := h8 e he hk
          refine ⟨hn0, xs, hx1.mono hle, hx2, hx3, fun r hr => ?_⟩
          rw [k4 _ (by omega)]
          exact hx4 r hr
    · rw [if_neg hf]
      rcases hinv h with ⟨e1, _, _⟩ | h
      · exact absurd e1 hf
      · refine ObjR.mono hle ?_ (hW.obj h)
        rw [heap_put, if_neg]
        intro hb
        exact hf (hW.inj hg h hb).1.symm
  · intro f' elem' sz' ro' a' b' vs' v' n'' ch'' hf hv
    have hf : H4.at f' (H4.put f _ s.h) = _ := hf
    show v' < s.nx + 1
    rw [H4.at_put] at hf
    by_cases he : f' = f
    · rw [if_pos he] at hf
      injection hf with _ _ _ _ _ e6
      subst e6
      rcases hv with ⟨h1, h2, h3⟩ | hv
      · omega
      · rcases Ver.trim_has hv with ⟨e1, e2, e3⟩ | hv
        · have := hW.ids hobj hhas; omega
        · have := hW.ids hobj (hsub (Ver.keep_has hv).1); omega
    · rw [if_neg he] at hf
      exact Nat.lt_succ_of_lt (hW.ids hf hv)

/-- A NEW VERSION OF A ROW, in a block of its own: its cells begin at place sh. -/
theorem WR.moved {g : G} {ρ : Rho} {base : Nat} {s : St} {w : World} (hW : WR g ρ base s w) {f : K} {v : Nat} {L : Loc} (hg : g f v = some L)
    {elem sz flo fhi : Nat} {vs : Ver} (hobj : s.h.at f = .cells elem sz false flo fhi vs) {i nv n' m sh : Nat} {ch ch' : V} {rest : Ver}
    (hfrom : Ver.from v vs = .more i nv ch rest) (hsh : sz ∣ sh) {c' : Array Value} (hn : n' ≤ sh + c'.size) (hrow : RowR g ρ sz sh n' ch' c') :
    Step g ρ base s w (G.add g f s.nx ⟨w.heap.size, sh, c'.size⟩) ⟨H4.put f (.cells elem sz false flo fhi (.more s.nx n' ch' (Ver.trim m (.more i nv ch (Ver.keep nv rest))))) s.h, s.nk, s.nx + 1⟩
      (w.alloc (.cells c' elem)) := by
  have hnone := hW.fresh f s.nx (Nat.le_refl _)
  have hle := G.le_add (L := ⟨w.heap.size, sh, c'.size⟩) hnone
  obtain ⟨hi, hhas, hsub⟩ := Ver.from_more hfrom
  have hinv : ∀ {f' v' L'}, G.add g f s.nx ⟨w.heap.size, sh, c'.size⟩ f' v' = some L' → (f' = f ∧ v' = s.nx ∧ L' = ⟨w.heap.size, sh, c'.size⟩) ∨ g f' v' = some L' := by
    intro f' v' L' h
    unfold G.add at h
    by_cases he : f' = f ∧ v' = s.nx
    · rw [if_pos he] at h; injection h with h; exact .inl ⟨he.1, he.2, h.symm⟩
    · rw [if_neg he] at h; exact .inr h
  have hold : ∀ b, b < w.heap.size → (w.alloc (.cells c' elem)).heap[b]? = w.heap[b]? := by
    intro b hb
    simp only [World.alloc, Array.getElem?_push]
    rw [if_neg (by omega)]
  refine ⟨⟨hle, ?_⟩, ⟨by simp, fun b hb _ => hold b hb, rfl, rfl, rfl⟩, ⟨?_, ?_, ?_, ?_, by have := hW.base; simp; omega, ?_, hW.ro_put (by rw [hobj]; intro _ _ _ _ _ h; cases h)⟩, Nat.le_succ _, by
    intro f' v' L' h hv
    simp only [G.add] at h
    split at h
    · rename_i he
      exact absurd hv (by rw [he.2]; exact Nat.lt_irrefl _)
    · exact h⟩
  · intro f' v' L' h hlt
    rcases hinv h with ⟨_, _, rfl⟩ | h
    · simp at hlt
    · exact ⟨f', v', L', h, rfl⟩
  · intro f' v' hv
    have hv : s.nx + 1 ≤ v' := hv
    unfold G.add
    rw [if_neg (by omega)]
    exact hW.fresh f' v' (by omega)
  · intro f1 v1 f2 v2 L1 L2 h1 h2 hb
    rcases hinv h1 with ⟨a1, a2, a3⟩ | h1
    · rcases hinv h2 with ⟨b1, b2, b3⟩ | h2
      · subst a3 b3; exact ⟨a1.trans b1.symm, rfl, rfl⟩
      · have := hW.lt h2; subst a3; simp at hb; omega
    · rcases hinv h2 with ⟨b1, b2, b3⟩ | h2
      · have := hW.lt h1; subst b3; simp at hb; omega
      · exact hW.inj h1 h2 hb
  · intro f' v' L' h
    rcases hinv h with ⟨_, _, rfl⟩ | h
    · simp
    · have := hW.lt h; simp; omega
  · intro f' v' L' h
    show ObjR _ ρ base v' L' _ (H4.at f' (H4.put f _ s.h))
    rw [H4.at_put]
    by_cases hf : f' = f
    · rw [if_pos hf]
      rcases hinv h with ⟨_, e2, rfl⟩ | h
      · have h0 := hW.obj hg
        rw [hobj] at h0
        refine ⟨fun _ => hW.base, hsh, h0.2.2.1, c', (0, 0), by simp only [World.alloc, Array.getElem?_push_size], rfl, ⟨Nat.le_refl 0, fun i h1 h2 => absurd h2 (Nat.not_lt_zero _)⟩, ?_⟩
        intro n'' ch'' hv
        rcases hv with ⟨he1, he2, he3⟩ | hv
        · subst he2 he3
          exact ⟨hn, hrow.mono hle⟩
        · exfalso
          rcases Ver.trim_has hv with ⟨e1, _, _⟩ | hv
          · have := hW.ids hobj hhas; omega
          · have := hW.ids hobj (hsub (Ver.keep_has hv).1); omega
      · have h0 := hW.obj h
        rw [hf, hobj] at h0
        obtain ⟨h1, h2, h2', c0, fz0, h3, h4, h5, h6⟩ := h0
        refine ⟨h1, h2, h2', c0, fz0, (hold _ (hW.lt h)).trans h3, h4, h5, ?_⟩
        intro n'' ch'' hv
        have hhas' : Ver.has v' n'' ch'' vs := by
          rcases hv with ⟨he1, he2, he3⟩ | hv
          · rw [← he1, hf, hnone] at h; cases h
          · rcases Ver.trim_has hv with ⟨e1, e2, e3⟩ | hv
            · rw [← e1, ← e2, ← e3, hi]; exact hhas
            · exact hsub (Ver.keep_has hv).1
        exact ⟨(h6 _ _ hhas').1, (h6 _ _ hhas').2.mono hle⟩
    · rw [if_neg hf]
      rcases hinv h with ⟨e1, _, _⟩ | h
      · exact absurd e1 hf
      · exact ObjR.mono hle (hold _ (hW.lt h)) (hW.obj h)
  · intro f' elem' sz' ro' a' b' vs' v' n'' ch'' hf hv
    have hf : H4.at f' (H4.put f _ s.h) = _ := hf
    show v' < s.nx + 1
    rw [H4.at_put] at hf
    by_cases he : f' = f
    · rw [if_pos he] at hf
      injection hf with _ _ _ _ _ e6
      subst e6
      rcases hv with ⟨h1, h2, h3⟩ | hv
      · omega
      · rcases Ver.trim_has hv with ⟨e1, e2, e3⟩ | hv
        · have := hW.ids hobj hhas; omega
        · have := hW.ids hobj (hsub (Ver.keep_has hv).1); omega
    · rw [if_neg he] at hf
      exact Nat.lt_succ_of_lt (hW.ids hf hv)
end Go.Ev
