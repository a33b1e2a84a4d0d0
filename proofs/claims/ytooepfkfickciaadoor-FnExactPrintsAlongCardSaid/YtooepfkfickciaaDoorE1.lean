/-
  What is proved here: an evaluator of the model's code, and that what it comes to holds of the code. Conditions: those that each theorem names; none beyond.
-/
import Derived.Orders
import Derived.KernelRfl
import Derived.Below
import Derived.Laws.AppendOwn
import Derived.Deep.MidRow
import Derived.Laws.Entries
import Derived.Laws.Strings
import Derived.Maps.Keyed
import Derived.Laws.IdiomStrings
import Derived.Laws.Tables
/- A typed abstract evaluator over the model's code: values without memory, own objects by number. -/
namespace Ev
open Go

/-- What a value is, told without memory. -/
inductive T where
  | i (k : IntKind) | b | s | un | er
  | pr (x y : T)
  | ar (n : Nat) (t : T)
  | sl (t : T)
  | mp (k v : T)
  | pt (t : T)
  | fn (x y : T)
  | tu (t : T)
  deriving DecidableEq, Repr, Inhabited

@[reducible] def T.in : T → Type
  | .i _ => Int
  | .b => Bool
  | .s => List Int
  | .un => Unit
  | .er => Bool
  | .pr x y => x.in × y.in
  | .ar _ t => List t.in
  | .sl t => List t.in
  | .mp k v => List (k.in × v.in)
  | .pt t => Option t.in
  | .fn x y => x.in → Option y.in
  | .tu t => t.in

/-- The zero value. -/
def T.zero : (t : T) → t.in
  | .i _ => (0 : Int)
  | .b => false
  | .s => ([] : List Int)
  | .un => ()
  | .er => false
  | .pr x y => (x.zero, y.zero)
  | .ar n t => List.replicate n t.zero
  | .sl _ => []
  | .mp _ _ => []
  | .pt _ => none
  | .fn _ _ => fun _ => none
  | .tu t => t.zero

/-- How many cells. -/
def T.sz : T → Nat
  | .un => 0
  | .pr x y => x.sz + y.sz
  | .ar n t => n * t.sz
  | _ => 1

/-- Does no value of the type lead to memory? -/
def T.flat : T → Bool
  | .i _ | .b | .s | .un | .er => true
  | .pr x y => x.flat && y.flat
  | .ar _ t => t.flat
  | .tu t => t.flat
  | _ => false

def eqL {α : Type} (f : α → α → Bool) : List α → List α → Bool
  | [], [] => true
  | x :: r, y :: s => f x y && eqL f r s
  | _, _ => false
/-- Equality of values that lead to no memory, as the program tells it. -/
def T.eqv : (t : T) → t.in → t.in → Bool
  | .i _, p, q => decide ((p : Int) = q)
  | .b, p, q => decide ((p : Bool) = q)
  | .s, p, q => decide ((p : List Int) = q)
  | .pr x y, p, q => x.eqv p.1 q.1 && y.eqv p.2 q.2
  | .un, _, _ => true
  | .ar _ t, p, q => eqL t.eqv p q
  | _, _, _ => false

/-- May values of the type be compared here? -/
def T.cmp : T → Bool
  | .i _ | .b | .s | .un => true
  | .pr x y => x.cmp && y.cmp
  | .ar _ t => t.cmp
  | _ => false

def T.cast (t u : T) (x : t.in) : Option u.in := if h : t = u then some (h ▸ x) else none

inductive Stp where
  | f (n : Nat)
  | x (i : Nat)
  deriving Repr, Inhabited

inductive AV where
  | val (t : T) (x : t.in)
  | nil (k : Nat)   -- 0 a pointer, 1 a slice, 2 a map, 3 a function, 4 an interface
  | ptr (o : Nat) (p : List Stp)
  | elp (o : Nat) (i : Nat) (p : List Stp)
  | sl (o : Nat)
  | ssl (o : Nat) (lo n : Nat)
  | mp (o : Nat)
  | agg (fs : List AV)
  | tup (vs : List AV)
  | clo (g : FuncId) (first caps : List AV)
  | dead
instance : Inhabited AV := ⟨.dead⟩

inductive Ob where
  | arr (e : TypeId) (t : T) (l : List t.in) (k : Nat)   -- k: 0 may grow, 1 may be written, 2 is read alone
  | box (e : TypeId) (v : AV)
  | map (m : TypeId) (k v : T) (l : List (k.in × v.in)) (ro : Bool)
  | gone
instance : Inhabited Ob := ⟨.gone⟩

structure St where
  n : Nat
  sl : Nat → AV
  hp : Nat → Ob
  nx : Nat

def St.put (s : St) (d : Option Nat) (v : AV) : St :=
  match d with
  | some d => if Nat.blt d s.n = true then { s with sl := fun j => if Nat.beq j d = true then v else s.sl j } else s
  | none => s
def St.set (s : St) (o : Nat) (x : Ob) : St := { s with hp := fun j => if Nat.beq j o = true then x else s.hp j }
def St.new (s : St) (x : Ob) : St := { s with hp := fun j => if Nat.beq j s.nx = true then x else s.hp j, nx := s.nx + 1 }

/-- One level of a type's description. -/
inductive D where
  | sc
  | st (fs : List TypeId)
  | ar (n : Nat) (e : TypeId)
  | sl (e : TypeId)
  | pt (e : TypeId)
  | mp (k v : TypeId)
  | ot
  deriving Repr, Inhabited

/-- A parameter: read alone, a slice of the caller's own that may be written, or a variable of the caller's own that may be written. -/
inductive PM where
  | v (t : T)
  | io (e : TypeId) (t : T)
  | ib (e : TypeId) (t : T)
  deriving Inhabited
@[reducible] def PM.in : PM → Type
  | .v t => t.in
  | .io _ t => List t.in
  | .ib _ t => t.in
@[reducible] def PM.out : PM → Type
  | .v _ => Unit
  | .io _ t => List t.in
  | .ib _ t => t.in
@[reducible] def PIn : List PM → Type
  | [] => Unit
  | m :: r => m.in × PIn r
@[reducible] def POut : List PM → Type
  | [] => Unit
  | .v _ :: r => POut r
  | m :: r => m.out × POut r
/-- What comes back: the result, and behind it what the written parameters hold. -/
@[reducible] def Ret : List PM → Type → Type
  | [], A => A
  | .v _ :: r, A => Ret r A
  | m :: r, A => A × Ret r m.out
def retMk : (ps : List PM) → {A : Type} → A → POut ps → Ret ps A
  | [], _, a, _ => a
  | .v _ :: r, _, a, p => retMk r a p
  | .io _ _ :: r, _, a, p => (a, retMk r p.1 p.2)
  | .ib _ _ :: r, _, a, p => (a, retMk r p.1 p.2)
def retRes : (ps : List PM) → {A : Type} → Ret ps A → A
  | [], _, a => a
  | .v _ :: r, _, a => retRes r a
  | .io _ _ :: _, _, a => a.1
  | .ib _ _ :: _, _, a => a.1
def retOut : (ps : List PM) → {A : Type} → Ret ps A → POut ps
  | [], _, _ => ()
  | .v _ :: r, _, a => retOut r a
  | .io _ _ :: r, _, a => (retRes r a.2, retOut r a.2)
  | .ib _ _ :: r, _, a => (retRes r a.2, retOut r a.2)

/-- A result: read alone, or a new slice. -/
inductive RT where
  | v (t : T)
  | o (e : TypeId) (t : T)
  | un
  | pr (x y : RT)
  deriving Inhabited
@[reducible] def RT.in : RT → Type
  | .v t => t.in
  | .o _ t => List t.in
  | .un => Unit
  | .pr x y => x.in × y.in

structure Orc where
  ps : List PM
  rt : RT
  F : PIn ps → Option (Ret ps rt.in)

/-- What is kept of a slot where a loop begins or ways meet. -/
inductive Sh where
  | v (t : T)
  | o (e : TypeId) (t : T)
  | m (m : TypeId) (k v : T)
  | bx (e : TypeId) (s : Sh)
  | w (e : TypeId) (t : T)   -- a slice that may be written, not grown
  | un
  | pr (x y : Sh)
  | al (j : Nat)   -- the same slice as slot j
  deriving Inhabited
@[reducible] def Sh.in : Sh → Type
  | .v t => t.in
  | .o _ t => List t.in
  | .w _ t => List t.in
  | .m _ k e => List (k.in × e.in)
  | .bx _ s => s.in
  | .un => Unit
  | .pr x y => x.in × y.in
  | .al _ => Unit

structure Env where
  ty : TypeId → Option T
  ds : TypeId → D
  orc : FuncId → Option Orc
  rounds : Nat
  nt : Nat
  lp : Nat → Option (List (Nat × Sh))
  ct : Nat → Option (List (Nat × Sh))
  plan : Nat → Option (List (Nat × List Nat)) := fun _ => none

end Ev
/- The evaluator. -/
namespace Ev
open Go

def strL (s : ByteArray) : List Int := s.data.toList.map fun c => (c.toNat : Int)
def T.isAgg : T → Bool
  | .pr _ _ | .un | .ar _ _ => true
  | _ => false
def constAV : Value → AV
  | .bool b => .val .b b
  | .int .u8 n => if decide (0 ≤ n) && decide (n ≤ 255) then .val (.i .u8) n else .dead
  | .int k n => .val (.i k) n
  | .string s => .val .s (strL s)
  | .pointer none => .nil 0
  | .slice none 0 0 => .nil 1
  | .map none => .nil 2
  | .nilFunc => .nil 3
  | .nilIface => .nil 4
  | _ => .dead
def St.op (s : St) : Operand → AV
  | .tmp t => s.sl t
  | .const v => constAV v
  | .global _ => .dead
  | .func f => .clo f [] []

def nilOf : (t : T) → Nat → Option t.in
  | .sl _, 1 => some []
  | .mp _ _, 2 => some []
  | .pt _, 0 => some none
  | .er, 4 => some false
  | _, _ => none
def nilT : T → Nat → Bool
  | .sl _, 1 | .mp _ _, 2 | .pt _, 0 | .er, 4 => true
  | _, _ => false

/-- A result's type: alone, and as the rest of a tuple. -/
def RT.tt : RT → T × T
  | .v t => (t, t)
  | .o _ t => (.sl t, .sl t)
  | .un => (.tu .un, .un)
  | .pr x y => (.tu (.pr x.tt.1 y.tt.2), .pr x.tt.1 y.tt.2)
def RT.vv : (r : RT) → r.in → r.tt.1.in × r.tt.2.in
  | .v _, x => (x, x)
  | .o _ _, x => (x, x)
  | .un, _ => ((), ())
  | .pr x y, p => (((x.vv p.1).1, (y.vv p.2).2), ((x.vv p.1).1, (y.vv p.2).2))
def RT.toT (r : RT) : T := r.tt.1
def RT.inT (r : RT) (x : r.in) : r.toT.in := (r.vv x).1

/-- What a function value is handed: what was bound first, what comes in typed, then what was captured. -/
def fnArgs (sn : (t : T) → AV → Option t.in) : (ps : List PM) → (x : T) → x.in → List AV → List AV → Option (PIn ps)
  | [], .un, _, [], [] => some ()
  | .v t :: ps, x, a, c :: first, caps => match sn t c with
    | some v => match fnArgs sn ps x a first caps with
      | some r => some (v, r)
      | none => none
    | none => none
  | .v t :: ps, .pr x y, a, [], caps => match T.cast x t a.1 with
    | some v => match fnArgs sn ps y a.2 [] caps with
      | some r => some (v, r)
      | none => none
    | none => none
  | .v t :: ps, .un, _, [], c :: caps => match sn t c with
    | some v => match fnArgs sn ps .un () [] caps with
      | some r => some (v, r)
      | none => none
    | none => none
  | _, _, _, _, _ => none
/-- A call of a function value. -/
def fnCall (sn : (t : T) → AV → Option t.in) (o : Orc) (y x : T) (first caps : List AV) (a : x.in) : Option y.in :=
  match fnArgs sn o.ps x a first caps with
  | some p => (o.F p).bind fun r => T.cast o.rt.toT y (o.rt.inT (retRes o.ps r))
  | none => none

/-- What a value tells, memory left behind. -/
def snap (E : Env) (st : St) : Nat → (t : T) → AV → Option t.in
  | 0, _, _ => none
  | n + 1, t, av =>
    match av with
    | .val u x => T.cast u t x
    | .nil k => nilOf t k
    | .sl o => match st.hp o with
      | .arr _ u l _ => T.cast (.sl u) t l
      | _ => none
    | .ssl o lo m => match st.hp o with
      | .arr _ u l _ => T.cast (.sl u) t ((l.drop lo).take m)
      | _ => none
    | .mp o => match st.hp o with
      | .map _ k v l _ => T.cast (.mp k v) t l
      | _ => none
    | .ptr o [] => match t, st.hp o with
      | .pt u, .box _ v => match snap E st n u v with
        | some x => some (some x)
        | none => none
      | _, _ => none
    | .agg [] => match t with
      | .un => some ()
      | _ => none
    | .agg (v :: r) => match t with
      | .pr x y => match snap E st n x v with
        | some a => match snap E st n y (.agg r) with
          | some b => some (a, b)
          | none => none
        | none => none
      | _ => none
    | .clo g first caps => match t with
      | .fn x y => match E.orc g with
        | some o => some (fnCall (snap E st n) o y x first caps)
        | none => none
      | _ => none
    | _ => none

/-- Which objects a reading touches. -/
def touch (st : St) : Nat → AV → List Nat
  | 0, _ => []
  | n + 1, av =>
    match av with
    | .sl o | .ssl o _ _ | .mp o => [o]
    | .ptr o _ => match st.hp o with
      | .box _ v => o :: touch st n v
      | _ => [o]
    | .elp o _ _ => [o]
    | .agg [] => []
    | .agg (v :: r) => touch st n v ++ touch st n (.agg r)
    | .clo _ first caps => (first ++ caps).flatMap (touch st n)
    | .tup [] => []
    | .tup (v :: r) => touch st n v ++ touch st n (.tup r)
    | _ => []
def Ob.toRo : Ob → Ob
  | .arr e t l _ => .arr e t l 2
  | .map m k v l _ => .map m k v l true
  | _ => .gone
def St.ro (s : St) (ids : List Nat) : St := ids.foldl (fun s o => s.set o (s.hp o).toRo) s

def DEPTH : Nat := 24
def sn (E : Env) (st : St) (t : T) (av : AV) : Option t.in := snap E st 24 t av
def tch (st : St) (av : AV) : List Nat := touch st 24 av

def dec {R : Type} (av : AV) (K : Bool → Option R) : Option R :=
  match av with
  | .val .b x => if x = true then K true else K false
  | _ => none

def readT : (t : T) → t.in → List Stp → AV
  | t, x, [] => .val t x
  | .pr x _, p, .f 0 :: r => readT x p.1 r
  | .pr _ y, p, .f (n + 1) :: r => readT y p.2 (.f n :: r)
  | .ar _ u, l, .x i :: r => readT u (l.getD i u.zero) r
  | _, _, _ => .dead
def readA : AV → List Stp → AV
  | v, [] => v
  | .val t x, p => readT t x p
  | .agg fs, .f n :: r => match fs[n]? with
    | some v => readA v r
    | none => .dead
  | _, _ => .dead
/-- A value stored at a place within a value. -/
def setT (σ : (u : T) → Option u.in) : (t : T) → t.in → List Stp → Option t.in
  | t, _, [] => σ t
  | .pr x _, p, .f 0 :: r => match setT σ x p.1 r with
    | some v => some (v, p.2)
    | none => none
  | .pr _ y, p, .f (n + 1) :: r => match setT σ y p.2 (.f n :: r) with
    | some v => some (p.1, v)
    | none => none
  | .ar _ u, l, .x i :: r => match setT σ u (l.getD i u.zero) r with
    | some v => some (l.set i v)
    | none => none
  | _, _, _ => none

/-- Is the value one of the type? -/
def conf (E : Env) (st : St) : Nat → T → AV → Bool
  | 0, _, _ => false
  | n + 1, t, av =>
    match av with
    | .val u _ => decide (u = t)
    | .nil k => nilT t k
    | .sl o => match t, st.hp o with
      | .sl u, .arr _ u' _ _ => decide (u' = u)
      | _, _ => false
    | .mp o => match t, st.hp o with
      | .mp k v, .map _ k' v' _ _ => decide (k' = k) && decide (v' = v)
      | _, _ => false
    | .ptr o [] => match t, st.hp o with
      | .pt u, .box e _ => decide (E.ty e = some u)
      | _, _ => false
    | .agg [] => decide (t = .un)
    | .agg (v :: r) => match t with
      | .pr x y => conf E st n x v && conf E st n y (.agg r)
      | _ => false
    | _ => false
def cf (E : Env) (st : St) (t : T) (av : AV) : Bool := conf E st 24 t av
def setV (E : Env) (st : St) (w : AV) (u : T) (x : u.in) (p : List Stp) : Option AV :=
  match setT (fun u => sn E st u w) u x p with
  | some y => some (.val u y)
  | none => none
/-- The type of the n-th field. -/
def fT : T → Nat → Option T
  | .pr x _, 0 => some x
  | .pr _ y, n + 1 => fT y n
  | _, _ => none
def setA (E : Env) (st : St) : T → AV → List Stp → AV → Option AV
  | t, _, [], w => if cf E st t w = true then some w else none
  | t, .val u x, s :: r, w => if u = t then setV E st w u x (s :: r) else none
  | t, .agg fs, .f n :: r, w => match fs[n]?, fT t n with
    | some v, some t' => match setA E st t' v r w with
      | some v' => some (.agg (fs.set n v'))
      | none => none
    | _, _ => none
  | _, _, _, _ => none
/-- Does the store keep what the value leads to as the variable's own? -/
def keeps : AV → List Stp → Bool
  | _, [] => true
  | .agg fs, .f n :: r => match fs[n]? with
    | some v => keeps v r
    | none => false
  | _, _ => false

/-- The zero value of a variable: slices in it are the variable's own. -/
def zeroAV (E : Env) : Nat → TypeId → St → Option (AV × St)
  | 0, _, _ => none
  | n + 1, ty, st =>
    match E.ty ty with
    | none => none
    | some t =>
      if t.flat then some (.val t t.zero, st) else
      match E.ds ty with
      | .sl e => match E.ty e with
        | some u => some (.sl st.nx, st.new (.arr e u [] 0))
        | none => none
      | .st fs => match fs.foldr (fun f acc => match acc with
            | some (l, s) => match zeroAV E n f s with
              | some (v, s') => some (v :: l, s')
              | none => none
            | none => none) (some ([], st)) with
        | some (l, s) => some (.agg l, s)
        | none => none
      | _ => some (.val t t.zero, st)

/-- 0 ≤ i < n, or nothing. -/
def inb {R : Type} (i : Int) (n : Nat) (K : Option R) : Option R := if 0 ≤ i then if i < (n : Int) then K else none else none
def rdT (t : T) (l : List t.in) (i : Int) : t.in := l.getD i.toNat t.zero
/-- The most elements that a slice of the evaluator's may have. -/
def most : Nat := 17179869184

def lk (k v : T) (l : List (k.in × v.in)) (x : k.in) : Option v.in :=
  match l.find? (fun p => k.eqv x p.1) with
  | some p => some p.2
  | none => none
def up (k v : T) : List (k.in × v.in) → k.in → v.in → List (k.in × v.in)
  | [], x, y => [(x, y)]
  | p :: r, x, y => if k.eqv x p.1 = true then (p.1, y) :: r else p :: up k v r x y

end Ev
/- The evaluator's operations and code. -/
namespace Ev
open Go

section
variable {R : Type}

/-- '& | ^ &^' as the model reckons them. -/
def bitsI (op : BinOp) (k : IntKind) (x y : Int) : Int :=
  let a := BitVec.ofInt k.bits x
  let b := BitVec.ofInt k.bits y
  k.wrap ((match op with
    | .and => a &&& b
    | .or => a ||| b
    | .xor => a ^^^ b
    | _ => a &&& ~~~b : BitVec k.bits).toNat : Int)

def binInt (op : BinOp) (k : IntKind) (a b : Int) (K : AV → Option R) : Option R :=
  match op with
  | .add => K (.val (.i k) (k.wrap (a + b)))
  | .sub => K (.val (.i k) (k.wrap (a - b)))
  | .mul => K (.val (.i k) (k.wrap (a * b)))
  | .quo => if b = 0 then none else K (.val (.i k) (k.wrap (a.tdiv b)))
  | .rem => if b = 0 then none else K (.val (.i k) (a.tmod b))
  | .and | .or | .xor | .andNot => K (.val (.i k) (bitsI op k a b))
  | .eql => K (.val .b (decide (a = b)))
  | .neq => K (.val .b (!decide (a = b)))
  | .lss => K (.val .b (decide (a < b)))
  | .leq => K (.val .b (decide (a ≤ b)))
  | .gtr => K (.val .b (decide (b < a)))
  | .geq => K (.val .b (decide (b ≤ a)))
  | _ => none
def lessL : List Int → List Int → Bool
  | _, [] => false
  | [], _ :: _ => true
  | a :: x, b :: y => decide (a < b) || (decide (a = b) && lessL x y)
def binStr (op : BinOp) (a b : List Int) (K : AV → Option R) : Option R :=
  match op with
  | .add => if a.length + b.length ≤ 17179869184 then K (.val .s (a ++ b)) else none
  | .eql => K (.val .b (decide (a = b)))
  | .neq => K (.val .b (!decide (a = b)))
  | .lss => K (.val .b (lessL a b))
  | .leq => K (.val .b (lessL a b || decide (a = b)))
  | .gtr => K (.val .b (!(lessL a b || decide (a = b))))
  | .geq => K (.val .b (!lessL a b))
  | _ => none
def isShift : BinOp → Bool
  | .shl | .shr => true
  | _ => false
def neg1 (op : BinOp) (x : Bool) (K : AV → Option R) : Option R :=
  match op with
  | .eql => K (.val .b x)
  | .neq => K (.val .b (!x))
  | _ => none
def isC : Operand → Bool
  | .const _ => true
  | _ => false
def eTy (E : Env) (ty : TypeId) (u : T) : Bool :=
  match E.ty ty with
  | some t => decide (t = u)
  | none => false
/-- A list that is not empty. -/
def nonE {α R : Type} (l : List α) (K : Option R) : Option R :=
  match l with
  | [] => none
  | _ :: _ => K
def evBin (E : Env) (op : BinOp) (ty : TypeId) (c : Bool) (x y : AV) (st : St) (K : AV → Option R) : Option R :=
  match x, y with
  | .val (.i k) a, .val (.i k') b =>
    if isShift op = true then
      (if 0 ≤ b then (match op with
        | .shl => K (.val (.i k) (k.wrap (a * 2 ^ min b.toNat k.bits)))
        | _ => K (.val (.i k) (a.fdiv (2 ^ min b.toNat k.bits)))) else none)
    else if k = k' then binInt op k a b K else none
  | .val .s a, .val .s b => binStr op a b K
  | .val .b a, .val .b b => if eTy E ty .b = true then neg1 op (decide (a = b)) K else none
  | .val (.sl _) l, .nil 1 => (match E.ds ty with
    | .sl _ => nonE l (neg1 op false K)
    | _ => none)
  | .val .er a, .nil 4 => if c = true then (if eTy E ty .er = true then neg1 op (!a) K else none) else none
  | _, _ => match E.ty ty with
    | some t => if t.cmp = true then (if t.isAgg = true then (match sn E st t x, sn E st t y with
        | some a, some b => neg1 op (t.eqv a b) K
        | _, _ => none) else none) else none
    | none => none
def evUn (op : UnOp) (x : AV) (K : AV → Option R) : Option R :=
  match op, x with
  | .neg, .val (.i k) a => K (.val (.i k) (k.wrap (0 - a)))
  | .not, .val .b a => K (.val .b (!a))
  | _, _ => none
def isU8 : Option T → Bool
  | some (.i .u8) => true
  | _ => false
def isTy (E : Env) (id : TypeId) : Bool :=
  match E.ty id with
  | some _ => true
  | none => false
def slIs (E : Env) (ty : TypeId) (u : T) : Bool :=
  match E.ds ty with
  | .sl e => eTy E e u
  | _ => false
def evConv (E : Env) (src dst : TypeId) (x : AV) (st : St) (K : AV → St → Option R) : Option R :=
  match x with
  | .val (.i _) a => if isTy E src = true then (match E.ty dst with
    | some (.i k) => K (.val (.i k) (k.wrap a)) st
    | _ => none) else none
  | .val .s l => if eTy E src .s = true then (match E.ty dst, E.ds dst with
    | some .s, _ => K x st
    | _, .sl e => if isU8 (E.ty e) = true then (if l.length ≤ 17179869184 then K (.sl st.nx) (st.new (.arr e (.i .u8) l 1)) else none) else none
    | _, _ => none) else none
  | _ => if slIs E src (.i .u8) = true then (match E.ty dst with
    | some .s => match sn E st (.sl (.i .u8)) x with
      | some l => K (.val .s l) st
      | none => none
    | _ => none) else none

/-- The type at a place within a type. -/
def tyAt : T → List Stp → Option T
  | t, [] => some t
  | .pr x _, .f 0 :: r => tyAt x r
  | .pr _ y, .f (n + 1) :: r => tyAt y (.f n :: r)
  | .ar _ u, .x _ :: r => tyAt u r
  | _, _ => none
/-- What a pointer leads to. -/
def ptTy (E : Env) (st : St) : AV → Option T
  | .ptr o p => match st.hp o with
    | .box e _ => match E.ty e with
      | some t => tyAt t p
      | none => none
    | _ => none
  | .elp o _ p => match st.hp o with
    | .arr _ u _ _ => tyAt u p
    | _ => none
  | .val (.pt t) (some _) => some t
  | _ => none
/-- Is the pointer one to that type? -/
def ptIs (E : Env) (st : St) (ty : TypeId) (x : AV) : Bool :=
  match E.ty ty, ptTy E st x with
  | some t, some u => decide (t = u)
  | _, _ => false
/-- An address within memory, or a pointer to what is read alone. -/
def evIndexAddr (E : Env) (ty : TypeId) (x i : AV) (st : St) (K : AV → Option R) : Option R :=
  match i with
  | .val (.i _) i =>
    match E.ds ty, x with
    | .sl e, .sl o => match st.hp o with
      | .arr _ u l _ => if eTy E e u = true then inb i l.length (K (.elp o i.toNat [])) else none
      | _ => none
    | .sl e, .ssl o lo n => match st.hp o with
      | .arr _ u _ _ => if eTy E e u = true then inb i n (K (.elp o (lo + i.toNat) [])) else none
      | _ => none
    | .sl e, .val (.sl u) l => if eTy E e u = true then inb i l.length (K (.val (.pt u) (some (rdT u l i)))) else none
    | .ar n _, .ptr o p => if ptIs E st ty x = true then inb i n (K (.ptr o (p ++ [.x i.toNat]))) else none
    | .ar n _, .elp o j p => if ptIs E st ty x = true then inb i n (K (.elp o j (p ++ [.x i.toNat]))) else none
    | .ar n _, .val (.pt (.ar m u)) (some l) => if eTy E ty (.ar m u) = true then inb i n (K (.val (.pt u) (some (rdT u l i)))) else none
    | _, _ => none
  | _ => none
def evIndex (E : Env) (ty : TypeId) (x i : AV) (K : AV → Option R) : Option R :=
  match x, i with
  | .val .s l, .val (.i _) i => if eTy E ty .s = true then inb i l.length (K (.val (.i .u8) (l.getD i.toNat 0))) else none
  | .val (.ar n u) l, .val (.i _) i => if eTy E ty (.ar n u) = true then inb i n (K (.val u (rdT u l i))) else none
  | _, _ => none
def fzp : AV → AV
  | .val t x => .val (.pt t) (some x)
  | _ => .dead
def evFieldAddr (x : AV) (f : Nat) : AV :=
  match x with
  | .ptr o p => .ptr o (p ++ [.f f])
  | .elp o i p => .elp o i (p ++ [.f f])
  | .val (.pt t) (some v) => fzp (readT t v [.f f])
  | _ => .dead
def evLoad (st : St) (x : AV) : AV :=
  match x with
  | .ptr o p => match st.hp o with
    | .box _ v => readA v p
    | _ => .dead
  | .elp o i p => match st.hp o with
    | .arr _ u l _ => readT u (l.getD i u.zero) p
    | _ => .dead
  | .val (.pt t) (some v) => .val t v
  | _ => .dead
def memB (o : Nat) : List Nat → Bool
  | [] => false
  | x :: r => Nat.beq o x || memB o r
def evStore (E : Env) (x v : AV) (st : St) (K : St → Option R) : Option R :=
  match x with
  | .ptr o p => match st.hp o with
    | .box e w => match E.ty e with
      | some t => match setA E st t w p v with
        | some w' => if keeps w p = true then K (st.set o (.box e w')) else if memB o (tch st v) = true then none else K ((st.ro (tch st v)).set o (.box e w'))
        | none => none
      | none => none
    | _ => none
  | .elp o i p => match st.hp o with
    | .arr e u l k => if Nat.ble k 1 = true then (match setT (fun t => sn E st t v) u (l.getD i u.zero) p with
      | some y => if memB o (tch st v) = true then none else K ((st.ro (tch st v)).set o (.arr e u (l.set i y) k))
      | none => none) else none
    | _ => none
  | _ => none
def optI (x : Option AV) (d : Int) : Option Int :=
  match x with
  | none => some d
  | some (.val (.i _) i) => some i
  | _ => none
/-- 0 ≤ lo ≤ hi ≤ n, or nothing. -/
def cut {R : Type} (lo hi : Int) (n : Nat) (K : Option R) : Option R := if 0 ≤ lo then if lo ≤ hi then if hi ≤ (n : Int) then K else none else none else none
def evSlice (E : Env) (ty : TypeId) (x : AV) (lo hi : Option AV) (st : St) (K : AV → St → Option R) : Option R :=
  match x with
  | .val .s l => if eTy E ty .s = true then (match optI lo 0, optI hi l.length with
    | some a, some b => cut a b l.length (K (.val .s ((l.take b.toNat).drop a.toNat)) st)
    | _, _ => none) else none
  | .val (.sl u) l => if slIs E ty u = true then (match optI lo 0, optI hi l.length with
    | some a, some b => cut a b l.length (K (.val (.sl u) ((l.take b.toNat).drop a.toNat)) st)
    | _, _ => none) else none
  | .sl o => match st.hp o with
    | .arr _ u l _ => if slIs E ty u = true then (match lo, hi with
      | none, none => K x st
      | _, _ => match optI lo 0, optI hi l.length with
        | some a, some b => cut a b l.length (K (.ssl o a.toNat (b - a).toNat) st)
        | _, _ => none) else none
    | _ => none
  | .ssl o s n => match st.hp o with
    | .arr _ u _ _ => if slIs E ty u = true then (match optI lo 0, optI hi n with
      | some a, some b => cut a b n (K (.ssl o (s + a.toNat) (b - a).toNat) st)
      | _, _ => none) else none
    | _ => none
  | .ptr o [] => match st.hp o, lo, hi with
    | .box _ (.val (.ar m u) l), none, none => if eTy E ty (.ar m u) = true then K (.val (.sl u) l) (st.ro [o]) else none
    | _, _, _ => none
  | _ => none
def evMakeSlice (E : Env) (ty : TypeId) (n m : Operand) (st : St) (K : AV → St → Option R) : Option R :=
  match E.ds ty, st.op n, st.op m with
  | .sl e, .val (.i _) a, .val (.i _) b => match E.ty e with
    | some u => if a = b then (if 0 ≤ a then if a ≤ 17179869184 then K (.sl st.nx) (st.new (.arr e u (List.replicate a.toNat u.zero) 0)) else none else none) else none
    | none => none
  | _, _, _ => none
def evLk (E : Env) (ty : TypeId) (kt vt : T) (l : List (kt.in × vt.in)) (k : AV) (ok : Bool) (st : St) (K : AV → Option R) : Option R :=
  if eTy E ty (.mp kt vt) = true then if kt.cmp = true then (match sn E st kt k with
    | some a =>
      let v := AV.val vt ((lk kt vt l a).getD vt.zero)
      K (if ok = true then .tup [v, .val .b (lk kt vt l a).isSome] else v)
    | none => none) else none else none
def evLookup (E : Env) (ty : TypeId) (x k : AV) (ok : Bool) (st : St) (K : AV → Option R) : Option R :=
  match x with
  | .mp o => match st.hp o with
    | .map _ kt vt l _ => evLk E ty kt vt l k ok st K
    | _ => none
  | .val (.mp kt vt) l => evLk E ty kt vt l k ok st K
  | _ => none
def evMapUpdate (E : Env) (ty : TypeId) (x k v : AV) (st : St) (K : St → Option R) : Option R :=
  match x with
  | .mp o => match st.hp o with
    | .map m kt vt l false => if eTy E ty (.mp kt vt) = true then if kt.cmp = true then (match sn E st kt k, sn E st vt v with
      | some a, some b => if memB o (tch st k ++ tch st v) = true then none else K ((st.ro (tch st k ++ tch st v)).set o (.map m kt vt (up kt vt l a b) false))
      | _, _ => none) else none else none
    | _ => none
  | _ => none
def partsL (E : Env) (st : St) (u : T) : Nat → List (Nat × AV) → Option (List u.in)
  | _, [] => some []
  | i, (j, v) :: r => if Nat.beq i j then (match sn E st u v with
    | some a => match partsL E st u (i + 1) r with
      | some l => some (a :: l)
      | none => none
    | none => none) else none
def tchs (st : St) (l : List AV) : List Nat := l.flatMap (tch st)
def evBuildSlice (E : Env) (ty : TypeId) (n : Nat) (ps : List (Nat × AV)) (st : St) (K : AV → St → Option R) : Option R :=
  match E.ds ty with
  | .sl e => match E.ty e with
    | some u => if (Nat.beq n ps.length && (Nat.ble (n * u.sz) 16777216 && Nat.ble n 16777216)) = true then (match partsL E st u 0 ps with
      | some l => K (.sl st.nx) ((st.ro (tchs st (ps.map (·.2)))).new (.arr e u l 0))
      | none => none) else none
    | none => none
  | _ => none
def setParts (E : Env) (st : St) (t : T) : AV → List (Nat × AV) → Option (AV × List Nat)
  | w, [] => some (w, [])
  | w, (j, v) :: r => match setA E st t w [.f j] v with
    | some w' => match setParts E st t w' r with
      | some q => some (q.1, (if keeps w [.f j] = true then [] else tch st v) ++ q.2)
      | none => none
    | none => none
def xParts (E : Env) (st : St) (u : T) : List u.in → List (Nat × AV) → Option (List u.in)
  | w, [] => some w
  | w, (j, v) :: r => if Nat.blt j w.length = true then (match sn E st u v with
    | some a => xParts E st u (w.set j a) r
    | none => none) else none
def evBuild (E : Env) (ty : TypeId) (ps : List (Nat × AV)) (st : St) (K : AV → St → Option R) : Option R :=
  match E.ty ty with
  | some (.ar n u) => match xParts E st u (List.replicate n u.zero) ps with
    | some l => K (.val (.ar n u) l) (st.ro (tchs st (ps.map (·.2))))
    | none => none
  | some t => if t.isAgg = true then (match zeroAV E 24 ty st with
    | some (w, st1) => match setParts E st1 t w ps with
      | some q => K q.1 (st1.ro q.2)
      | none => none
    | none => none) else none
  | none => none
def evNil (E : Env) (ty : TypeId) (k : Nat) (st : St) (K : AV → St → Option R) : Option R :=
  match k with
  | 1 => match E.ds ty with
    | .sl e => match E.ty e with
      | some u => K (.sl st.nx) (st.new (.arr e u [] 0))
      | none => none
    | _ => none
  | k => match E.ty ty with
    | some t => match nilOf t k with
      | some x => K (.val t x) st
      | none => none
    | none => none
def evMove (E : Env) (ty : TypeId) (v : AV) (st : St) (K : AV → St → Option R) : Option R :=
  match v with
  | .nil k => evNil E ty k st K
  | _ => K v st

/-! ### Calls -/
def callArgs (E : Env) (st : St) : (ps : List PM) → List AV → Option (PIn ps)
  | [], [] => some ()
  | .v t :: ps, a :: as => match sn E st t a with
    | some x => match callArgs E st ps as with
      | some r => some (x, r)
      | none => none
    | none => none
  | .io e t :: ps, .sl o :: as => match st.hp o with
    | .arr e' u l 0 => if Nat.beq e e' = true then (match T.cast (.sl u) (.sl t) l with
      | some x => match callArgs E st ps as with
        | some r => some (x, r)
        | none => none
      | none => none) else none
    | _ => none
  | .ib e t :: ps, .ptr o [] :: as => match st.hp o with
    | .box e' v => if (Nat.beq e e' && eTy E e t) = true then (match sn E st t v with
      | some x => match callArgs E st ps as with
        | some r => some (x, r)
        | none => none
      | none => none) else none
    | _ => none
  | _, _ => none
def ioIds : List PM → List AV → List Nat
  | .io _ _ :: ps, .sl o :: as => o :: ioIds ps as
  | .ib _ _ :: ps, .ptr o [] :: as => o :: ioIds ps as
  | _ :: ps, _ :: as => ioIds ps as
  | _, _ => []
def viIds (st : St) : List PM → List AV → List Nat
  | .io _ _ :: ps, _ :: as => viIds st ps as
  | .ib _ _ :: ps, .ptr o [] :: as => (match st.hp o with
    | .box _ v => tch st v
    | _ => []) ++ viIds st ps as
  | _ :: ps, a :: as => tch st a ++ viIds st ps as
  | _, _ => []
def callOut : (ps : List PM) → List AV → POut ps → St → St
  | .io e t :: ps, .sl o :: as, p, st => callOut ps as p.2 (st.set o (.arr e t p.1 0))
  | .ib e t :: ps, .ptr o [] :: as, p, st => callOut ps as p.2 (st.set o (.box e (.val t p.1)))
  | .v _ :: ps, _ :: as, p, st => callOut ps as p st
  | _, _, _, st => st
def impRT : (r : RT) → r.in → St → AV × St
  | .v t, x, st => (.val t x, st)
  | .o e t, l, st => (.sl st.nx, st.new (.arr e t l 0))
  | .un, _, st => (.tup [], st)
  | .pr x y, p, st =>
    let a := impRT x p.1 st
    let b := impRT y p.2 a.2
    (match b.1 with
     | .tup vs => .tup (a.1 :: vs)
     | v => .tup [a.1, v], b.2)
def RT.fz : RT → Bool
  | .v t => !t.flat
  | .o _ t => !t.flat
  | .un => false
  | .pr x y => x.fz || y.fz
def outFz : List PM → Bool
  | [] => false
  | .v _ :: ps => outFz ps
  | .io _ t :: ps => !t.flat || outFz ps
  | .ib _ t :: ps => !t.flat || outFz ps
def apartB : List Nat → List Nat → Bool
  | [], _ => true
  | x :: xs, ys => !ys.contains x && apartB xs ys
def nodupB : List Nat → Bool
  | [] => true
  | x :: xs => !xs.contains x && nodupB xs
def rtOk (E : Env) : RT → Bool
  | .o e t => eTy E e t
  | .pr x y => rtOk E x && rtOk E y
  | _ => true
def evGo (E : Env) (g : FuncId) (as : List AV) (st : St) (K : AV → St → Option R) : Option R :=
  match E.orc g with
  | some o => match callArgs E st o.ps as with
    | some p =>
      if (nodupB (ioIds o.ps as) && (apartB (ioIds o.ps as) (viIds st o.ps as) && rtOk E o.rt)) = true then
        (o.F p).bind fun r =>
          let st1 := if o.rt.fz || outFz o.ps then st.ro (viIds st o.ps as) else st
          let q := impRT o.rt (retRes o.ps r) (callOut o.ps as (retOut o.ps r) st1)
          K q.1 q.2
      else none
    | none => none
  | none => none
def toTup (E : Env) (st : St) : (x : T) → List AV → Option x.in
  | .un, [] => some ()
  | .pr x y, a :: as => match sn E st x a with
    | some v => match toTup E st y as with
      | some r => some (v, r)
      | none => none
    | none => none
  | _, _ => none
def fromTup : (y : T) → y.in → List AV
  | .pr x y, p => .val x p.1 :: fromTup y p.2
  | _, _ => []
def fnRes : (y : T) → y.in → AV
  | .tu z, r => .tup (fromTup z r)
  | y, r => .val y r
def evFn (E : Env) (x y : T) (φ : x.in → Option y.in) (as : List AV) (st : St) (K : AV → St → Option R) : Option R :=
  match toTup E st x as with
  | some a => (φ a).bind fun r =>
      K (fnRes y r) (if y.flat = true then st else st.ro (tchs st as))
  | none => none
def appendSrc (E : Env) (st : St) (tx : TypeId) (u : T) (x : AV) : Option (List u.in) :=
  match x with
  | .val .s l => if eTy E tx .s = true then T.cast (.sl (.i .u8)) (.sl u) l else none
  | _ => if slIs E tx u = true then sn E st (.sl u) x else none
def slE (E : Env) (ty e : TypeId) : Bool :=
  match E.ds ty with
  | .sl e' => Nat.beq e' e
  | _ => false
def evAppend (E : Env) (ty tx : TypeId) (s x : AV) (st : St) (K : AV → St → Option R) : Option R :=
  match s with
  | .nil 1 => match E.ds ty with
    | .sl e => match E.ty e with
      | some u => match appendSrc E st tx u x with
        | some l2 => if l2.length ≤ 17179869184 then (if Nat.beq u.sz 0 = true then none else K (.sl st.nx) ((if u.flat = true then st else st.ro (tch st x)).new (.arr e u l2 0))) else none
        | none => none
      | none => none
    | _ => none
  | .sl o => match st.hp o with
    | .arr e u l 0 => if slE E ty e = true then (match appendSrc E st tx u x with
      | some l2 => if l.length + l2.length ≤ 17179869184 then (if (Nat.beq u.sz 0 || (!u.flat && memB o (tch st x))) = true then none else
          K (.sl st.nx) (((if u.flat = true then st else st.ro (tch st x)).set o .gone).new (.arr e u (l ++ l2) 0))) else none
      | none => none) else none
    | _ => none
  | _ => none
def isSl (E : Env) (ty : TypeId) : Bool :=
  match E.ds ty with
  | .sl _ => true
  | _ => false
def evLen (E : Env) (ty : TypeId) (st : St) (x : AV) (K : AV → Option R) : Option R :=
  match x with
  | .val .s l => if eTy E ty .s = true then K (.val (.i .i64) (l.length : Int)) else none
  | .val (.sl _) l => if isSl E ty = true then K (.val (.i .i64) (l.length : Int)) else none
  | .val (.mp k v) l => if eTy E ty (.mp k v) = true then K (.val (.i .i64) (l.length : Int)) else none
  | .nil 1 => if isSl E ty = true then K (.val (.i .i64) 0) else none
  | .sl o => match st.hp o with
    | .arr _ _ l _ => if isSl E ty = true then K (.val (.i .i64) (l.length : Int)) else none
    | _ => none
  | .ssl o _ n => match st.hp o with
    | .arr _ _ _ _ => if isSl E ty = true then K (.val (.i .i64) (n : Int)) else none
    | _ => none
  | .mp o => match st.hp o with
    | .map _ k v l _ => if eTy E ty (.mp k v) = true then K (.val (.i .i64) (l.length : Int)) else none
    | _ => none
  | _ => none
def evMM (lt : Bool) (x y : AV) (K : AV → Option R) : Option R :=
  match x, y with
  | .val (.i k) a, .val (.i k') b => if k = k' then K (.val (.i k) (if lt = true then (if b < a then b else a) else (if a < b then b else a))) else none
  | _, _ => none
def evBuiltin (E : Env) (b : Builtin) (tys : List TypeId) (as : List AV) (st : St) (K : AV → St → Option R) : Option R :=
  match b, tys, as with
  | .len, t :: _, [x] => evLen E t st x fun v => K v st
  | .append, t :: t2 :: _, [s, x] => evAppend E t t2 s x st K
  | .min, _, [x, y] => evMM true x y fun v => K v st
  | .max, _, [x, y] => evMM false x y fun v => K v st
  | _, _, _ => none
def evCall (E : Env) (c : Call) (st : St) (K : AV → St → Option R) : Option R :=
  let as := c.args.toList.map st.op
  match c.callee with
  | .builtin b => evBuiltin E b c.argTypes.toList as st K
  | .value f => match st.op f with
    | .clo g first caps => evGo E g (first ++ as ++ caps) st K
    | .val (.fn x y) φ => evFn E x y φ as st K
    | _ => none
  | _ => none

def evChk (E : Env) (st : St) (av : AV) (K : AV → Option R) : Option R :=
  match av with
  | .val (.pt t) o => Option.bind o fun v => K (.val (.pt t) (some v))
  | av => match ptTy E st av with
    | some _ => K av
    | none => none
def evOp (E : Env) (o : Oper) (st : St) (K : AV → St → Option R) : Option R :=
  match o.op with
  | .move x | .assign x => evMove E o.type (st.op x) st K
  | .pick c a b => dec (st.op c) fun t => K (st.op (if t = true then a else b)) st
  | .alloc e => match zeroAV E 24 e st with
    | some (v, st1) => K (.ptr st1.nx []) (st1.new (.box e v))
    | none => none
  | .box e v => match E.ty e with
    | some t => if cf E st t (st.op v) = true then K (.ptr st.nx []) (st.new (.box e (st.op v))) else none
    | none => none
  | .build t ps => evBuild E t (ps.toList.map fun p => (p.1, st.op p.2)) st K
  | .buildSlice t n ps => evBuildSlice E t n (ps.toList.map fun p => (p.1, st.op p.2)) st K
  | .load t a => if ptIs E st t (st.op a) = true then K (evLoad st (st.op a)) st else none
  | .store t a v => if ptIs E st t (st.op a) = true then evStore E (st.op a) (st.op v) st (K .dead) else none
  | .nilCheck x => evChk E st (st.op x) fun v => K v st
  | .binOp b t x y _ => evBin E b t (isC y) (st.op x) (st.op y) st fun v => K v st
  | .unOp u _ x => evUn u (st.op x) fun v => K v st
  | .convert t0 t x => evConv E t0 t (st.op x) st K
  | .makeFunc (.func g) first caps => K (.clo g (first.toList.map st.op) (caps.toList.map st.op)) st
  | .makeMap t none => match E.ty t with
    | some (.mp k v) => K (.mp st.nx) (st.new (.map t k v [] false))
    | _ => none
  | .makeSlice t n m => evMakeSlice E t n m st K
  | .slice t x lo hi none => evSlice E t (st.op x) (lo.map st.op) (hi.map st.op) st K
  | .fieldAddr t x f => if ptIs E st t (st.op x) = true then (match E.ty t with
    | some u => match tyAt u [.f f] with
      | some q => if Nat.beq q.sz 0 = true then none else K (evFieldAddr (st.op x) f) st
      | none => none
    | none => none) else none
  | .indexAddr t x i => evIndexAddr E t (st.op x) (st.op i) st fun v => K v st
  | .index t x i => evIndex E t (st.op x) (st.op i) fun v => K v st
  | .lookup t x i ok => evLookup E t (st.op x) (st.op i) ok st fun v => K v st
  | .mapUpdate t m k v | .insert t m k v => evMapUpdate E t (st.op m) (st.op k) (st.op v) st (K .dead)
  | .extract t i => match st.op t with
    | .tup vs => match vs[i]? with
      | some v => K v st
      | none => none
    | _ => none
  | .call c => evCall E c st K
  | _ => none

/-- One operation of a region: its guard, then what it does. -/
def evOper (E : Env) (ops : List Oper) (o : Oper) (st : St) (K : St → Option R) : Option R :=
  match o.guard with
  | none => evOp E o st fun v st' => K (st'.put o.dst v)
  | some (j, want) => match (ops[j]?).bind (·.dst) with
    | some d => match st.sl d with
      | .tup [] => K (st.put o.dst (.tup []))
      | av => dec av fun c =>
        if c = want then evOp E o (st.put (some d) (.val .b c)) fun v st' => K (st'.put o.dst v)
        else K ((st.put (some d) (.val .b c)).put o.dst (.tup []))
    | none => none
def evOps (E : Env) (ops : List Oper) : List Nat → St → (St → Option R) → Option R
  | [], st, K => K st
  | i :: r, st, K => match ops[i]? with
    | some o => evOper E ops o st fun st' => evOps E ops r st' K
    | none => none
end

/-! ### Regions that draw their order -/
/-- Does the operation yield its value whenever it is done, if nothing is written before? -/
def quietOp : Op → Bool
  | .move _ | .assign _ | .pick .. | .binOp .. | .unOp .. | .load .. | .nilCheck _ | .fieldAddr .. | .indexAddr .. | .index .. | .lookup .. | .extract .. | .makeFunc .. | .build .. => true
  | .slice _ _ _ _ none => true
  | .call { callee := .builtin .len, .. } | .call { callee := .builtin .min, .. } | .call { callee := .builtin .max, .. } => true
  | _ => false
/-- Does the operation make new memory of its operands alone? -/
def earlyOp : Op → Bool
  | .alloc _ | .buildSlice .. | .makeSlice .. | .makeMap .. => true
  | _ => false
def pureCall (E : Env) (c : Call) : Bool :=
  match c.callee with
  | .value (.func g) => match E.orc g with
    | some o => (o.ps.all fun m => match m with | .v _ => true | _ => false)
    | none => false
  | _ => false
/-- Does the operation at most make new memory? -/
def mildOp (E : Env) (op : Op) : Bool :=
  quietOp op || match op with
    | .alloc _ | .box .. | .buildSlice .. | .makeMap .. | .makeSlice .. | .convert .. => true
    | .call c => pureCall E c
    | _ => false
/-- The objects that an operation reads; that it writes. -/
def ptIds : AV → List Nat
  | .ptr o _ | .elp o _ _ => [o]
  | _ => []
def mpIds : AV → List Nat
  | .mp o => [o]
  | _ => []
def slIds : AV → List Nat
  | .sl o => [o]
  | _ => []
def rdIds (st : St) : Op → List Nat
  | .load _ a => ptIds (st.op a)
  | .lookup _ x _ _ => mpIds (st.op x)
  | .call c => match c.callee, c.args.toList with
    | .builtin .len, x :: _ => mpIds (st.op x)
    | _, _ => []
  | _ => []
def goIds (E : Env) (g : FuncId) (as : List AV) : List Nat :=
  match E.orc g with
  | some o => ioIds o.ps as
  | none => []
def wrIds (E : Env) (st : St) : Op → List Nat
  | .store _ a _ => ptIds (st.op a)
  | .mapUpdate _ m _ _ | .insert _ m _ _ => mpIds (st.op m)
  | .call c => match c.callee with
    | .builtin .append => match c.args.toList with
      | x :: _ => slIds (st.op x)
      | _ => []
    | .value f => match st.op f with
      | .clo g first caps => goIds E g (first ++ c.args.toList.map st.op ++ caps)
      | _ => []
    | _ => []
  | _ => []
def killB (ops : Array Oper) : List Nat → St → St
  | [], st => st
  | b :: B, st => killB ops B (match ops[b]? with
    | some o => st.put o.dst .dead
    | none => st)
def evB {R : Type} (E : Env) (ops : Array Oper) : List Nat → St → Option R → Option R
  | [], _, X => X
  | b :: B, st, X => match ops[b]? with
    | some o => evOp E o st fun _ _ => evB E ops B st X
    | none => none
def bindsB (e : Edge) : Bool := Region.binds .any e
def waitsB (o : Oper) (i : Nat) : Bool := o.after.toList.any fun e => bindsB e && Nat.beq e.on i
/-- What waits for an operation, and for what waits for it. -/
def downB (ops : Array Oper) (i : Nat) : List Nat :=
  (List.range ops.size).foldl (fun D j => match ops[j]? with
    | some o => if (o.after.toList.any fun e => bindsB e && (Nat.beq e.on i || D.contains e.on)) then j :: D else D
    | none => D) []
def justB (ops : Array Oper) (i : Nat) (D : List Nat) : Bool :=
  D.all fun j => match ops[j]? with
    | some o => o.after.toList.any fun e => bindsB e && (Nat.beq e.on i || D.contains e.on)
    | none => false
/-- The operations that have read, and which objects. -/
abbrev Prs := List (Nat × List Nat)
def okW (E : Env) (ops : Array Oper) (ls : List Nat) (i : Nat) (wr : List Nat) (pr : Prs) : Bool :=
  pr.all fun q => apartB q.2 wr || ((downB ops q.1).contains i && (List.range ops.size).all fun k => ls.contains k || (Nat.beq k i || ((downB ops q.1).contains k || match ops[k]? with
    | some o => mildOp E o.op
    | none => true)))
def dropW (wr : List Nat) (pr : Prs) : Prs := pr.filter fun q => apartB q.2 wr
/-- A region that draws its order, in one order: each operation, and which new memory may come up before it. -/
def evSteps {R : Type} (E : Env) (ops : Array Oper) : List (Nat × List Nat) → List Nat → Prs → St → (St → Option R) → Option R
  | [], _, _, st, K => K st
  | (i, B) :: r, ls, pr, st, K =>
    let st1 := killB ops B st
    evB E ops B st1 (match ops[i]? with
      | some o =>
        if quietOp o.op = true then evOper E ops.toList o st1 fun st' => evSteps E ops r (i :: ls) ((i, rdIds st1 o.op) :: pr) st' K
        else if okW E ops ls i (wrIds E st1 o.op) pr = true then evOper E ops.toList o st1 fun st' => evSteps E ops r (i :: ls) (dropW (wrIds E st1 o.op) pr) st' K
        else none
      | none => none)
def depsIn (ls : List Nat) (o : Oper) : Bool := o.after.toList.all fun e => !bindsB e || ls.contains e.on
def freeB (ops : Array Oper) (ls : List Nat) (i : Nat) (oi : Oper) : Bool :=
  (List.range ops.size).all fun j => Nat.beq j i || (ls.contains j || match ops[j]? with
    | some oj => waitsB oj i || oi.apart ops oj
    | none => true)
def freeD (ops : Array Oper) (ls : List Nat) (i : Nat) (oi : Oper) (D : List Nat) : Bool :=
  (List.range ops.size).all fun j => Nat.beq j i || (ls.contains j || (D.contains j || match ops[j]? with
    | some oj => oi.apart ops oj
    | none => true))
def selfB (ops : Array Oper) (o : Oper) : Bool :=
  match o.dst with
  | some d => !(o.looksAt ops).contains d
  | none => true
def earlyB (ops : Array Oper) (ls : List Nat) (i b : Nat) : Bool :=
  match ops[b]? with
  | some ob => earlyOp ob.op && (ob.guard.isNone && (!Nat.beq b i && (!ls.contains b && (depsIn ls ob && (freeB ops ls b ob && selfB ops ob)))))
  | none => false
def stepOk (ops : Array Oper) (ls : List Nat) (i : Nat) (B : List Nat) : Bool :=
  match ops[i]? with
  | some oi => !ls.contains i && (depsIn ls oi &&
      (if quietOp oi.op = true then B.isEmpty && (justB ops i (downB ops i) && ((downB ops i).all (fun j => !ls.contains j) && freeD ops ls i oi (downB ops i)))
       else B.all (earlyB ops ls i) && (List.range ops.size).all fun j => ls.contains j || (Nat.beq j i || (B.contains j || match ops[j]? with
        | some oj => !depsIn (ls ++ B) oj
        | none => true))))
  | none => false
def stepsOk (ops : Array Oper) : List (Nat × List Nat) → List Nat → Bool
  | [], ls => (List.range ops.size).all fun j => ls.contains j
  | (i, B) :: r, ls => stepOk ops ls i B && stepsOk ops r (i :: ls)
def drawOk (ops : Array Oper) (steps : List (Nat × List Nat)) : Bool := Region.noSelect ops && stepsOk ops steps []
/-- Are the plans for the regions that draw good ones? -/
def planOk (E : Env) : Code → Bool
  | .region id ops true => match E.plan id with
    | some steps => drawOk ops steps
    | none => true
  | .seq a b => planOk E a && planOk E b
  | .cond _ x y => planOk E x && planOk E y
  | .block _ c => planOk E c
  | .loop c => planOk E c
  | _ => true

/-! ### Loops and ways that meet -/
@[reducible] def SIn : List (Nat × Sh) → Type
  | [] => Unit
  | p :: r => p.2.in × SIn r
def Sh.ty : Sh → T
  | .v t => t
  | .o _ t => .sl t
  | .w _ t => .sl t
  | .m _ kt et => .mp kt et
  | .bx _ s => .pt s.ty
  | .un => .un
  | .pr p q => .pr p.ty q.ty
  | .al _ => .un
def Sh.agg : Sh → Bool
  | .un | .pr _ _ => true
  | _ => false
def readSh (E : Env) (st : St) : (s : Sh) → AV → Option s.in
  | .v t, av => sn E st t av
  | .o e t, .sl o => match st.hp o with
    | .arr e' u l 0 => if Nat.beq e e' = true then T.cast (.sl u) (.sl t) l else none
    | _ => none
  | .w e t, .sl o => match st.hp o with
    | .arr e' u l k => if Nat.beq e e' = true then if Nat.ble k 1 = true then T.cast (.sl u) (.sl t) l else none else none
    | _ => none
  | .m m k v, .mp o => match st.hp o with
    | .map m' k' v' l false => if Nat.beq m m' = true then T.cast (.mp k' v') (.mp k v) l else none
    | _ => none
  | .bx e s, .ptr o [] => match st.hp o with
    | .box e' v => if Nat.beq e e' = true then if eTy E e s.ty = true then readSh E st s v else none else none
    | _ => none
  | .un, .agg [] => some ()
  | .pr x y, .agg (v :: r) => if y.agg = true then (match readSh E st x v with
    | some a => match readSh E st y (.agg r) with
      | some b => some (a, b)
      | none => none
    | none => none) else none
  | _, _ => none
def ownSh (st : St) : Sh → AV → List Nat
  | .o _ _, .sl o => [o]
  | .w _ _, .sl o => [o]
  | .m _ _ _, .mp o => [o]
  | .bx _ s, .ptr o [] => o :: (match st.hp o with
    | .box _ v => ownSh st s v
    | _ => [])
  | .pr x y, .agg (v :: r) => ownSh st x v ++ ownSh st y (.agg r)
  | _, _ => []
def fzSh (st : St) : Sh → AV → List Nat
  | .v _, av => tch st av
  | .bx _ s, .ptr o [] => (match st.hp o with
    | .box _ v => fzSh st s v
    | _ => [])
  | .pr x y, .agg (v :: r) => fzSh st x v ++ fzSh st y (.agg r)
  | _, _ => []
def alB (st : St) : AV → AV → Bool
  | .sl o, .sl o' => match st.hp o with
    | .arr _ _ _ _ => Nat.beq o o'
    | _ => false
  | _, _ => false
def readTop (E : Env) (st : St) (i : Nat) : (s : Sh) → Option s.in
  | .al j => if alB st (st.sl i) (st.sl j) = true then some () else none
  | .v t => readSh E st (.v t) (st.sl i)
  | .o e t => readSh E st (.o e t) (st.sl i)
  | .w e t => readSh E st (.w e t) (st.sl i)
  | .m m k v => readSh E st (.m m k v) (st.sl i)
  | .bx e s => readSh E st (.bx e s) (st.sl i)
  | .un => readSh E st .un (st.sl i)
  | .pr x y => readSh E st (.pr x y) (st.sl i)
def readAll (E : Env) (st : St) : (l : List (Nat × Sh)) → Option (SIn l)
  | [] => some ()
  | p :: r => match readTop E st p.1 p.2 with
    | some a => match readAll E st r with
      | some b => some (a, b)
      | none => none
    | none => none
def buildSh : (s : Sh) → s.in → St → AV × St
  | .v t, x, st => (.val t x, st)
  | .o e t, l, st => (.sl st.nx, st.new (.arr e t l 0))
  | .w e t, l, st => (.sl st.nx, st.new (.arr e t l 1))
  | .m m k v, l, st => (.mp st.nx, st.new (.map m k v l false))
  | .bx e s, x, st =>
    let q := buildSh s x st
    (.ptr q.2.nx [], q.2.new (.box e q.1))
  | .un, _, st => (.agg [], st)
  | .pr x y, p, st =>
    let a := buildSh x p.1 st
    let b := buildSh y p.2 a.2
    (match b.1 with
     | .agg vs => .agg (a.1 :: vs)
     | _ => .dead, b.2)
  | .al _, _, st => (.dead, st)
def buildTop : (s : Sh) → s.in → St → AV × St
  | .al j, _, st => (st.sl j, st)
  | .v t, x, st => buildSh (.v t) x st
  | .o e t, x, st => buildSh (.o e t) x st
  | .w e t, x, st => buildSh (.w e t) x st
  | .m m k v, x, st => buildSh (.m m k v) x st
  | .bx e s, x, st => buildSh (.bx e s) x st
  | .un, x, st => buildSh .un x st
  | .pr x y, p, st => buildSh (.pr x y) p st
def St.empty (n : Nat) : St := { n := n, sl := fun _ => .dead, hp := fun _ => .gone, nx := 0 }
def buildAll : (l : List (Nat × Sh)) → SIn l → St → St
  | [], _, st => st
  | p :: r, d, st =>
    let q := buildTop p.2 d.1 st
    buildAll r d.2 (q.2.put (some p.1) q.1)
def mkSt (E : Env) (l : List (Nat × Sh)) (d : SIn l) : St := buildAll l d (St.empty E.nt)
def canon {R : Type} (E : Env) (l : List (Nat × Sh)) (st : St) (K : SIn l → Option R) : Option R :=
  let own := l.flatMap fun p => ownSh st p.2 (st.sl p.1)
  let fz := l.flatMap fun p => fzSh st p.2 (st.sl p.1)
  if (Nat.beq st.n E.nt && (nodupB own && apartB own fz)) = true then (match readAll E st l with
    | some d => K d
    | none => none) else none

section
variable {R : Type}
abbrev Kn (R : Type) := Exit → St → Option R
def loopK (E : Env) (l : List (Nat × Sh)) (K : Kn R) (again : SIn l → Option R) : Kn R := fun e st =>
  match e with
  | .normal => canon E l st again
  | e => K e st
def loopF (E : Env) (l : List (Nat × Sh)) (body : St → Kn R → Option R) (K : Kn R) : Nat → SIn l → Option R
  | 0, _ => none
  | n + 1, d => body (mkSt E l d) (loopK E l K (loopF E l body K n))
def joinF (E : Env) (l : List (Nat × Sh)) (next : St → Kn R → Option R) (K : Kn R) : Nat → SIn l → Option R
  | 0, _ => none
  | _ + 1, d => next (mkSt E l d) K
def seqK (E : Env) (ct : Option (List (Nat × Sh))) (next : St → Kn R → Option R) (K : Kn R) : Kn R := fun e st =>
  match e with
  | .normal => match ct with
    | none => next st K
    | some l => canon E l st (joinF E l next K E.rounds)
  | e => K e st
/-- Where a piece of code lies. -/
inductive Pth | l | r | c
def sub : Code → List Pth → Code
  | c, [] => c
  | .seq a _, .l :: p => sub a p
  | .seq _ b, .r :: p => sub b p
  | .block _ c, .c :: p => sub c p
  | .loop c, .c :: p => sub c p
  | .cond _ a _, .l :: p => sub a p
  | .cond _ _ b, .r :: p => sub b p
  | _, _ => .skip
def blockK (id : Nat) (K : Kn R) : Kn R := fun e st =>
  match e with
  | .exit id' => if Nat.beq id' id then K .normal st else K (.exit id') st
  | e => K e st
def firstReg : Code → Nat
  | .region id _ _ => id
  | .seq a _ => firstReg a
  | .block _ c => firstReg c
  | .loop c => firstReg c
  | _ => 1000000
def evRegion (E : Env) (id : Nat) (ops : Array Oper) (draw : Bool) (st : St) (K : St → Option R) : Option R :=
  if draw = true then (match E.plan id with
    | some steps => evSteps E ops steps [] [] st K
    | none => none)
  else evOps E ops.toList (List.range ops.toList.length) st K
def ev (E : Env) : Code → St → Kn R → Option R
  | .skip, st, K => K .normal st
  | .region id ops draw, st, K => evRegion E id ops draw st (K .normal)
  | .seq a b, st, K => ev E a st (seqK E (E.ct (firstReg b)) (ev E b) K)
  | .cond c x y, st, K => match c with
    | .tmp t => dec (st.sl t) fun v => if v = true then ev E x (st.put (some t) (.val .b true)) K else ev E y (st.put (some t) (.val .b false)) K
    | _ => none
  | .block id c, st, K => ev E c st (blockK id K)
  | .loop c, st, K => match E.lp (firstReg c) with
    | some l => canon E l st (loopF E l (ev E c) K E.rounds)
    | none => none
  | .exit id, st, K => K (.exit id) st
  | .ret, st, K => K .ret st
  | _, _, _ => none
end

/-- What stands behind a piece of code; of the loops that hold it: what a further round comes to. -/
def Agn (R : Type) := (l : List (Nat × Sh)) × (SIn l → Option R)
def kont {R : Type} (E : Env) : Code → List Pth → List (Agn R) → Kn R → Kn R
  | _, [], _, K => K
  | .seq a b, .l :: p, rs, K => kont E a p rs (seqK E (E.ct (firstReg b)) (ev E b) K)
  | .seq _ b, .r :: p, rs, K => kont E b p rs K
  | .block id c, .c :: p, rs, K => kont E c p rs (blockK id K)
  | .loop c, .c :: p, a :: rs, K => kont E c p rs (loopK E a.1 K a.2)
  | .cond _ a _, .l :: p, rs, K => kont E a p rs K
  | .cond _ _ b, .r :: p, rs, K => kont E b p rs K
  | _, _, _, K => K
def bodyOf (f : Func) : Code := f.body.getD .skip

/-! ### A function -/
def param : (m : PM) → m.in → St → AV × St
  | .v t, x, st => (.val t x, st)
  | .io e t, l, st => (.sl st.nx, st.new (.arr e t l 0))
  | .ib e t, x, st => (.ptr st.nx [], st.new (.box e (.val t x)))
def params : (ps : List PM) → PIn ps → Nat → St → St
  | [], _, _, st => st
  | m :: ps, p, i, st =>
    let q := param m p.1 st
    params ps p.2 (i + 1) (q.2.put (some i) q.1)
def resAV (E : Env) (st : St) : ResultVar → AV
  | .tmp t => st.sl t
  | .cell a id => if ptIs E st id (st.sl a) = true then evLoad st (st.sl a) else .dead
def readRT (E : Env) (st : St) : (r : RT) → List AV → Option r.in
  | .un, [] => some ()
  | .pr x y, a :: as => match readRT E st x [a] with
    | some v => match readRT E st y as with
      | some w => some (v, w)
      | none => none
    | none => none
  | .v t, [a] => sn E st t a
  | .o e t, [.sl o] => match st.hp o with
    | .arr e' u l 0 => if Nat.beq e e' then T.cast (.sl u) (.sl t) l else none
    | _ => none
  | .o _ _, [.nil 1] => some []
  | _, _ => none
def ownRT : RT → List AV → List Nat
  | .pr x y, a :: as => ownRT x [a] ++ ownRT y as
  | .o _ _, [.sl o] => [o]
  | _, _ => []
def fzRT (st : St) : RT → List AV → List Nat
  | .pr x y, a :: as => fzRT st x [a] ++ fzRT st y as
  | .v t, [a] => if t.flat = true then [] else tch st a
  | _, _ => []
def outs (E : Env) (st : St) : (ps : List PM) → Nat → Option (POut ps)
  | [], _ => some ()
  | .v _ :: ps, i => match outs E st ps (i + 1) with
    | some r => some r
    | none => none
  | .io e t :: ps, i => match st.sl i with
    | .sl o => match st.hp o with
      | .arr e' u l 0 => if Nat.beq e e' then (match T.cast (.sl u) (.sl t) l with
        | some x => match outs E st ps (i + 1) with
          | some r => some (x, r)
          | none => none
        | none => none) else none
      | _ => none
    | _ => none
  | .ib e t :: ps, i => match st.sl i with
    | .ptr o [] => match st.hp o with
      | .box e' v => if Nat.beq e e' then (match sn E st t v with
        | some x => match outs E st ps (i + 1) with
          | some r => some (x, r)
          | none => none
        | none => none) else none
      | _ => none
    | _ => none
/-- The object that a written parameter is. -/
def outId : PM → AV → List Nat
  | .io _ _, .sl o => [o]
  | .ib _ _, .ptr o [] => [o]
  | _, _ => []
def outIds (st : St) : List PM → Nat → List Nat
  | [], _ => []
  | m :: ps, i => outId m (st.sl i) ++ outIds st ps (i + 1)
def outTc (st : St) : PM → AV → List Nat
  | .ib _ _, .ptr o [] => match st.hp o with
    | .box _ v => tch st v
    | _ => []
  | _, _ => []
def outTch (st : St) : List PM → Nat → List Nat
  | [], _ => []
  | m :: ps, i => outTc st m (st.sl i) ++ outTch st ps (i + 1)
def finish (E : Env) (ps : List PM) (rt : RT) (rs : List ResultVar) : Kn (Ret ps rt.in) := fun e st =>
  match e with
  | .normal | .ret =>
    let avs := rs.map (resAV E st)
    let own := ownRT rt avs ++ outIds st ps 0
    let fz := fzRT st rt avs ++ outTch st ps 0
    if nodupB own && apartB own fz then (match readRT E st rt avs, outs E st ps 0 with
      | some r, some p => some (retMk ps r p)
      | _, _ => none) else none
  | _ => none
def evFun (E : Env) (ps : List PM) (rt : RT) (fn : Func) (x : PIn ps) : Option (Ret ps rt.in) :=
  match fn.body with
  | some c => ev E c (params ps x 0 (St.empty E.nt)) (finish E ps rt fn.results.toList)
  | none => none
end Ev
/- What the evaluator's values say of the model's memory. -/
namespace Ev
open Go

abbrev Zn := Nat → Prop
/-- Nothing that stood has turned, but for the blocks L. -/
structure Step (L : List Nat) (w w' : World) : Prop where
  os : w'.os = w.os
  tape : w'.tape = w.tape
  output : w'.output = w.output
  size : w.heap.size ≤ w'.heap.size
  block : ∀ k, k < w.heap.size → k ∉ L → w'.heap[k]? = w.heap[k]?
def Agree (Z : Zn) (w w' : World) : Prop := ∀ b, Z b → w'.heap[b]? = w.heap[b]?
def ZOK (Z : Zn) (w : World) : Prop := ∀ b, Z b → b < w.heap.size
def Zle (Z Z' : Zn) : Prop := ∀ b, Z b → Z' b
/-- What is new among the frozen blocks is new memory. -/
def Znew (Z Z' : Zn) (w w' : World) : Prop := ∀ b, Z' b → Z b ∨ (w.heap.size ≤ b ∧ b < w'.heap.size)

theorem Step.refl (L : List Nat) (w : World) : Step L w w := ⟨rfl, rfl, rfl, Nat.le_refl _, fun _ _ _ => rfl⟩
theorem Step.trans {L : List Nat} {a b c : World} (h : Step L a b) (k : Step L b c) : Step L a c :=
  ⟨k.os.trans h.os, k.tape.trans h.tape, k.output.trans h.output, Nat.le_trans h.size k.size, fun i hi hn => (k.block i (Nat.lt_of_lt_of_le hi h.size) hn).trans (h.block i hi hn)⟩
theorem Step.mono {L L' : List Nat} {a b : World} (h : Step L a b) (k : ∀ x ∈ L, x ∈ L') : Step L' a b :=
  ⟨h.os, h.tape, h.output, h.size, fun i hi hn => h.block i hi (fun q => hn (k i q))⟩
theorem Step.agree {L : List Nat} {Z : Zn} {a b : World} (h : Step L a b) (hz : ZOK Z a) (hd : ∀ x ∈ L, ¬ Z x) : Agree Z a b :=
  fun i hi => h.block i (hz i hi) (fun q => hd i q hi)
theorem Agree.refl (Z : Zn) (w : World) : Agree Z w w := fun _ _ => rfl
theorem Agree.trans {Z : Zn} {a b c : World} (h : Agree Z a b) (k : Agree Z b c) : Agree Z a c := fun i hi => (k i hi).trans (h i hi)
theorem Agree.mono {Z Z' : Zn} {a b : World} (h : Agree Z' a b) (k : Zle Z Z') : Agree Z a b := fun i hi => h i (k i hi)
theorem ZOK.step {L : List Nat} {Z : Zn} {a b : World} (h : ZOK Z a) (k : Step L a b) : ZOK Z b := fun i hi => Nat.lt_of_lt_of_le (h i hi) k.size

def isAggV : Value → Bool
  | .agg _ => true
  | _ => false
abbrev CRel (α : Type) := Zn → World → α → List Value → Prop
/-- A value's cells make a value. -/
def asV (t : T) (v : Value) (cs : List Value) : Prop := cs = v.cells.toList ∧ isAggV v = t.isAgg
/-- Rows of cells: each element's cells, one behind the other. -/
inductive Rows {α : Type} (C : α → List Value → Prop) : List α → List Value → Prop
  | nil : Rows C [] []
  | cons {x : α} {xs : List α} {c cs : List Value} : C x c → Rows C xs cs → Rows C (x :: xs) (c ++ cs)
/-- The cells of a row in memory. -/
def cellsAt (w : World) (b off : Nat) (cs : List Value) : Prop :=
  ∃ row e fr, w.heap[b]? = some (.cells row e fr) ∧ off + cs.length ≤ row.size ∧ (row.toList.drop off).take cs.length = cs
def entriesR {κ ν : Type} (K : κ → Value → Prop) (V : ν → Value → Prop) : List (κ × ν) → List MapEntry → Prop
  | [], [] => True
  | p :: r, e :: es => K p.1 e.key ∧ V p.2 e.val ∧ entriesR K V r es
  | _, _ => False
/-- An int of a kind: a byte is one. -/
def intOk : IntKind → Int → Prop
  | .u8, n => 0 ≤ n ∧ n ≤ 255
  | _, _ => True

/-- A function that is entered when it is called. -/
def Enters (P : Program) (g : FuncId) : Prop := ∃ fn, P.funcs[g]? = some fn ∧ (fn.name == "runtime.NumGoroutine") = false ∧ fn.body.isNone = false
/-- The cells of a value; and, of a list of types, the values of arguments. -/
def rel (P : Program) : (t : T) → CRel t.in × CRel t.in
  | .i k => (fun _ _ x cs => cs = [.int k x] ∧ intOk k x, fun _ _ _ _ => False)
  | .b => (fun _ _ x cs => cs = [.bool x], fun _ _ _ _ => False)
  | .s => (fun _ _ x cs => ∃ s : ByteArray, cs = [.string s] ∧ x = strL s, fun _ _ _ _ => False)
  | .er => (fun _ _ x cs => (x = false ∧ cs = [.nilIface]) ∨ (x = true ∧ ∃ t v, cs = [.iface t v]), fun _ _ _ _ => False)
  | .un => (fun _ _ _ cs => cs = [], fun _ _ _ vs => vs = [])
  | .pr x y => (fun Z w p cs => ∃ c1 c2, cs = c1 ++ c2 ∧ (rel P x).1 Z w p.1 c1 ∧ (rel P y).1 Z w p.2 c2,
      fun Z w p vs => ∃ v c r, vs = v :: r ∧ asV x v c ∧ (rel P x).1 Z w p.1 c ∧ (rel P y).2 Z w p.2 r)
  | .ar n t => (fun Z w l cs => l.length = n ∧ Rows ((rel P t).1 Z w) l cs, fun _ _ _ _ => False)
  | .sl t => (fun Z w l cs => ∃ a c, cs = [.slice a l.length c] ∧ l.length ≤ c ∧
      (l = [] ∨ ∃ b off row, a = some ⟨b, off, none⟩ ∧ Z b ∧ Rows ((rel P t).1 Z w) l row ∧ cellsAt w b off row), fun _ _ _ _ => False)
  | .mp k v => (fun Z w l cs => ∃ r, cs = [.map r] ∧ ((r = none ∧ l = []) ∨ ∃ b es clk, r = some b ∧ Z b ∧ w.heap[b]? = some (.map es clk) ∧
      entriesR (fun x u => ∃ c, asV k u c ∧ (rel P k).1 Z w x c) (fun x u => ∃ c, asV v u c ∧ (rel P v).1 Z w x c) l es.toList), fun _ _ _ _ => False)
  | .pt t => (fun Z w x cs => (x = none ∧ cs = [.pointer none]) ∨ ∃ y b off row, x = some y ∧ cs = [.pointer (some ⟨b, off, none⟩)] ∧ Z b ∧ (rel P t).1 Z w y row ∧ cellsAt w b off row,
      fun _ _ _ _ => False)
  | .fn x y => (fun Z w φ cs => ∃ g first caps, cs = [.func (.func g) first caps] ∧ Enters P g ∧
      ∀ (Z' : Zn) (w' : World) (a : x.in) (vs : List Value) (r : y.in), Zle Z Z' → Agree Z w w' → ZOK Z' w' → (rel P x).2 Z' w' a vs → φ a = some r →
        Calls P g (first ++ vs.toArray ++ caps) w' fun e w'' => ∃ v c Z'', e = .returned v ∧ Step [] w' w'' ∧ Zle Z' Z'' ∧ Znew Z' Z'' w' w'' ∧ asV y v c ∧ (rel P y).1 Z'' w'' r c,
      fun _ _ _ _ => False)
  | .tu t => (fun Z w x cs => ∃ vs, cs = [.tuple vs] ∧ (rel P t).2 Z w x vs.toList, fun _ _ _ _ => False)

def RepC (P : Program) (t : T) : CRel t.in := (rel P t).1
def RepV (P : Program) (t : T) (Z : Zn) (w : World) (x : t.in) (v : Value) : Prop := isAggV v = t.isAgg ∧ RepC P t Z w x v.cells.toList
def RepTs (P : Program) (t : T) : CRel t.in := (rel P t).2

theorem asV_cells {t : T} {v : Value} : asV t v v.cells.toList ↔ isAggV v = t.isAgg := by simp [asV]

theorem Rows.imp {α : Type} {C D : α → List Value → Prop} (h : ∀ x c, C x c → D x c) {l : List α} {cs : List Value} (r : Rows C l cs) : Rows D l cs := by
  induction r with
  | nil => exact .nil
  | cons hc _ ih => exact .cons (h _ _ hc) ih
theorem cellsAt.agree {w w' : World} {b off : Nat} {cs : List Value} (h : cellsAt w b off cs) (hb : w'.heap[b]? = w.heap[b]?) : cellsAt w' b off cs := by
  obtain ⟨row, e, fr, h1, h2, h3⟩ := h
  exact ⟨row, e, fr, hb.trans h1, h2, h3⟩
theorem entriesR.imp {κ ν : Type} {K K' : κ → Value → Prop} {V V' : ν → Value → Prop} (hk : ∀ x v, K x v → K' x v) (hv : ∀ x v, V x v → V' x v) :
    ∀ {l : List (κ × ν)} {es : List MapEntry}, entriesR K V l es → entriesR K' V' l es
  | [], [], _ => trivial
  | _ :: _, _ :: _, ⟨a, b, c⟩ => ⟨hk _ _ a, hv _ _ b, entriesR.imp hk hv c⟩

/-- What is told of frozen memory stays true. -/
theorem rel_mono (P : Program) : ∀ (t : T) {Z Z' : Zn} {w w' : World}, Zle Z Z' → Agree Z w w' →
    (∀ (x : t.in) (cs : List Value), (rel P t).1 Z w x cs → (rel P t).1 Z' w' x cs) ∧ (∀ (x : t.in) (cs : List Value), (rel P t).2 Z w x cs → (rel P t).2 Z' w' x cs) := by
  intro t
  induction t with
  | i k => intro Z Z' w w' hz ha; exact ⟨fun _ _ h => h, fun _ _ h => h⟩
  | b => intro Z Z' w w' hz ha; exact ⟨fun _ _ h => h, fun _ _ h => h⟩
  | s => intro Z Z' w w' hz ha; exact ⟨fun _ _ h => h, fun _ _ h => h⟩
  | er => intro Z Z' w w' hz ha; exact ⟨fun _ _ h => h, fun _ _ h => h⟩
  | un => intro Z Z' w w' hz ha; exact ⟨fun _ _ h => h, fun _ _ h => h⟩
  | pr x y ihx ihy =>
    intro Z Z' w w' hz ha
    refine ⟨fun p cs h => ?_, fun p cs h => ?_⟩
    · obtain ⟨c1, c2, e, h1, h2⟩ := h
      exact ⟨c1, c2, e, (ihx hz ha).1 _ _ h1, (ihy hz ha).1 _ _ h2⟩
    · obtain ⟨v, c, r, e, h0, h1, h2⟩ := h
      exact ⟨v, c, r, e, h0, (ihx hz ha).1 _ _ h1, (ihy hz ha).2 _ _ h2⟩
  | ar n t ih =>
    intro Z Z' w w' hz ha
    exact ⟨fun l cs h => ⟨h.1, h.2.imp (ih hz ha).1⟩, fun _ _ h => h⟩
  | sl t ih =>
    intro Z Z' w w' hz ha
    refine ⟨fun l cs h => ?_, fun _ _ h => h⟩
    obtain ⟨a, c, e, hc, h⟩ := h
    refine ⟨a, c, e, hc, h.imp id ?_⟩
    rintro ⟨b, off, row, e2, hb, hr, hm⟩
    exact ⟨b, off, row, e2, hz b hb, hr.imp (ih hz ha).1, hm.agree (ha b hb)⟩
  | mp k v ihk ihv =>
    intro Z Z' w w' hz ha
    refine ⟨fun l cs h => ?_, fun _ _ h => h⟩
    obtain ⟨r, e, h⟩ := h
    refine ⟨r, e, h.imp id ?_⟩
    rintro ⟨b, es, clk, e2, hb, hm, hr⟩
    exact ⟨b, es, clk, e2, hz b hb, (ha b hb).trans hm, hr.imp (fun x u ⟨c, q1, q2⟩ => ⟨c, q1, (ihk hz ha).1 _ _ q2⟩) (fun x u ⟨c, q1, q2⟩ => ⟨c, q1, (ihv hz ha).1 _ _ q2⟩)⟩
  | pt t ih =>
    intro Z Z' w w' hz ha
    refine ⟨fun x cs h => ?_, fun _ _ h => h⟩
    refine h.imp id ?_
    rintro ⟨y, b, off, row, e1, e2, hb, hr, hm⟩
    exact ⟨y, b, off, row, e1, e2, hz b hb, (ih hz ha).1 _ _ hr, hm.agree (ha b hb)⟩
  | fn x y ihx ihy =>
    intro Z Z' w w' hz ha
    refine ⟨fun φ cs h => ?_, fun _ _ h => h⟩
    obtain ⟨g, first, caps, e, hE, h⟩ := h
    refine ⟨g, first, caps, e, hE, fun Z2 w2 a vs r h1 h2 h3 h4 h5 => h Z2 w2 a vs r (fun b hb => h1 b (hz b hb)) (ha.trans (h2.mono hz)) h3 h4 h5⟩
  | tu t ih =>
    intro Z Z' w w' hz ha
    refine ⟨fun x cs h => ?_, fun _ _ h => h⟩
    obtain ⟨vs, e, h⟩ := h
    exact ⟨vs, e, (ih hz ha).2 _ _ h⟩
theorem RepC.mono {P : Program} {t : T} {Z Z' : Zn} {w w' : World} {x : t.in} {cs : List Value} (h : RepC P t Z w x cs) (hz : Zle Z Z') (ha : Agree Z w w') : RepC P t Z' w' x cs :=
  (rel_mono P t hz ha).1 x cs h
theorem RepV.mono {P : Program} {t : T} {Z Z' : Zn} {w w' : World} {x : t.in} {v : Value} (h : RepV P t Z w x v) (hz : Zle Z Z') (ha : Agree Z w w') : RepV P t Z' w' x v :=
  ⟨h.1, h.2.mono hz ha⟩
theorem RepTs.mono {P : Program} {t : T} {Z Z' : Zn} {w w' : World} {x : t.in} {cs : List Value} (h : RepTs P t Z w x cs) (hz : Zle Z Z') (ha : Agree Z w w') : RepTs P t Z' w' x cs :=
  (rel_mono P t hz ha).2 x cs h

theorem Rows.length {P : Program} {t : T} {Z : Zn} {w : World} (h : ∀ x c, RepC P t Z w x c → c.length = t.sz) : ∀ {l : List t.in} {cs : List Value}, Rows (RepC P t Z w) l cs → cs.length = l.length * t.sz := by
  intro l cs r
  induction r with
  | nil => simp
  | cons hc _ ih => simp [ih, h _ _ hc, Nat.add_mul, Nat.add_comm]
theorem RepC.length {P : Program} : ∀ (t : T) {Z : Zn} {w : World} (x : t.in) (cs : List Value), RepC P t Z w x cs → cs.length = t.sz := by
  intro t
  induction t with
  | i k => intro Z w x cs h; rw [h.1]; rfl
  | b => intro Z w x cs h; rw [show cs = [.bool x] from h]; rfl
  | s => intro Z w x cs h; obtain ⟨_, e, _⟩ := h; rw [e]; rfl
  | er => intro Z w x cs h; rcases h with ⟨_, e⟩ | ⟨_, _, _, e⟩ <;> rw [e] <;> rfl
  | un => intro Z w x cs h; rw [show cs = [] from h]; rfl
  | pr x y ihx ihy => intro Z w p cs h; obtain ⟨c1, c2, e, h1, h2⟩ := h; rw [e, List.length_append, ihx _ _ h1, ihy _ _ h2]; rfl
  | ar n t ih => intro Z w l cs h; have := Rows.length (ih (Z := Z) (w := w)) h.2; rw [this, h.1]; rfl
  | sl t ih => intro Z w l cs h; obtain ⟨_, _, e, _⟩ := h; rw [e]; rfl
  | mp k v _ _ => intro Z w l cs h; obtain ⟨_, e, _⟩ := h; rw [e]; rfl
  | pt t ih => intro Z w x cs h; rcases h with ⟨_, e⟩ | ⟨_, _, _, _, _, e, _⟩ <;> rw [e] <;> rfl
  | fn x y _ _ => intro Z w φ cs h; obtain ⟨_, _, _, e, _⟩ := h; rw [e]; rfl
  | tu t ih => intro Z w x cs h; obtain ⟨_, e, _⟩ := h; rw [e]; rfl
end Ev
/- The evaluator's states and the model's. -/
namespace Ev
open Go

/-- Where in a value's cells a place lies. -/
def offT : T → List Stp → Option Nat
  | _, [] => some 0
  | .pr x _, .f 0 :: r => offT x r
  | .pr x y, .f (n + 1) :: r => (offT y (.f n :: r)).map (x.sz + ·)
  | .ar n u, .x i :: r => if i < n then (offT u r).map (i * u.sz + ·) else none
  | _, _ => none
def nilV : Nat → Value → Prop
  | 0, v => v = .pointer none
  | 1, v => v = .slice none 0 0
  | 2, v => v = .map none
  | 3, v => v = .nilFunc
  | 4, v => v = .nilIface
  | _, _ => False

structure Cx where
  P : Program
  E : Env
  Z : Zn
  w : World
  hp : Nat → Ob
  nx : Nat
  pv : Nat → Value
  bl : Nat → Option Nat

def AV.one : AV → Bool
  | .nil _ | .ptr _ _ | .elp _ _ _ | .sl _ | .ssl _ _ _ | .mp _ => true
  | _ => false
/-- What a reference says of the value. -/
def refV (c : Cx) : AV → Value → Prop
  | .nil k, v => nilV k v
  | .ptr o p, v => o < c.nx ∧ ∀ e x, c.hp o = .box e x → ∃ b t off, c.bl o = some b ∧ c.E.ty e = some t ∧ offT t p = some off ∧ v = .pointer (some ⟨b, off, none⟩)
  | .elp o i p, v => o < c.nx ∧ ∀ e u l k, c.hp o = .arr e u l k → ∃ b a n q off, c.pv o = .slice (some ⟨b, a, none⟩) n q ∧ i < n ∧ offT u p = some off ∧ v = .pointer (some ⟨b, a + (i * u.sz + off), none⟩)
  | .sl o, v => o < c.nx ∧ ∀ e u l k, c.hp o = .arr e u l k → v = c.pv o
  | .ssl o lo n, v => o < c.nx ∧ ∀ e u l k, c.hp o = .arr e u l k → ∃ a N q a' q', c.pv o = .slice a N q ∧ lo + n ≤ N ∧ n ≤ q' ∧ v = .slice a' n q' ∧ (n = 0 ∨ ∃ b s, a = some ⟨b, s, none⟩ ∧ a' = some ⟨b, s + lo * u.sz, none⟩)
  | .mp o, v => o < c.nx ∧ ∀ m k x l r, c.hp o = .map m k x l r → v = c.pv o
  | _, _ => False
/-- Of what type a reference is. -/
def refT (c : Cx) : T → AV → Prop
  | t, .nil k => nilT t k = true
  | t, .sl o => ∀ e u l k, c.hp o = .arr e u l k → t = .sl u
  | t, .mp o => ∀ m k x l r, c.hp o = .map m k x l r → t = .mp k x
  | t, .ptr o [] => ∀ e x, c.hp o = .box e x → ∃ u, c.E.ty e = some u ∧ t = .pt u
  | _, _ => False

/-- A type of references. -/
def T.one : T → Bool
  | .sl _ | .mp _ _ | .pt _ | .er => true
  | _ => false
mutual
inductive RAV (c : Cx) : AV → Value → Prop
  | val {t : T} {x : t.in} {v : Value} : RepV c.P t c.Z c.w x v → RAV c (.val t x) v
  | ref {av : AV} {v : Value} : av.one = true → refV c av v → RAV c av v
  | agg {fs : List AV} {cs : Array Value} (t : T) : t.isAgg = true → RA c t (.agg fs) cs.toList → RAV c (.agg fs) (.agg cs)
  | tup {vs : List AV} {us : Array Value} : RAVs c vs us.toList → RAV c (.tup vs) (.tuple us)
  | clo {g : FuncId} {f q : List AV} {fs qs : Array Value} : RAVs c f fs.toList → RAVs c q qs.toList → RAV c (.clo g f q) (.func (.func g) fs qs)
  | dead {v : Value} : RAV c .dead v
inductive RAVs (c : Cx) : List AV → List Value → Prop
  | nil : RAVs c [] []
  | cons {a : AV} {as : List AV} {v : Value} {vs : List Value} : RAV c a v → RAVs c as vs → RAVs c (a :: as) (v :: vs)
inductive RA (c : Cx) : T → AV → List Value → Prop
  | val {t : T} {x : t.in} {cs : List Value} : RepC c.P t c.Z c.w x cs → RA c t (.val t x) cs
  | ref {t : T} {av : AV} {v : Value} : av.one = true → refV c av v → refT c t av → t.one = true → RA c t av [v]
  | un : RA c .un (.agg []) []
  | pr {x y : T} {v : AV} {r : List AV} {c1 c2 : List Value} : RA c x v c1 → RA c y (.agg r) c2 → RA c (.pr x y) (.agg (v :: r)) (c1 ++ c2)
end

/-- A slice of the function's own. -/
def Own (P : Program) (Z : Zn) (w : World) (e : TypeId) (t : T) (l : List t.in) (k : Nat) (v : Value) : Prop :=
  ∃ xs, Rows (RepC P t Z w) l xs ∧
    ((v = .slice none 0 0 ∧ l = []) ∨ ∃ g cap cur fr, v = .slice (some ⟨g, 0, none⟩) l.length cap ∧ w.heap[g]? = some (.cells cur e fr) ∧ l.length ≤ cap ∧ cap ≤ maxLen ∧
      cur.size = cap * t.sz ∧ cur.toList.take xs.length = xs ∧ (fr = (0, 0) ∨ (k ≠ 0 ∧ cur.size ≤ fr.1)))
def entR (P : Program) (Z : Zn) (w : World) (k v : T) : List (k.in × v.in) → List MapEntry → Prop :=
  entriesR (fun x u => RepV P k Z w x u) (fun x u => RepV P v Z w x u)
def RepOb (c : Cx) (o : Nat) : Ob → Prop
  | .arr e u l k => c.E.ty e = some u ∧ ((k ≤ 1 ∧ Own c.P c.Z c.w e u l k (c.pv o) ∧ c.bl o = (c.pv o).ownBlock) ∨ (k = 2 ∧ c.bl o = none ∧ RepC c.P (.sl u) c.Z c.w l [c.pv o]))
  | .box e x => ∃ t b cs, c.E.ty e = some t ∧ c.bl o = some b ∧ c.w.heap[b]? = some (.cells cs e (0, 0)) ∧ RA c t x cs.toList
  | .map m k v l r => c.E.ty m = some (.mp k v) ∧ ((r = false ∧ ∃ b es clk, c.pv o = .map (some b) ∧ c.bl o = some b ∧ c.w.heap[b]? = some (.map es clk) ∧ entR c.P c.Z c.w k v l es.toList) ∨
      (r = true ∧ c.bl o = none ∧ RepC c.P (.mp k v) c.Z c.w l [c.pv o]))
  | .gone => c.bl o = none

def cx (P : Program) (E : Env) (st : St) (w : World) (Z : Zn) (pv : Nat → Value) (bl : Nat → Option Nat) : Cx := ⟨P, E, Z, w, st.hp, st.nx, pv, bl⟩
structure Sim (P : Program) (E : Env) (st : St) (a : Act) (w : World) (Z : Zn) (pv : Nat → Value) (bl : Nat → Option Nat) : Prop where
  n : st.n = a.tmps.size
  defers : a.defers = []
  out : ∀ i, st.n ≤ i → st.sl i = .dead
  slots : ∀ i, i < st.n → RAV (cx P E st w Z pv bl) (st.sl i) (a.tmps.getD i undef)
  obs : ∀ o, o < st.nx → RepOb (cx P E st w Z pv bl) o (st.hp o)
  fresh : ∀ o, st.nx ≤ o → st.hp o = .gone ∧ bl o = none
  inj : ∀ o o' b, bl o = some b → bl o' = some b → o = o'
  own : ∀ o b, bl o = some b → ¬ Z b ∧ b < w.heap.size
  zok : ZOK Z w
/-- From one moment to a later one. -/
structure Tr (w : World) (Z : Zn) (bl : Nat → Option Nat) (w' : World) (Z' : Zn) (bl' : Nat → Option Nat) : Prop where
  os : w'.os = w.os
  tape : w'.tape = w.tape
  output : w'.output = w.output
  size : w.heap.size ≤ w'.heap.size
  frame : ∀ b, b < w.heap.size → (∀ o, bl o ≠ some b) → w'.heap[b]? = w.heap[b]?
  zle : Zle Z Z'
  znew : ∀ b, Z' b → Z b ∨ (∃ o, bl o = some b) ∨ w.heap.size ≤ b
  bnew : ∀ o b, bl' o = some b → (∃ o', bl o' = some b) ∨ w.heap.size ≤ b
theorem Tr.refl (w : World) (Z : Zn) (bl : Nat → Option Nat) : Tr w Z bl w Z bl :=
  ⟨rfl, rfl, rfl, Nat.le_refl _, fun _ _ _ => rfl, fun _ h => h, fun _ h => .inl h, fun o _ h => .inl ⟨o, h⟩⟩
theorem Tr.trans {w w1 w2 : World} {Z Z1 Z2 : Zn} {bl bl1 bl2 : Nat → Option Nat} (h : Tr w Z bl w1 Z1 bl1) (k : Tr w1 Z1 bl1 w2 Z2 bl2) : Tr w Z bl w2 Z2 bl2 := by
  refine ⟨k.os.trans h.os, k.tape.trans h.tape, k.output.trans h.output, Nat.le_trans h.size k.size, fun b hb hn => ?_, fun b hb => k.zle b (h.zle b hb), fun b hb => ?_, fun o b hb => ?_⟩
  · refine (k.frame b (Nat.lt_of_lt_of_le hb h.size) (fun o ho => ?_)).trans (h.frame b hb hn)
    rcases h.bnew o b ho with ⟨o', h1⟩ | h1
    · exact hn o' h1
    · omega
  · rcases k.znew b hb with h1 | ⟨o, h1⟩ | h1
    · exact h.znew b h1
    · exact .inr (h.bnew o b h1)
    · exact .inr (.inr (Nat.le_trans h.size h1))
  · rcases k.bnew o b hb with ⟨o', h1⟩ | h1
    · exact h.bnew o' b h1
    · exact .inr (Nat.le_trans h.size h1)

/-- What references say stays true. -/
structure Ext (c c' : Cx) : Prop where
  P : c'.P = c.P
  E : c'.E = c.E
  zle : Zle c.Z c'.Z
  agree : Agree c.Z c.w c'.w
  nx : c.nx ≤ c'.nx
  arr : ∀ o e u l k, o < c.nx → c'.hp o = .arr e u l k → c'.pv o = c.pv o ∧ ∃ l k, c.hp o = .arr e u l k
  box : ∀ o e x, o < c.nx → c'.hp o = .box e x → c'.bl o = c.bl o ∧ ∃ x, c.hp o = .box e x
  map : ∀ o m k v l r, o < c.nx → c'.hp o = .map m k v l r → c'.pv o = c.pv o ∧ ∃ l r, c.hp o = .map m k v l r
theorem Ext.refV {c c' : Cx} (h : Ext c c') : ∀ {av : AV} {v : Value}, refV c av v → refV c' av v
  | .nil _, _, q => q
  | .ptr o p, v, ⟨q, r⟩ => ⟨Nat.lt_of_lt_of_le q h.nx, fun e x hx => by
      obtain ⟨hb, x0, h0⟩ := h.box o e x q hx
      rw [h.E, hb]
      exact r e x0 h0⟩
  | .elp o i p, v, ⟨q, r⟩ => ⟨Nat.lt_of_lt_of_le q h.nx, fun e u l k hx => by
      obtain ⟨hp, l0, k0, h0⟩ := h.arr o e u l k q hx
      rw [hp]
      exact r e u l0 k0 h0⟩
  | .sl o, v, ⟨q, r⟩ => ⟨Nat.lt_of_lt_of_le q h.nx, fun e u l k hx => by
      obtain ⟨hp, l0, k0, h0⟩ := h.arr o e u l k q hx
      rw [hp]
      exact r e u l0 k0 h0⟩
  | .ssl o lo n, v, ⟨q, r⟩ => ⟨Nat.lt_of_lt_of_le q h.nx, fun e u l k hx => by
      obtain ⟨hp, l0, k0, h0⟩ := h.arr o e u l k q hx
      rw [hp]
      exact r e u l0 k0 h0⟩
  | .mp o, v, ⟨q, r⟩ => ⟨Nat.lt_of_lt_of_le q h.nx, fun m k x l s hx => by
      obtain ⟨hp, l0, k0, h0⟩ := h.map o m k x l s q hx
      rw [hp]
      exact r m k x l0 k0 h0⟩
theorem Ext.refT {c c' : Cx} (h : Ext c c') {v : Value} : ∀ {t : T} {av : AV}, Ev.refV c av v → refT c t av → refT c' t av
  | _, .nil _, _, q => q
  | _, .sl o, r, q => fun e u l k hx => by
      obtain ⟨_, l0, k0, h0⟩ := h.arr o e u l k r.1 hx
      exact q e u l0 k0 h0
  | _, .mp o, r, q => fun m k x l s hx => by
      obtain ⟨_, l0, k0, h0⟩ := h.map o m k x l s r.1 hx
      exact q m k x l0 k0 h0
  | _, .ptr o [], r, q => fun e x hx => by
      obtain ⟨_, x0, h0⟩ := h.box o e x r.1 hx
      rw [h.E]
      exact q e x0 h0
mutual
theorem RAV.ext {c c' : Cx} (h : Ext c c') : ∀ {av : AV} {v : Value}, RAV c av v → RAV c' av v
  | _, _, .val q => .val (by rw [h.P]; exact q.mono h.zle h.agree)
  | _, _, .ref a b => .ref a (h.refV b)
  | _, _, .agg t a b => .agg t a (RA.ext h b)
  | _, _, .tup a => .tup (RAVs.ext h a)
  | _, _, .clo a b => .clo (RAVs.ext h a) (RAVs.ext h b)
  | _, _, .dead => .dead
theorem RAVs.ext {c c' : Cx} (h : Ext c c') : ∀ {av : List AV} {v : List Value}, RAVs c av v → RAVs c' av v
  | _, _, .nil => .nil
  | _, _, .cons a b => .cons (RAV.ext h a) (RAVs.ext h b)
theorem RA.ext {c c' : Cx} (h : Ext c c') : ∀ {t : T} {av : AV} {v : List Value}, RA c t av v → RA c' t av v
  | _, _, _, .val q => .val (by rw [h.P]; exact q.mono h.zle h.agree)
  | _, _, _, .ref a b d e => .ref a (h.refV b) (h.refT b d) e
  | _, _, _, .un => .un
  | _, _, _, .pr a b => .pr (RA.ext h a) (RA.ext h b)
end
theorem Own.mono {P : Program} {Z Z' : Zn} {w w' : World} {e : TypeId} {t : T} {l : List t.in} {k : Nat} {v : Value} (h : Own P Z w e t l k v) (hz : Zle Z Z') (ha : Agree Z w w')
    (hb : ∀ b, v.ownBlock = some b → w'.heap[b]? = w.heap[b]?) : Own P Z' w' e t l k v := by
  obtain ⟨xs, h1, h2⟩ := h
  refine ⟨xs, h1.imp fun _ _ q => q.mono hz ha, h2.imp id ?_⟩
  rintro ⟨g, cap, cur, fr, e1, e2, r⟩
  exact ⟨g, cap, cur, fr, e1, (hb g (by rw [e1]; rfl)).trans e2, r⟩
theorem RepV.monoF {P : Program} {t : T} {Z Z' : Zn} {w w' : World} (hz : Zle Z Z') (ha : Agree Z w w') : ∀ (x : t.in) (v : Value), RepV P t Z w x v → RepV P t Z' w' x v := fun _ _ h => h.mono hz ha
/-- An object that nobody touched. -/
theorem RepOb.ext {c c' : Cx} (h : Ext c c') {o : Nat} {ob : Ob} (hb : c'.bl o = c.bl o) (hp : c'.pv o = c.pv o) (hk : ∀ b, c.bl o = some b → c'.w.heap[b]? = c.w.heap[b]?) (r : RepOb c o ob) : RepOb c' o ob := by
  cases ob with
  | arr e u l k =>
    obtain ⟨h1, h2⟩ := r
    refine ⟨by rw [h.E]; exact h1, ?_⟩
    rcases h2 with ⟨a, b, d⟩ | ⟨a, b, d⟩
    · exact .inl ⟨a, by rw [h.P, hp]; exact b.mono h.zle h.agree (fun g hg => hk g (d.trans hg)), by rw [hb, hp]; exact d⟩
    · exact .inr ⟨a, by rw [hb]; exact b, by rw [h.P, hp]; exact d.mono h.zle h.agree⟩
  | box e x =>
    obtain ⟨t, b, cs, h1, h2, h3, h4⟩ := r
    exact ⟨t, b, cs, by rw [h.E]; exact h1, by rw [hb]; exact h2, (hk b h2).trans h3, h4.ext h⟩
  | map m k v l ro =>
    obtain ⟨h1, h2⟩ := r
    refine ⟨by rw [h.E]; exact h1, ?_⟩
    rcases h2 with ⟨a, b, es, clk, d1, d2, d3, d4⟩ | ⟨a, b, d⟩
    · exact .inl ⟨a, b, es, clk, by rw [hp]; exact d1, by rw [hb]; exact d2, (hk b d2).trans d3, by rw [h.P]; exact d4.imp (RepV.monoF h.zle h.agree) (RepV.monoF h.zle h.agree)⟩
    · exact .inr ⟨a, by rw [hb]; exact b, by rw [h.P, hp]; exact d.mono h.zle h.agree⟩
  | gone => exact hb.trans r

section
variable {P : Program} {E : Env} {st : St} {a : Act} {w : World} {Z : Zn} {pv : Nat → Value} {bl : Nat → Option Nat}
theorem Sim.slot (h : Sim P E st a w Z pv bl) (i : Nat) : RAV (cx P E st w Z pv bl) (st.sl i) (a.tmps.getD i undef) := by
  by_cases hi : i < st.n
  · exact h.slots i hi
  · rw [h.out i (by omega)]; exact .dead
/-- A world in which nothing that stood has turned. -/
def Kept (w w' : World) : Prop := w'.os = w.os ∧ w'.tape = w.tape ∧ w'.output = w.output ∧ w.heap.size ≤ w'.heap.size ∧ ∀ b, b < w.heap.size → w'.heap[b]? = w.heap[b]?
theorem Kept.agree {w w' : World} (h : Kept w w') {Z : Zn} (hz : ZOK Z w) : Agree Z w w' := fun b hb => h.2.2.2.2 b (hz b hb)
theorem Sim.kept (h : Sim P E st a w Z pv bl) {w' : World} (k : Kept w w') : Sim P E st a w' Z pv bl := by
  have hx : Ext (cx P E st w Z pv bl) (cx P E st w' Z pv bl) := ⟨rfl, rfl, fun _ h => h, k.agree h.zok, Nat.le_refl _, fun o e u l q _ h => ⟨rfl, l, q, h⟩, fun o e x _ h => ⟨rfl, x, h⟩, fun o m q v l r _ h => ⟨rfl, l, r, h⟩⟩
  exact ⟨h.n, h.defers, h.out, fun i hi => (h.slots i hi).ext hx, fun o ho => (h.obs o ho).ext hx rfl rfl (fun b hb => k.2.2.2.2 b (h.own o b hb).2), h.fresh, h.inj, fun o b hb => ⟨(h.own o b hb).1, Nat.lt_of_lt_of_le (h.own o b hb).2 k.2.2.2.1⟩, fun b hb => Nat.lt_of_lt_of_le (h.zok b hb) k.2.2.2.1⟩
theorem Kept.refl (w : World) : Kept w w := ⟨rfl, rfl, rfl, Nat.le_refl _, fun _ _ => rfl⟩
theorem Kept.trans {a b c : World} (h : Kept a b) (k : Kept b c) : Kept a c :=
  ⟨k.1.trans h.1, k.2.1.trans h.2.1, k.2.2.1.trans h.2.2.1, Nat.le_trans h.2.2.2.1 k.2.2.2.1, fun i hi => (k.2.2.2.2 i (Nat.lt_of_lt_of_le hi h.2.2.2.1)).trans (h.2.2.2.2 i hi)⟩
/-- A value put into a slot. -/
theorem Sim.put (h : Sim P E st a w Z pv bl) (d : Option Nat) {av : AV} {v : Value} (hv : RAV (cx P E st w Z pv bl) av v) : Sim P E (st.put d av) (a.put d v) w Z pv bl := by
  cases d with
  | none => exact h
  | some d =>
    by_cases hd : d < st.n
    · have e : st.put (some d) av = { st with sl := fun j => if Nat.beq j d = true then av else st.sl j } := by
        unfold St.put; simp only []; rw [if_pos (by simpa [Nat.blt_eq] using hd)]
      rw [e]
      refine ⟨by simp [Act.put, h.n], h.defers, fun i hi => ?_, fun i hi => ?_, h.obs, h.fresh, h.inj, h.own, h.zok⟩
      · show (if Nat.beq i d = true then av else st.sl i) = .dead
        rw [if_neg (by intro q; have := Nat.eq_of_beq_eq_true q; have : st.n ≤ i := hi; omega)]
        exact h.out i hi
      · show RAV _ (if Nat.beq i d = true then av else st.sl i) ((a.tmps.setIfInBounds d v).getD i undef)
        have hsz := h.n
        by_cases hid : i = d
        · subst hid
          rw [if_pos (Nat.beq_refl i)]
          have : (a.tmps.setIfInBounds i v).getD i undef = v := by simp [Array.getD, show i < a.tmps.size by omega]
          rw [this]; exact hv
        · rw [if_neg (by intro q; exact hid (Nat.eq_of_beq_eq_true q))]
          have : (a.tmps.setIfInBounds d v).getD i undef = a.tmps.getD i undef := by
            simp only [Array.getD_eq_getD_getElem?]
            rw [Array.getElem?_setIfInBounds_ne (fun q => hid q.symm)]
          rw [this]; exact h.slot i
    · have e : st.put (some d) av = st := by
        unfold St.put; simp only []; rw [if_neg (by simpa [Nat.blt_eq] using hd)]
      rw [e]
      have e2 : a.put (some d) v = a := by
        show { a with tmps := a.tmps.setIfInBounds d v } = a
        rw [Array.setIfInBounds_eq_of_size_le (by have := h.n; omega)]
      rw [e2]; exact h
end
end Ev
/- Reading a value out of memory: what the evaluator tells is there. -/
namespace Ev
open Go

/-- What is frozen once the objects 'ids' are read alone. -/
def Zt (Z : Zn) (bl : Nat → Option Nat) (ids : List Nat) : Zn := fun b => Z b ∨ ∃ o ∈ ids, bl o = some b
theorem Zt.le (Z : Zn) (bl : Nat → Option Nat) (ids : List Nat) : Zle Z (Zt Z bl ids) := fun _ h => .inl h
theorem Zt.mono {Z : Zn} {bl : Nat → Option Nat} {i j : List Nat} (h : ∀ x ∈ i, x ∈ j) : Zle (Zt Z bl i) (Zt Z bl j) := fun _ hb => hb.imp id (fun ⟨o, ho, h2⟩ => ⟨o, h o ho, h2⟩)
theorem Zt.app1 (Z : Zn) (bl : Nat → Option Nat) (i j : List Nat) : Zle (Zt Z bl i) (Zt Z bl (i ++ j)) := Zt.mono fun _ h => List.mem_append_left _ h
theorem Zt.app2 (Z : Zn) (bl : Nat → Option Nat) (i j : List Nat) : Zle (Zt Z bl j) (Zt Z bl (i ++ j)) := Zt.mono fun _ h => List.mem_append_right _ h

theorem cast_some {t u : T} {x : t.in} {y : u.in} (h : T.cast t u x = some y) : ∃ e : t = u, y = e ▸ x := by
  unfold T.cast at h
  by_cases e : t = u
  · rw [dif_pos e] at h; exact ⟨e, (Option.some.inj h).symm⟩
  · rw [dif_neg e] at h; cases h

theorem Rows.len_eq {α : Type} {C : α → List Value → Prop} {n : Nat} (hC : ∀ x c, C x c → c.length = n) : ∀ {l : List α} {cs : List Value}, Rows C l cs → cs.length = l.length * n := by
  intro l cs r
  induction r with
  | nil => simp
  | cons hc _ ih => simp [ih, hC _ _ hc, Nat.add_mul, Nat.add_comm]
theorem Rows.drop {α : Type} {C : α → List Value → Prop} {n : Nat} (hC : ∀ x c, C x c → c.length = n) : ∀ (k : Nat) {l : List α} {cs : List Value}, Rows C l cs → Rows C (l.drop k) (cs.drop (k * n)) := by
  intro k
  induction k with
  | zero => intro l cs r; simpa using r
  | succ k ih =>
    intro l cs r
    cases r with
    | nil => simpa using Rows.nil
    | @cons x xs c cs hc hr =>
      have := ih hr
      have e : (c ++ cs).drop ((k + 1) * n) = cs.drop (k * n) := by
        rw [List.drop_append, hC _ _ hc, Nat.add_mul, Nat.one_mul, Nat.add_sub_cancel]
        rw [List.drop_of_length_le (by rw [hC _ _ hc]; omega), List.nil_append]
      rw [e]; exact this
theorem Rows.take {α : Type} {C : α → List Value → Prop} {n : Nat} (hC : ∀ x c, C x c → c.length = n) : ∀ (k : Nat) {l : List α} {cs : List Value}, Rows C l cs → Rows C (l.take k) (cs.take (k * n)) := by
  intro k
  induction k with
  | zero => intro l cs r; simpa using Rows.nil
  | succ k ih =>
    intro l cs r
    cases r with
    | nil => simpa using Rows.nil
    | @cons x xs c cs hc hr =>
      have := ih hr
      have e : (c ++ cs).take ((k + 1) * n) = c ++ cs.take (k * n) := by
        rw [List.take_append, hC _ _ hc, Nat.add_mul, Nat.one_mul, Nat.add_sub_cancel]
        rw [List.take_of_length_le (by rw [hC _ _ hc]; omega)]
      rw [e]; exact .cons hc this
theorem Rows.append {α : Type} {C : α → List Value → Prop} : ∀ {l m : List α} {cs ds : List Value}, Rows C l cs → Rows C m ds → Rows C (l ++ m) (cs ++ ds) := by
  intro l m cs ds r
  induction r with
  | nil => intro h; exact h
  | cons hc _ ih => intro h; rw [List.append_assoc]; exact .cons hc (ih h)
theorem Rows.get {α : Type} {C : α → List Value → Prop} {n : Nat} (hC : ∀ x c, C x c → c.length = n) : ∀ (k : Nat) {l : List α} {cs : List Value} (d : α), Rows C l cs → k < l.length → C (l.getD k d) ((cs.drop (k * n)).take n) := by
  intro k
  induction k with
  | zero =>
    intro l cs d r hk
    cases r with
    | nil => simp at hk
    | @cons x xs c cs hc hr =>
      have : ((c ++ cs).drop (0 * n)).take n = c := by
        rw [Nat.zero_mul, List.drop_zero, List.take_append_of_le_length (by rw [hC _ _ hc]; exact Nat.le_refl n), List.take_of_length_le (by rw [hC _ _ hc]; exact Nat.le_refl n)]
      rw [this]; exact hc
  | succ k ih =>
    intro l cs d r hk
    cases r with
    | nil => simp at hk
    | @cons x xs c cs hc hr =>
      have e : (c ++ cs).drop ((k + 1) * n) = cs.drop (k * n) := by
        rw [List.drop_append, hC _ _ hc, Nat.add_mul, Nat.one_mul, Nat.add_sub_cancel]
        rw [List.drop_of_length_le (by rw [hC _ _ hc]; omega), List.nil_append]
      rw [e]
      have := ih d hr (by simpa using hk)
      simpa using this
theorem RepC.len {P : Program} {t : T} {Z : Zn} {w : World} : ∀ x c, RepC P t Z w x c → c.length = t.sz := fun x c h => RepC.length t x c h

theorem Own.rep {P : Program} {Z Z' : Zn} {w : World} {e : TypeId} {t : T} {l : List t.in} {k : Nat} {v : Value} (h : Own P Z w e t l k v) (hz : Zle Z Z') (hb : ∀ b, v.ownBlock = some b → Z' b) : RepC P (.sl t) Z' w l [v] := by
  obtain ⟨xs, h1, h2⟩ := h
  rcases h2 with ⟨rfl, rfl⟩ | ⟨g, cap, cur, fr, rfl, h3, h4, h5, h6, h7, h8⟩
  · exact ⟨none, 0, rfl, Nat.le_refl _, .inl rfl⟩
  · refine ⟨_, cap, rfl, h4, .inr ⟨g, 0, xs, rfl, hb g rfl, h1.imp fun _ _ q => q.mono hz (Agree.refl _ _), cur, e, fr, h3, ?_, ?_⟩⟩
    · have hl := Rows.len_eq RepC.len h1
      rw [hl, h6, Nat.zero_add]; exact Nat.mul_le_mul_right _ h4
    · rw [List.drop_zero]; exact h7

def RT.tail : RT → Bool
  | .un | .pr _ _ => true
  | _ => false
/-- What an oracle's contract says. -/
def RetMem (P : Program) : (r : RT) → Zn → World → r.in → Value → List Nat → Prop
  | .v t, Z, w, x, v, L => RepV P t Z w x v ∧ L = []
  | .o e t, Z, w, l, v, L => Own P Z w e t l 0 v ∧ L = v.ownBlock.toList
  | .un, _, _, _, v, L => v = .tuple #[] ∧ L = []
  | .pr x y, Z, w, p, v, L => ∃ v1 vs L1 L2, y.tail = true ∧ v = .tuple (v1 :: vs).toArray ∧ L = L1 ++ L2 ∧ RetMem P x Z w p.1 v1 L1 ∧ RetMem P y Z w p.2 (.tuple vs.toArray) L2
def ArgMem (P : Program) : (ps : List PM) → Zn → World → PIn ps → List Value → List Nat → Prop
  | [], _, _, _, vs, L => vs = [] ∧ L = []
  | .v t :: ps, Z, w, p, vs, L => ∃ v r, vs = v :: r ∧ RepV P t Z w p.1 v ∧ ArgMem P ps Z w p.2 r L
  | .io e t :: ps, Z, w, p, vs, L => ∃ v r L2, vs = v :: r ∧ L = v.ownBlock.toList ++ L2 ∧ Own P Z w e t p.1 0 v ∧ ArgMem P ps Z w p.2 r L2
  | .ib e t :: ps, Z, w, p, vs, L => ∃ b r L2 cs, vs = .pointer (some ⟨b, 0, none⟩) :: r ∧ L = b :: L2 ∧ w.heap[b]? = some (.cells cs e (0, 0)) ∧ RepC P t Z w p.1 cs.toList ∧ ArgMem P ps Z w p.2 r L2
def OutMem (P : Program) : (ps : List PM) → Zn → World → POut ps → List Value → Prop
  | [], _, _, _, vs => vs = []
  | .v _ :: ps, Z, w, p, vs => ∃ v r, vs = v :: r ∧ OutMem P ps Z w p r
  | .io e t :: ps, Z, w, p, vs => ∃ v r, vs = v :: r ∧ Own P Z w e t p.1 0 v ∧ OutMem P ps Z w p.2 r
  | .ib e t :: ps, Z, w, p, vs => ∃ b r cs, vs = .pointer (some ⟨b, 0, none⟩) :: r ∧ w.heap[b]? = some (.cells cs e (0, 0)) ∧ RepC P t Z w p.1 cs.toList ∧ OutMem P ps Z w p.2 r
/-- Called with what the parameters tell, the function comes back with what F tells. -/
structure Contract (P : Program) (g : FuncId) (o : Orc) : Prop where
  enters : Enters P g
  run :  ∀ (w : World) (Z : Zn) (x : PIn o.ps) (vs : List Value) (L : List Nat) (y : Ret o.ps o.rt.in), o.F x = some y → ZOK Z w → ArgMem P o.ps Z w x vs L → L.Nodup → (∀ b ∈ L, b < w.heap.size ∧ ¬ Z b) →
    Calls P g vs.toArray w fun e w' => ∃ v Z' L1, e = .returned v ∧ Step L w w' ∧ Zle Z Z' ∧ Znew Z Z' w w' ∧ RetMem P o.rt Z' w' (retRes o.ps y) v L1 ∧ L1.Nodup ∧
      (∀ b ∈ L1, w.heap.size ≤ b ∧ b < w'.heap.size ∧ ¬ Z' b) ∧ OutMem P o.ps Z' w' (retOut o.ps y) vs

/-- The frozen zone and some blocks more. -/
def Zp (Z : Zn) (L : List Nat) : Zn := fun b => Z b ∨ b ∈ L
theorem Zp.le (Z : Zn) (L : List Nat) : Zle Z (Zp Z L) := fun _ h => .inl h
theorem Zp.mono {Z : Zn} {L M : List Nat} (h : ∀ x ∈ L, x ∈ M) : Zle (Zp Z L) (Zp Z M) := fun _ hb => hb.imp id (h _)
theorem RetMem.rep2 {P : Program} {Z : Zn} {w : World} : ∀ (r : RT) {x : r.in} {v : Value} {L : List Nat}, RetMem P r Z w x v L →
    RepV P r.tt.1 (Zp Z L) w (r.vv x).1 v ∧ (∀ vs : List Value, v = .tuple vs.toArray → r.tail = true → RepTs P r.tt.2 (Zp Z L) w (r.vv x).2 vs) := by
  intro r
  induction r with
  | v t =>
    intro x v L h
    exact ⟨h.1.mono (Zp.le _ _) (Agree.refl _ _), fun _ _ q => by cases q⟩
  | o e t =>
    intro x v L h
    refine ⟨⟨?_, ?_⟩, fun _ _ q => by cases q⟩
    · obtain ⟨⟨xs, _, h2⟩, _⟩ := h
      rcases h2 with ⟨rfl, _⟩ | ⟨g, cap, cur, fr, rfl, _⟩ <;> rfl
    · have hr := h.1.rep (Z' := Zp Z L) (Zp.le _ _) (fun b hb => .inr (by rw [h.2, hb]; simp))
      obtain ⟨⟨xs, _, h2⟩, _⟩ := h
      rcases h2 with ⟨rfl, _⟩ | ⟨g, cap, cur, fr, rfl, _⟩ <;> exact hr
  | un =>
    intro x v L h
    obtain ⟨rfl, rfl⟩ := h
    refine ⟨⟨rfl, #[], rfl, rfl⟩, fun vs e _ => ?_⟩
    have : vs = [] := by simpa using (Value.tuple.inj e).symm
    subst this; rfl
  | pr a b iha ihb =>
    intro x v L h
    obtain ⟨v1, vs, L1, L2, ht, rfl, rfl, h1, h2⟩ := h
    have p1 := (iha h1).1.mono (Zp.mono (M := L1 ++ L2) fun _ q => List.mem_append_left _ q) (Agree.refl _ _)
    have tl : RepTs P b.tt.2 (Zp Z (L1 ++ L2)) w (b.vv x.2).2 vs :=
      ((ihb h2).2 vs rfl ht).mono (Zp.mono fun _ q => List.mem_append_right _ q) (Agree.refl _ _)
    have full : RepTs P (RT.pr a b).tt.2 (Zp Z (L1 ++ L2)) w ((RT.pr a b).vv x).2 (v1 :: vs) :=
      ⟨v1, v1.cells.toList, vs, rfl, asV_cells.2 p1.1, p1.2, tl⟩
    refine ⟨⟨rfl, (v1 :: vs).toArray, rfl, ?_⟩, fun us e _ => ?_⟩
    · have e : (v1 :: vs).toArray.toList = v1 :: vs := rfl
      rw [e]; exact full
    · have : us = v1 :: vs := by simpa using (Value.tuple.inj e).symm
      subst this; exact full
end Ev
/- Reading a value out of memory: what the evaluator tells is there (2). -/
namespace Ev
open Go

theorem RAVs.len {c : Cx} : ∀ {as : List AV} {vs : List Value}, RAVs c as vs → as.length = vs.length
  | _, _, .nil => rfl
  | _, _, .cons _ h => by simp [RAVs.len h]

theorem fnArgs_sound {P : Program} {c : Cx} {Z1 Z' : Zn} {w w' : World} {sn : (t : T) → AV → Option t.in}
    (hz : Zle Z1 Z') (ha : Agree Z1 w w') :
    ∀ (ps : List PM) (x : T) (a : x.in) (first caps : List AV) (p : PIn ps) (fs qs vs : List Value),
      (∀ t av v y, (av ∈ first ∨ av ∈ caps) → RAV c av v → sn t av = some y → RepV P t Z1 w y v) →
      fnArgs sn ps x a first caps = some p → RAVs c first fs → RAVs c caps qs → RepTs P x Z' w' a vs → ArgMem P ps Z' w' p (fs ++ vs ++ qs) [] := by
  intro ps
  induction ps with
  | nil =>
    intro x a first caps p fs qs vs hs h hf hq ht
    cases first with
    | cons _ _ => cases caps <;> simp [fnArgs] at h
    | nil =>
      cases caps with
      | cons _ _ => simp [fnArgs] at h
      | nil =>
        cases x <;> simp [fnArgs] at h
        cases hf; cases hq
        have : vs = [] := ht
        subst this
        exact ⟨rfl, rfl⟩
  | cons m ps ih =>
    intro x a first caps p fs qs vs hs h hf hq ht
    cases m with
    | io e t => cases first <;> cases x <;> cases caps <;> simp [fnArgs] at h
    | ib e t => cases first <;> cases x <;> cases caps <;> simp [fnArgs] at h
    | v t =>
      cases first with
      | cons f first =>
        simp only [fnArgs] at h
        cases hsn : sn t f with
        | none => rw [hsn] at h; cases h
        | some y =>
          rw [hsn] at h
          simp only [] at h
          cases hr : fnArgs sn ps x a first caps with
          | none => rw [hr] at h; cases h
          | some r =>
            rw [hr] at h
            obtain rfl := Option.some.inj h
            cases hf with
            | @cons _ _ v vs' hv hfs =>
              exact ⟨v, vs' ++ vs ++ qs, by simp, (hs t f v y (.inl (by simp)) hv hsn).mono hz ha,
                ih x a first caps r vs' qs vs (fun t av v y hm => hs t av v y (hm.imp (List.mem_cons_of_mem _) id)) hr hfs hq ht⟩
      | nil =>
        cases x with
        | pr x1 x2 =>
          simp only [fnArgs] at h
          cases hc : T.cast x1 t a.1 with
          | none => rw [hc] at h; cases h
          | some y =>
            rw [hc] at h
            simp only [] at h
            cases hr : fnArgs sn ps x2 a.2 [] caps with
            | none => rw [hr] at h; cases h
            | some r =>
              rw [hr] at h
              obtain rfl := Option.some.inj h
              obtain ⟨e, e2⟩ := cast_some hc
              subst e
              subst e2
              obtain ⟨v, cs, rr, rfl, q1, q2, q3⟩ := ht
              cases hf
              exact ⟨v, rr ++ qs, by simp, ⟨q1.2, by rw [← q1.1]; exact q2⟩, ih x2 a.2 [] caps r [] qs rr hs hr .nil hq q3⟩
        | un =>
          cases caps with
          | nil => simp [fnArgs] at h
          | cons q caps =>
            simp only [fnArgs] at h
            cases hsn : sn t q with
            | none => rw [hsn] at h; cases h
            | some y =>
              rw [hsn] at h
              simp only [] at h
              cases hr : fnArgs sn ps .un () [] caps with
              | none => rw [hr] at h; cases h
              | some r =>
                rw [hr] at h
                obtain rfl := Option.some.inj h
                have : vs = [] := ht
                subst this
                cases hf
                cases hq with
                | @cons _ _ v vs' hv hqs =>
                  exact ⟨v, vs', by simp, (hs t q v y (.inr (by simp)) hv hsn).mono hz ha,
                    ih .un () [] caps r [] vs' [] (fun t av v y hm => hs t av v y (hm.imp id (List.mem_cons_of_mem _))) hr .nil hqs rfl⟩
        | _ => cases caps <;> simp [fnArgs] at h

theorem fnCall_sound {P : Program} {c : Cx} {Z1 : Zn} {w : World} {sn : (t : T) → AV → Option t.in} {g : FuncId} {o : Orc} (hg : Contract P g o) {x y : T} {first caps : List AV}
    {fs qs : Array Value} (hf : RAVs c first fs.toList) (hq : RAVs c caps qs.toList)
    (hs : ∀ t av v y, (av ∈ first ∨ av ∈ caps) → RAV c av v → sn t av = some y → RepV P t Z1 w y v) :
    RepC P (.fn x y) Z1 w (fnCall sn o y x first caps) [.func (.func g) fs qs] := by
  refine ⟨g, fs, qs, rfl, hg.enters, fun Z' w' a vs r hz ha hok ht hr => ?_⟩
  unfold fnCall at hr
  cases hp : fnArgs sn o.ps x a first caps with
  | none => rw [hp] at hr; cases hr
  | some p =>
    rw [hp] at hr
    simp only [] at hr
    cases hF : o.F p with
    | none => rw [hF] at hr; cases hr
    | some z =>
      rw [hF] at hr
      obtain ⟨e, e2⟩ := cast_some (show T.cast o.rt.toT y (o.rt.inT (retRes o.ps z)) = some r from hr)
      subst e
      subst e2
      have hA := fnArgs_sound (P := P) hz ha o.ps x a first caps p fs.toList qs.toList vs hs hp hf hq ht
      have hC := hg.run w' Z' p _ [] z hF hok hA List.nodup_nil (fun _ h => by cases h)
      have eA : (fs.toList ++ vs ++ qs.toList).toArray = fs ++ vs.toArray ++ qs := by simp
      rw [eA] at hC
      refine hC.mono fun e w'' => ?_
      rintro ⟨v, Z2, L1, rfl, h1, h2, h3, h4, h5, h6, h7⟩
      have hv := (RetMem.rep2 o.rt h4).1
      refine ⟨v, v.cells.toList, Zp Z2 L1, rfl, h1, fun b hb => .inl (h2 b hb), fun b hb => ?_, asV_cells.2 hv.1, hv.2⟩
      rcases hb with hb | hb
      · exact h3 b hb
      · exact .inr ⟨(h6 b hb).1, (h6 b hb).2.1⟩

section
variable {P : Program} {E : Env} {st : St} {w : World} {Z : Zn} {pv : Nat → Value} {bl : Nat → Option Nat}

theorem nilOf_sound {t : T} {k : Nat} {x : t.in} {v : Value} (h : nilOf t k = some x) (hv : nilV k v) {Z : Zn} : RepV P t Z w x v := by
  unfold nilOf at h
  split at h
  · obtain rfl := Option.some.inj h
    have : v = .slice none 0 0 := hv
    subst this
    exact ⟨rfl, none, 0, rfl, Nat.le_refl _, .inl rfl⟩
  · obtain rfl := Option.some.inj h
    have : v = .map none := hv
    subst this
    exact ⟨rfl, none, rfl, .inl ⟨rfl, rfl⟩⟩
  · obtain rfl := Option.some.inj h
    have : v = .pointer none := hv
    subst this
    exact ⟨rfl, .inl ⟨rfl, rfl⟩⟩
  · obtain rfl := Option.some.inj h
    have : v = .nilIface := hv
    subst this
    exact ⟨rfl, .inl ⟨rfl, rfl⟩⟩
  · cases h

theorem RepC.one {t : T} {x : t.in} {v : Value} (ha : isAggV v = false) (ht : t.isAgg = false) (h : RepC P t Z w x [v]) : RepV P t Z w x v := by
  refine ⟨by rw [ha, ht], ?_⟩
  have : v.cells.toList = [v] := by cases v <;> first | rfl | (simp [isAggV] at ha)
  rw [this]; exact h
theorem isAggV_slice {P : Program} {t : T} {Z : Zn} {w : World} {l : (T.sl t).in} {v : Value} (h : RepC P (.sl t) Z w l [v]) : isAggV v = false := by
  obtain ⟨a, c, e, _⟩ := h
  cases e; rfl
theorem isAggV_map {P : Program} {k u : T} {Z : Zn} {w : World} {l : (T.mp k u).in} {v : Value} (h : RepC P (.mp k u) Z w l [v]) : isAggV v = false := by
  obtain ⟨r, e, _⟩ := h
  cases e; rfl

/-- A slice of the function's own or of what is read alone, read. -/
theorem arr_rep {o : Nat} {e : TypeId} {u : T} {l : List u.in} {k : Nat} (h : RepOb (cx P E st w Z pv bl) o (.arr e u l k)) {Z' : Zn} (hz : Zle Z Z') (hb : ∀ b, bl o = some b → Z' b) :
    RepC P (.sl u) Z' w l [pv o] := by
  rcases h.2 with ⟨_, h1, h2⟩ | ⟨_, _, h1⟩
  · exact h1.rep hz (fun b q => hb b (h2.trans q))
  · exact h1.mono hz (Agree.refl _ _)
theorem map_rep {o : Nat} {m : TypeId} {k u : T} {l : List (k.in × u.in)} {r : Bool} (h : RepOb (cx P E st w Z pv bl) o (.map m k u l r)) {Z' : Zn} (hz : Zle Z Z') (hb : ∀ b, bl o = some b → Z' b) :
    RepC P (.mp k u) Z' w l [pv o] := by
  rcases h.2 with ⟨_, b, es, clk, h1, h2, h3, h4⟩ | ⟨_, _, h1⟩
  · refine ⟨some b, by rw [show pv o = _ from h1], .inr ⟨b, es, clk, rfl, hb b h2, h3, ?_⟩⟩
    exact h4.imp (fun x v q => ⟨v.cells.toList, asV_cells.2 q.1, (q.mono hz (Agree.refl _ _)).2⟩) (fun x v q => ⟨v.cells.toList, asV_cells.2 q.1, (q.mono hz (Agree.refl _ _)).2⟩)
  · exact h1.mono hz (Agree.refl _ _)
/-- A part of a slice, read. -/
theorem part_rep {u : T} {l : List u.in} {Z' : Zn} {a a' : Option Addr} {N q q' lo n : Nat} (h : RepC P (.sl u) Z' w l [.slice a N q]) (h1 : lo + n ≤ N) (h2 : n ≤ q')
    (h3 : n = 0 ∨ ∃ b s, a = some ⟨b, s, none⟩ ∧ a' = some ⟨b, s + lo * u.sz, none⟩) : RepC P (.sl u) Z' w ((l.drop lo).take n) [.slice a' n q'] := by
  obtain ⟨a0, c0, e, hc, h⟩ := h
  cases e
  have hlen : ((l.drop lo).take n).length = n := by rw [List.length_take, List.length_drop]; omega
  refine ⟨a', q', by rw [hlen], by rw [hlen]; exact h2, ?_⟩
  rcases h3 with h3 | ⟨b, s, rfl, rfl⟩
  · left; apply List.eq_nil_of_length_eq_zero; rw [hlen]; exact h3
  · by_cases hn : n = 0
    · left; apply List.eq_nil_of_length_eq_zero; rw [hlen]; exact hn
    · right
      rcases h with h | ⟨b', off, row, e2, hb, hr, hm⟩
      · subst h; simp at h1; omega
      · cases e2
        refine ⟨b, s + lo * u.sz, ((row.drop (lo * u.sz)).take (n * u.sz)), rfl, hb, (hr.drop RepC.len lo).take RepC.len n, ?_⟩
        obtain ⟨cells, ee, fr, m1, m2, m3⟩ := hm
        have hl := Rows.len_eq RepC.len hr
        have hrow : ((row.drop (lo * u.sz)).take (n * u.sz)).length = n * u.sz := by
          rw [List.length_take, List.length_drop, hl]
          have : lo * u.sz + n * u.sz ≤ l.length * u.sz := by rw [← Nat.add_mul]; exact Nat.mul_le_mul_right _ h1
          omega
        have hle : lo * u.sz + n * u.sz ≤ row.length := by rw [hl, ← Nat.add_mul]; exact Nat.mul_le_mul_right _ h1
        refine ⟨cells, ee, fr, m1, by rw [hrow]; omega, ?_⟩
        rw [hrow]
        rw [← m3]
        rw [List.drop_take, List.drop_drop, List.take_take]
        congr 1
        omega

theorem snap_sound (hO : ∀ g o, E.orc g = some o → Contract P g o) (hob : ∀ o, o < st.nx → RepOb (cx P E st w Z pv bl) o (st.hp o)) : ∀ (n : Nat),
    (∀ (t : T) (av : AV) (v : Value) (x : t.in), RAV (cx P E st w Z pv bl) av v → snap E st n t av = some x → RepV P t (Zt Z bl (touch st n av)) w x v) ∧
    (∀ (t0 t : T) (av : AV) (cs : List Value) (x : t.in), RA (cx P E st w Z pv bl) t0 av cs → snap E st n t av = some x → RepC P t (Zt Z bl (touch st n av)) w x cs) := by
  intro n
  induction n with
  | zero => exact ⟨fun t av v x _ h => by simp [snap] at h, fun t0 t av cs x _ h => by simp [snap] at h⟩
  | succ n ih =>
    obtain ⟨ihV, ihC⟩ := ih
    -- a reference
    have href : ∀ (t : T) (av : AV) (v : Value) (x : t.in), av.one = true → refV (cx P E st w Z pv bl) av v → snap E st (n + 1) t av = some x → t.isAgg = false ∧ RepV P t (Zt Z bl (touch st (n + 1) av)) w x v := by
      intro t av v x h1 hr h
      cases av with
      | nil k =>
        refine ⟨?_, nilOf_sound (by simpa [snap] using h) hr⟩
        have h' : nilOf t k = some x := by simpa [snap] using h
        unfold nilOf at h'
        split at h' <;> first | rfl | cases h'
      | sl o =>
        simp only [snap] at h
        cases hh : st.hp o with
        | arr e u l k =>
          rw [hh] at h
          obtain ⟨e1, e2⟩ := cast_some h
          subst e1; subst e2
          have hv : v = pv o := hr.2 e u _ k hh
          have := arr_rep (hh ▸ hob o hr.1) (Z' := Zt Z bl (touch st (n + 1) (.sl o))) (Zt.le _ _ _) (fun b hb => .inr ⟨o, by simp [touch], hb⟩)
          rw [← hv] at this
          exact ⟨rfl, RepC.one (isAggV_slice this) rfl this⟩
        | _ => rw [hh] at h; cases h
      | ssl o lo m =>
        simp only [snap] at h
        cases hh : st.hp o with
        | arr e u l k =>
          rw [hh] at h
          obtain ⟨e1, e2⟩ := cast_some h
          subst e1; subst e2
          obtain ⟨a, N, q, a', q', p1, p2, p3, p4, p5⟩ := hr.2 e u l k hh
          have := arr_rep (hh ▸ hob o hr.1) (Z' := Zt Z bl (touch st (n + 1) (.ssl o lo m))) (Zt.le _ _ _) (fun b hb => .inr ⟨o, by simp [touch], hb⟩)
          rw [show pv o = _ from p1] at this
          have := part_rep this p2 p3 p5
          rw [p4]
          exact ⟨rfl, RepC.one rfl rfl this⟩
        | _ => rw [hh] at h; cases h
      | mp o =>
        simp only [snap] at h
        cases hh : st.hp o with
        | map m k u l r =>
          rw [hh] at h
          obtain ⟨e1, e2⟩ := cast_some h
          subst e1; subst e2
          have hv : v = pv o := hr.2 m k u _ r hh
          have := map_rep (hh ▸ hob o hr.1) (Z' := Zt Z bl (touch st (n + 1) (.mp o))) (Zt.le _ _ _) (fun b hb => .inr ⟨o, by simp [touch], hb⟩)
          rw [← hv] at this
          exact ⟨rfl, RepC.one (isAggV_map this) rfl this⟩
        | _ => rw [hh] at h; cases h
      | ptr o p =>
        cases p with
        | cons _ _ => simp [snap] at h
        | nil =>
          simp only [snap] at h
          cases t with
          | pt u =>
            cases hh : st.hp o with
            | box e v0 =>
              rw [hh] at h
              simp only [] at h
              cases hs : snap E st n u v0 with
              | none => rw [hs] at h; cases h
              | some y =>
                rw [hs] at h
                obtain rfl := Option.some.inj h
                obtain ⟨b, t1, off, q1, q2, q3, q4⟩ := hr.2 e v0 hh
                have hbx : RepOb (cx P E st w Z pv bl) o (.box e v0) := hh ▸ hob o hr.1
                obtain ⟨t0, b0, cs, r1, r2, r3, r4⟩ := hbx
                have hbb : b = b0 := by have := (show bl o = some b from q1).symm.trans (show bl o = some b0 from r2); exact Option.some.inj this
                subst hbb
                have hoff : off = 0 := by simpa [offT] using q3.symm
                subst hoff
                subst q4
                have hc := ihC t0 u v0 cs.toList y r4 hs
                have ht : touch st (n + 1) (.ptr o []) = o :: touch st n v0 := by simp [touch, hh]
                refine ⟨rfl, rfl, .inr ⟨y, b, 0, cs.toList, rfl, rfl, .inr ⟨o, by rw [ht]; simp, q1⟩, hc.mono (by rw [ht]; exact Zt.mono fun _ q => List.mem_cons_of_mem _ q) (Agree.refl _ _), cs, e, (0, 0), r3, by simp, by rw [List.drop_zero]; exact List.take_of_length_le (Nat.le_refl _)⟩⟩
            | _ => rw [hh] at h; cases h
          | _ => cases hh : st.hp o <;> rw [hh] at h <;> cases h
      | elp o i p => simp [snap] at h
      | _ => simp [AV.one] at h1
    have hval : ∀ (u t : T) (x0 : u.in) (x : t.in), snap E st (n + 1) t (.val u x0) = some x → ∃ e : u = t, x = e ▸ x0 := fun u t x0 x h => cast_some (by simpa [snap] using h)
    -- a struct
    have hagg : ∀ (t0 t : T) (fs : List AV) (cs : List Value) (x : t.in), RA (cx P E st w Z pv bl) t0 (.agg fs) cs → snap E st (n + 1) t (.agg fs) = some x → t.isAgg = true ∧ RepC P t (Zt Z bl (touch st (n + 1) (.agg fs))) w x cs := by
      intro t0 t fs cs x hr h
      cases fs with
      | nil =>
        simp only [snap] at h
        cases t with
        | un =>
          cases hr with
          | un => exact ⟨rfl, rfl⟩
          | ref h1 _ _ _ => simp [AV.one] at h1
        | _ => cases h
      | cons v r =>
        simp only [snap] at h
        cases t with
        | pr x1 y1 =>
          simp only [] at h
          cases hs : snap E st n x1 v with
          | none => rw [hs] at h; cases h
          | some a1 =>
            rw [hs] at h
            simp only [] at h
            cases hs2 : snap E st n y1 (.agg r) with
            | none => rw [hs2] at h; cases h
            | some b1 =>
              rw [hs2] at h
              obtain rfl := Option.some.inj h
              have ht : touch st (n + 1) (.agg (v :: r)) = touch st n v ++ touch st n (.agg r) := by simp [touch]
              cases hr with
              | ref h1 _ _ _ => simp [AV.one] at h1
              | @pr xa ya _ _ c1 c2 g1 g2 =>
                refine ⟨rfl, c1, c2, rfl, ?_, ?_⟩
                · exact RepC.mono (P := P) (ihC xa x1 v c1 a1 g1 hs) (by rw [ht]; exact Zt.app1 _ _ _ _) (Agree.refl _ _)
                · exact RepC.mono (P := P) (ihC ya y1 (.agg r) c2 b1 g2 hs2) (by rw [ht]; exact Zt.app2 _ _ _ _) (Agree.refl _ _)
        | _ => cases h
    -- a function value
    have hclo : ∀ (g : FuncId) (first caps : List AV) (t : T) (fs qs : Array Value) (x : t.in), RAVs (cx P E st w Z pv bl) first fs.toList → RAVs (cx P E st w Z pv bl) caps qs.toList → snap E st (n + 1) t (.clo g first caps) = some x →
        RepV P t (Zt Z bl (touch st (n + 1) (.clo g first caps))) w x (.func (.func g) fs qs) := by
      intro g first caps t fs qs x hf hq h
      simp only [snap] at h
      cases t with
      | fn x1 y1 =>
        simp only [] at h
        cases ho : E.orc g with
        | none => rw [ho] at h; cases h
        | some o =>
          rw [ho] at h
          obtain rfl := Option.some.inj h
          refine ⟨rfl, ?_⟩
          refine fnCall_sound (c := cx P E st w Z pv bl) (hO g o ho) hf hq fun t av v y hm hv hs => (ihV t av v y hv hs).mono (Zt.mono fun q hq => ?_) (Agree.refl _ _)
          simp only [touch, List.mem_flatMap, List.mem_append]
          exact ⟨av, hm, hq⟩
      | _ => cases h
    refine ⟨fun t av v x hr h => ?_, fun t0 t av cs x hr h => ?_⟩
    · cases hr with
      | @val u x0 _ hv =>
        obtain ⟨e, e2⟩ := hval u t x0 x h
        subst e; subst e2
        exact hv.mono (Zt.le _ _ _) (Agree.refl _ _)
      | ref h1 h2 => exact (href t av v x h1 h2 h).2
      | agg t0 h1 h2 =>
        obtain ⟨q1, q2⟩ := hagg t0 t _ _ x h2 h
        exact ⟨q1.symm, q2⟩
      | tup h1 => simp [snap] at h
      | clo h1 h2 => exact hclo _ _ _ t _ _ x h1 h2 h
      | dead => simp [snap] at h
    · cases hr with
      | val hv =>
        obtain ⟨e, e2⟩ := hval _ t _ x h
        subst e; subst e2
        exact hv.mono (Zt.le _ _ _) (Agree.refl _ _)
      | @ref _ _ v h1 h2 h3 _ =>
        obtain ⟨hta, this⟩ := href t av v x h1 h2 h
        have ha : isAggV v = false := by rw [this.1, hta]
        have hc : v.cells.toList = [v] := by cases v <;> first | rfl | (simp [isAggV] at ha)
        have := this.2
        rw [hc] at this; exact this
      | un => exact (hagg .un t [] [] x .un h).2
      | pr g1 g2 => exact (hagg _ t _ _ x (.pr g1 g2) h).2
end
end Ev
/- Operations that only read. -/
namespace Ev
open Go

/-- The cells of a zero value. -/
def T.zcs : T → List Value
  | .i k => [.int k 0]
  | .b => [.bool false]
  | .s => [.string ⟨#[]⟩]
  | .un => []
  | .er => [.nilIface]
  | .pr x y => x.zcs ++ y.zcs
  | .ar n t => (List.replicate n t.zcs).flatten
  | .sl _ => [.slice none 0 0]
  | .mp _ _ => [.map none]
  | .pt _ => [.pointer none]
  | .fn _ _ => [.nilFunc]
  | .tu _ => []
/-- No tuple, no function in it. -/
def T.plain : T → Bool
  | .tu _ | .fn _ _ => false
  | .pr x y => x.plain && y.plain
  | .ar _ t => t.plain
  | .sl t => t.plain
  | .mp k v => k.plain && v.plain
  | .pt t => t.plain
  | _ => true
def isRowD : TypeDesc → Bool
  | .struct _ | .array _ _ => true
  | _ => false
def T.prs : List T → T
  | [] => .un
  | t :: r => .pr t (T.prs r)
/-- The evaluator's types are the program's. -/
structure TyOK (P : Program) (E : Env) : Prop where
  info : ∀ id t, E.ty id = some t → ∃ i z, P.info? id = some i ∧ i.size = t.sz ∧ i.bytes ≤ 4096 ∧ i.zero = some z ∧ isAggV z = t.isAgg ∧ z.cells.toList = t.zcs
  plain : ∀ id t, E.ty id = some t → t.plain = true
  agg : ∀ id t, E.ty id = some t → ∃ d, P.underlying id = some d ∧ isRowD d = t.isAgg
  int : ∀ id k, E.ty id = some (.i k) → P.underlying id = some (.int k)
  str : ∀ id, E.ty id = some .s → P.underlying id = some .string
  bool : ∀ id, E.ty id = some .b → P.underlying id = some .bool
  sl : ∀ id e, E.ds id = .sl e → P.underlying id = some (.slice e)
  ar : ∀ id n e, E.ds id = .ar n e → P.underlying id = some (.array n e) ∧ ∃ u, E.ty e = some u ∧ E.ty id = some (.ar n u)
  tar : ∀ id n u, E.ty id = some (.ar n u) → ∃ e, P.underlying id = some (.array n e) ∧ E.ty e = some u
  st : ∀ id t f q, E.ty id = some t → tyAt t [.f f] = some q → ∃ fs fd, P.underlying id = some (.struct fs) ∧ fs[f]? = some fd ∧ E.ty fd.type = some q ∧ offT t [.f f] = some fd.offset
  stn : ∀ id t fs, E.ty id = some t → P.underlying id = some (.struct fs) → ∀ (i : Nat) fd, fs[i]? = some fd → ∃ q, E.ty fd.type = some q ∧ tyAt t [.f i] = some q ∧ offT t [.f i] = some fd.offset
  stc : ∀ id t, E.ty id = some t → t.isAgg = true → (∀ n u, t ≠ .ar n u) → ∃ fs, P.underlying id = some (.struct fs)
  slt : ∀ id e t, E.ds id = .sl e → E.ty id = some t → ∃ u, E.ty e = some u ∧ t = .sl u
  dst : ∀ id fs t, E.ds id = .st fs → E.ty id = some t → ∃ ts, fs.map E.ty = ts.map some ∧ t = T.prs ts
  mp : ∀ id k v, E.ty id = some (.mp k v) → ∃ ki vi, P.underlying id = some (.map ki vi) ∧ E.ty ki = some k ∧ E.ty vi = some v
  eq : ∀ id t, E.ty id = some t → t.cmp = true → ∀ (Z : Zn) (w w0 : World) (x y : t.in) (u v : Value), RepV P t Z w0 x u → RepV P t Z w0 y v → (Op.equal id u v).run P w = .ok (t.eqv x y) w
  eg : ∀ id t, E.ty id = some t → t.cmp = true → t.isAgg = true → P.eqGuardType P.depth id = false
  ck : ∀ id t, E.ty id = some t → t.cmp = true → ∀ (Z : Zn) (w w0 : World) (b : Bool) (x : t.in) (u : Value), RepV P t Z w0 x u → (Instr.checkKey b 10000 id u).run P w = .ok () w
  er : ∀ id, E.ty id = some .er → ∃ ms, P.underlying id = some (.interface ms)
  mixed : P.follows .mixedOrders = true

section
variable {P : Program} {E : Env} {st : St} {a : Act} {w : World} {Z : Zn} {pv : Nat → Value} {bl : Nat → Option Nat}

theorem intOk_wrap (k : IntKind) (n : Int) : intOk k (k.wrap n) := by
  cases k <;> first | trivial | (show 0 ≤ IntKind.wrap .u8 n ∧ IntKind.wrap .u8 n ≤ 255; simp only [IntKind.wrap, IntKind.signed, IntKind.bits]; simp; omega)
theorem RepV.int {k : IntKind} {n : Int} (h : intOk k n) : RepV P (.i k) Z w n (.int k n) := ⟨rfl, rfl, h⟩
theorem RepV.bool {b : Bool} : RepV P .b Z w b (.bool b) := ⟨rfl, rfl⟩
theorem RepV.str {s : ByteArray} : RepV P .s Z w (strL s) (.string s) := ⟨rfl, s, rfl, rfl⟩
theorem RepV.int_inv {k : IntKind} {n : Int} {v : Value} (h : RepV P (.i k) Z w n v) : v = .int k n ∧ intOk k n := by
  obtain ⟨h1, h2, h3⟩ := h
  cases v <;> simp [Value.cells, isAggV, T.isAgg] at h1 h2 <;> first | (exact ⟨by rw [h2.1, h2.2], h3⟩) | skip
  all_goals (first | exact ⟨by simp_all, h3⟩ | (cases h2; exact ⟨rfl, h3⟩))
theorem RepV.bool_inv {b : Bool} {v : Value} (h : RepV P .b Z w b v) : v = .bool b := by
  obtain ⟨h1, h2⟩ := h
  have h2' : v.cells.toList = [.bool b] := h2
  cases v <;> simp [Value.cells, isAggV, T.isAgg] at h1 h2' <;> simp_all
theorem RepV.str_inv {x : List Int} {v : Value} (h : RepV P .s Z w x v) : ∃ s, v = .string s ∧ x = strL s := by
  obtain ⟨h1, s, h2, h3⟩ := h
  refine ⟨s, ?_, h3⟩
  cases v <;> simp [Value.cells, isAggV, T.isAgg] at h1 h2 <;> simp_all
theorem RAV.val_inv {c : Cx} {t : T} {x : t.in} {v : Value} (h : RAV c (.val t x) v) : RepV c.P t c.Z c.w x v := by
  cases h with
  | val h => exact h
  | ref h1 _ => simp [AV.one] at h1
theorem RAV.ref_inv {c : Cx} {av : AV} {v : Value} (h : RAV c av v) (h1 : av.one = true) : refV c av v := by
  cases h with
  | ref _ h => exact h
  | _ => simp [AV.one] at h1

theorem constAV_sound (c : Cx) (v : Value) : RAV c (constAV v) v := by
  unfold constAV
  split
  · exact .val RepV.bool
  · split
    · rename_i n h
      simp at h
      exact .val (RepV.int h)
    · exact .dead
  · rename_i k n h
    refine .val (RepV.int ?_)
    cases k <;> first | trivial | exact absurd rfl (h n)
  · exact .val RepV.str
  · exact .ref rfl rfl
  · exact .ref rfl rfl
  · exact .ref rfl rfl
  · exact .ref rfl rfl
  · exact .ref rfl rfl
  · exact .dead
theorem Sim.op (h : Sim P E st a w Z pv bl) (x : Operand) : RAV (cx P E st w Z pv bl) (st.op x) (a.eval x) := by
  cases x with
  | tmp t => exact h.slot t
  | const v => exact constAV_sound _ v
  | global g => exact .dead
  | func f => exact .clo .nil .nil
theorem Sim.ops (h : Sim P E st a w Z pv bl) : ∀ (xs : List Operand), RAVs (cx P E st w Z pv bl) (xs.map st.op) (xs.map a.eval)
  | [] => .nil
  | x :: xs => .cons (h.op x) (Sim.ops h xs)

/-- A world in which what may be read stands as it stood. -/
def KR (Z : Zn) (bl : Nat → Option Nat) (ids : List Nat) (w w' : World) : Prop := ∀ b, (Z b ∨ ∃ o ∈ ids, bl o = some b) → w'.heap[b]? = w.heap[b]?
theorem KR.refl (Z : Zn) (bl : Nat → Option Nat) (ids : List Nat) (w : World) : KR Z bl ids w w := fun _ _ => rfl
theorem KR.trans {Z : Zn} {bl : Nat → Option Nat} {ids : List Nat} {w w1 w2 : World} (h : KR Z bl ids w w1) (k : KR Z bl ids w1 w2) : KR Z bl ids w w2 := fun b hb => (k b hb).trans (h b hb)
theorem KR.mono {Z : Zn} {bl : Nat → Option Nat} {ids ids' : List Nat} {w w1 : World} (h : KR Z bl ids w w1) (k : ∀ x ∈ ids', x ∈ ids) : KR Z bl ids' w w1 := fun b hb => h b (hb.imp id fun ⟨o, ho, q⟩ => ⟨o, k o ho, q⟩)
/-- The operation yields v and turns nothing, in every world (if it reads memory: in every world that only has new memory). -/
def Yld (P : Program) (st : St) (a : Act) (o : Oper) (w : World) (Z : Zn) (bl : Nat → Option Nat) (v : Value) : Prop := ∀ w', KR Z bl (rdIds st o.op) w w' → (execOp a.eval o).run P w' = .ok (.value v) w'

/-! ### Sums, comparisons -/
theorem binInt_sound {R : Type} {op : BinOp} {k : IntKind} {x y : Int} {K : AV → Option R} {r : R} (hx : intOk k x) (hy : intOk k y) (ty : TypeId) (hs : isShift op = false) (h : binInt op k x y K = some r) :
    ∃ t q v, (∀ w', (binOp op ty (.int k x) (.int k y)).run P w' = .ok v w') ∧ RepV P t Z w q v ∧ K (.val t q) = some r := by
  have tm : intOk k (x.tmod y) := by
    cases k <;> first | trivial | skip
    obtain ⟨a1, a2⟩ := hx
    obtain ⟨b1, b2⟩ := hy
    rw [Int.tmod_eq_emod_of_nonneg a1]
    rcases (show y = 0 ∨ 0 < y by omega) with rfl | hp
    · simpa using ⟨a1, a2⟩
    · exact ⟨Int.emod_nonneg _ (by omega), by have := Int.emod_lt_of_pos x hp; omega⟩
  have hbe : (x == y) = decide (x = y) := by by_cases hxy : x = y <;> simp [hxy]
  have hbn : (x != y) = !decide (x = y) := by simp only [bne, hbe]
  cases op <;> simp only [binInt] at h <;> first
    | (refine ⟨_, _, _, fun w' => ?_, RepV.int (intOk_wrap k _), h⟩; simp [binOp, Op.intArith]; done)
    | (refine ⟨_, _, _, fun w' => ?_, RepV.int (intOk_wrap k _), h⟩; simp only [binOp, ne_eq, not_true, if_false, Op.intBits]; rfl)
    | (split at h
       · cases h
       · rename_i h0
         refine ⟨_, _, _, fun w' => ?_, RepV.int (intOk_wrap k _), h⟩; simp [binOp, Op.intDiv, h0])
    | (split at h
       · cases h
       · rename_i h0
         refine ⟨_, _, _, fun w' => ?_, RepV.int tm, h⟩; simp [binOp, Op.intDiv, h0])
    | (refine ⟨_, _, _, fun w' => ?_, RepV.bool, h⟩; simp [binOp, Op.intCmp]; done)
    | (refine ⟨_, _, _, fun w' => ?_, RepV.bool, h⟩; simp only [binOp, Op.intCmp, ne_eq, not_true, if_false, hbe, hbn]; rfl)
    | (cases h; done)
    | (simp [isShift] at hs; done)

theorem strL_inj {s t : ByteArray} : strL s = strL t ↔ s = t := by
  constructor
  · intro h
    unfold strL at h
    have h2 : s.data.toList = t.data.toList := by
      refine List.map_inj_right (f := fun c : UInt8 => (c.toNat : Int)) ?_ |>.1 h
      intro x y hxy
      exact UInt8.toNat_inj.1 (by exact_mod_cast hxy)
    cases s; cases t
    congr 1
    exact Array.toList_inj.1 h2
  · rintro rfl; rfl
theorem strL_append (s t : ByteArray) : strL (s ++ t) = strL s ++ strL t := by
  simp only [strL, ByteArray.data_append, Array.toList_append, List.map_append]
theorem strL_length (s : ByteArray) : (strL s).length = s.size := by
  show (s.data.toList.map _).length = s.data.size
  rw [List.length_map, Array.length_toList]
theorem toList_data (s : ByteArray) : s.toList = s.data.toList := by
  exact ByteArray.toList_eq s
end
end Ev
/- Operations that only read (2): operators. -/
namespace Ev
open Go
section
variable {P : Program} {E : Env} {st : St} {a : Act} {w : World} {Z : Zn} {pv : Nat → Value} {bl : Nat → Option Nat}

theorem lessL_eq : ∀ (x y : List UInt8), Op.bytesLess x y = lessL (x.map fun c => (c.toNat : Int)) (y.map fun c => (c.toNat : Int))
  | _, [] => by cases ‹List UInt8› <;> simp [Op.bytesLess, lessL]
  | [], _ :: _ => rfl
  | p :: x, q :: y => by
    have h1 : decide (p < q) = decide ((p.toNat : Int) < (q.toNat : Int)) := by
      rw [decide_eq_decide]; rw [UInt8.lt_iff_toNat_lt]; omega
    have h2 : (p == q) = decide ((p.toNat : Int) = (q.toNat : Int)) := by
      by_cases h : p = q
      · simp [h]
      · have h' : ¬ (p.toNat : Int) = (q.toNat : Int) := fun e => h (UInt8.toNat_inj.1 (by omega))
        simp [h, h']
    simp only [Op.bytesLess, List.map_cons, lessL, lessL_eq x y, h1, h2]
theorem less_str (s t : ByteArray) : Op.bytesLess s.toList t.toList = lessL (strL s) (strL t) := by
  rw [toList_data, toList_data, lessL_eq]; rfl
theorem eq_str (s t : ByteArray) : (s.toList == t.toList) = decide (strL s = strL t) := by
  rw [toList_data, toList_data]
  by_cases h : s = t
  · subst h; simp
  · have h1 : ¬ strL s = strL t := fun e => h (strL_inj.1 e)
    have h2 : ¬ s.data.toList = t.data.toList := fun e => by
      apply h; cases s; cases t; congr 1; exact Array.toList_inj.1 e
    rw [decide_eq_false h1]
    exact beq_eq_false_iff_ne.2 h2
theorem binStr_sound {R : Type} {op : BinOp} {s t : ByteArray} {K : AV → Option R} {r : R} (ty : TypeId) (h : binStr op (strL s) (strL t) K = some r) :
    ∃ u q v, (∀ w', (binOp op ty (.string s) (.string t)).run P w' = .ok v w') ∧ RepV P u Z w q v ∧ K (.val u q) = some r := by
  cases op <;> simp only [binStr] at h <;> first
    | (cases h; done)
    | (split at h
       · rename_i hl
         rw [strL_length, strL_length] at hl
         rw [← strL_append] at h
         refine ⟨_, _, _, fun w' => ?_, RepV.str, h⟩
         have : ¬ (((s.size + t.size : Nat) : Int) > IntKind.i64.max) := by
           have : IntKind.i64.max = 9223372036854775807 := by decide
           rw [this]; omega
         simp only [binOp, Op.stringOp, if_neg this]; rfl
       · cases h)
    | (refine ⟨_, _, _, fun w' => ?_, RepV.bool, h⟩
       simp only [binOp, Op.stringOp, less_str, eq_str]; rfl)
theorem neg1_sound {R : Type} {op : BinOp} {x : Bool} {K : AV → Option R} {r : R} (h : neg1 op x K = some r) :
    ((op = .eql ∧ K (.val .b x) = some r) ∨ (op = .neq ∧ K (.val .b (!x)) = some r)) := by
  cases op <;> simp only [neg1] at h <;> first | exact .inl ⟨rfl, h⟩ | exact .inr ⟨rfl, h⟩ | cases h

theorem evUn_sound {R : Type} {op : UnOp} {x : AV} {v : Value} {K : AV → Option R} {r : R} (hx : RAV (cx P E st w Z pv bl) x v) (h : evUn op x K = some r) :
    ∃ u q v', (∀ w', (Op.unary op v).run P w' = .ok v' w') ∧ RepV P u Z w q v' ∧ K (.val u q) = some r := by
  unfold evUn at h
  split at h
  · rename_i k n
    obtain ⟨rfl, hk⟩ := RepV.int_inv hx.val_inv
    exact ⟨_, _, _, fun w' => rfl, RepV.int (intOk_wrap k _), h⟩
  · obtain rfl := RepV.bool_inv hx.val_inv
    exact ⟨_, _, _, fun w' => rfl, RepV.bool, h⟩
  · cases h

theorem shift_sound {R : Type} {op : BinOp} {k k' : IntKind} {x y : Int} {K : AV → Option R} {r : R} (hx : intOk k x) (ty : TypeId) (hs : isShift op = true)
    (h : (if 0 ≤ y then (match op with
        | .shl => K (.val (.i k) (k.wrap (x * 2 ^ min y.toNat k.bits)))
        | _ => K (.val (.i k) (x.fdiv (2 ^ min y.toNat k.bits)))) else none) = some r) :
    ∃ t q v, (∀ w', (binOp op ty (.int k x) (.int k' y)).run P w' = .ok v w') ∧ RepV P t Z w q v ∧ K (.val t q) = some r := by
  split at h
  · rename_i hy
    cases op <;> simp only [isShift] at hs <;> first | (cases hs; done) | skip
    · refine ⟨_, _, _, fun w' => ?_, RepV.int (intOk_wrap k _), h⟩
      simp only [binOp, Op.shift, if_neg (show ¬ y < 0 by omega)]; rfl
    · refine ⟨.i k, x.fdiv (2 ^ min y.toNat k.bits), .int k (x.fdiv (2 ^ min y.toNat k.bits)), fun w' => ?_, RepV.int ?_, h⟩
      · simp only [binOp, Op.shift, if_neg (show ¬ y < 0 by omega)]; rfl
      · cases k <;> first | trivial | skip
        obtain ⟨h1, h2⟩ := hx
        have hp : (0 : Int) < 2 ^ min y.toNat IntKind.u8.bits := Int.pow_pos (by omega)
        constructor
        · exact Int.fdiv_nonneg h1 (Int.le_of_lt hp)
        · rw [Int.fdiv_eq_ediv_of_nonneg _ (Int.le_of_lt hp)]
          have := Int.ediv_le_self (2 ^ min y.toNat IntKind.u8.bits) h1
          omega
  · cases h

/-- What a comparison with nil asks. -/
theorem equal_er {t : TypeId} {ms : Array (String × TypeId)} (ht : P.underlying t = some (.interface ms)) {x : Bool} {v : Value} (h : RepV P .er Z w x v) (w' : World) :
    (Op.equal t v .nilIface).run P w' = .ok (!x) w' := by
  obtain ⟨h1, h2⟩ := h
  have hv : (x = false ∧ v = .nilIface) ∨ (x = true ∧ ∃ t u, v = .iface t u) := by
    rcases h2 with ⟨rfl, e⟩ | ⟨rfl, t0, u, e⟩
    · left; refine ⟨rfl, ?_⟩; cases v <;> simp [Value.cells, isAggV, T.isAgg] at h1 e; rfl
    · right; refine ⟨rfl, t0, u, ?_⟩; cases v <;> simp [Value.cells, isAggV, T.isAgg] at h1 e; rw [e.1, e.2]
  have hh : ∀ d, (Op.equalIn (d + 1) t v .nilIface).run P w' = .ok (!x) w' := by
    intro d
    rcases hv with ⟨rfl, rfl⟩ | ⟨rfl, t0, u, rfl⟩ <;> simp only [Op.equalIn, Sem.run_bind, run_underlying ht, Result.andThen_ok] <;> rfl
  exact hh 9999
theorem equal_sl {t e : TypeId} (ht : P.underlying t = some (.slice e)) (a : Addr) (n c : Nat) (w' : World) : (Op.equal t (.slice (some a) n c) (.slice none 0 0)).run P w' = .ok false w' := by
  have hh : ∀ d, (Op.equalIn (d + 1) t (.slice (some a) n c) (.slice none 0 0)).run P w' = .ok false w' := by
    intro d
    simp only [Op.equalIn, Sem.run_bind, run_underlying ht, Result.andThen_ok]
    rfl
  exact hh 9999
theorem eTy_some {ty : TypeId} {u : T} (h : eTy E ty u = true) : E.ty ty = some u := by
  unfold eTy at h
  cases hh : E.ty ty with
  | none => rw [hh] at h; cases h
  | some t => rw [hh] at h; rw [of_decide_eq_true h]
theorem equal_bool {t : TypeId} (ht : P.underlying t = some .bool) (x y : Bool) (w' : World) : (Op.equal t (.bool x) (.bool y)).run P w' = .ok (decide (x = y)) w' := by
  have hh : ∀ d, (Op.equalIn (d + 1) t (.bool x) (.bool y)).run P w' = .ok (decide (x = y)) w' := by
    intro d
    simp only [Op.equalIn, Sem.run_bind, run_underlying ht, Result.andThen_ok]
    have : (x == y) = decide (x = y) := by cases x <;> cases y <;> rfl
    simp [this]
  exact hh 9999
theorem agg_of {t : T} (ht : t.isAgg = true) {v : Value} (h : isAggV v = t.isAgg) : ∃ cs, v = .agg cs := by
  rw [ht] at h
  cases v <;> simp [isAggV] at h
  exact ⟨_, rfl⟩
theorem sn_sound (hO : ∀ g o, E.orc g = some o → Contract P g o) (h : Sim P E st a w Z pv bl) {t : T} {av : AV} {v : Value} {x : t.in} (hv : RAV (cx P E st w Z pv bl) av v) (hs : sn E st t av = some x) :
    RepV P t (Zt Z bl (tch st av)) w x v := (snap_sound hO h.obs 24).1 t av v x hv hs
theorem evBin_sound {R : Type} (ty : TyOK P E) (hO : ∀ g o, E.orc g = some o → Contract P g o) (h : Sim P E st a w Z pv bl) {op : BinOp} {id : TypeId} {x y : Operand} {vx vy : Value} {avx avy : AV} {K : AV → Option R} {r : R}
    (hx : RAV (cx P E st w Z pv bl) avx vx) (hy : RAV (cx P E st w Z pv bl) avy vy) (he : evBin E op id (isC y) avx avy st K = some r) :
    ∃ u q v, (∀ w', (do eqGuard op id x y vx vy; binOp op id vx vy : Sem Value).run P w' = .ok v w') ∧ RepV P u Z w q v ∧ K (.val u q) = some r := by
  unfold evBin at he
  split at he
  · rename_i k p k' q
    obtain ⟨rfl, hk⟩ := RepV.int_inv hx.val_inv
    obtain ⟨rfl, hk'⟩ := RepV.int_inv hy.val_inv
    have hg : ∀ w', (eqGuard op id x y (.int k p) (.int k' q)).run P w' = .ok () w' := by intro w'; unfold eqGuard; split <;> rfl
    split at he
    · rename_i hs
      obtain ⟨u, q', v, h1, h2, h3⟩ := shift_sound (P := P) (w := w) (Z := Z) hk id hs he
      exact ⟨u, q', v, fun w' => by rw [Sem.run_bind, hg, Result.andThen_ok]; exact h1 w', h2, h3⟩
    · rename_i hs
      split at he
      · rename_i hkk
        subst hkk
        obtain ⟨u, q', v, h1, h2, h3⟩ := binInt_sound (P := P) (w := w) (Z := Z) hk hk' id (by simpa using hs) he
        exact ⟨u, q', v, fun w' => by rw [Sem.run_bind, hg, Result.andThen_ok]; exact h1 w', h2, h3⟩
      · cases he
  · obtain ⟨s, rfl, rfl⟩ := RepV.str_inv hx.val_inv
    obtain ⟨t, rfl, rfl⟩ := RepV.str_inv hy.val_inv
    have hg : ∀ w', (eqGuard op id x y (.string s) (.string t)).run P w' = .ok () w' := by intro w'; unfold eqGuard; split <;> rfl
    obtain ⟨u, q', v, h1, h2, h3⟩ := binStr_sound (P := P) (w := w) (Z := Z) id he
    exact ⟨u, q', v, fun w' => by rw [Sem.run_bind, hg, Result.andThen_ok]; exact h1 w', h2, h3⟩
  · rename_i p q
    obtain rfl := RepV.bool_inv hx.val_inv
    obtain rfl := RepV.bool_inv hy.val_inv
    split at he
    · rename_i ht
      have hty := ty.bool id (eTy_some ht)
      have hg : ∀ w', (eqGuard op id x y (.bool p) (.bool q)).run P w' = .ok () w' := by intro w'; unfold eqGuard; split <;> rfl
      rcases neg1_sound he with ⟨rfl, hk⟩ | ⟨rfl, hk⟩
      · exact ⟨_, _, _, fun w' => by rw [Sem.run_bind, hg, Result.andThen_ok]; simp only [binOp, Sem.run_bind, equal_bool hty, Result.andThen_ok]; rfl, RepV.bool, hk⟩
      · exact ⟨_, _, _, fun w' => by rw [Sem.run_bind, hg, Result.andThen_ok]; simp only [binOp, Sem.run_bind, equal_bool hty, Result.andThen_ok]; rfl, RepV.bool, hk⟩
    · cases he
  · split at he
    · rename_i l _ e hds
      unfold nonE at he
      split at he
      · cases he
      rename_i x0 l0
      obtain rfl : vy = .slice none 0 0 := hy.ref_inv rfl
      obtain ⟨h1, a1, c1, h2, -, h3⟩ := hx.val_inv
      have h4 : ∃ b off, a1 = some ⟨b, off, none⟩ := by
        rcases h3 with q | ⟨b, off, row, q, _⟩
        · cases q
        · exact ⟨b, off, q⟩
      obtain ⟨b1, o1, rfl⟩ := h4
      have hvx : ∃ n, vx = .slice (some ⟨b1, o1, none⟩) n c1 := by
        cases vx <;> simp [Value.cells, isAggV, T.isAgg] at h1 h2
        exact ⟨_, by rw [h2.1, h2.2.2]⟩
      obtain ⟨n1, rfl⟩ := hvx
      have hg : ∀ w', (eqGuard op id x y (.slice (some ⟨b1, o1, none⟩) n1 c1) (.slice none 0 0)).run P w' = .ok () w' := by intro w'; unfold eqGuard; split <;> rfl
      have hq := fun w' => equal_sl (P := P) (ty.sl id e hds) ⟨b1, o1, none⟩ n1 c1 w'
      rcases neg1_sound he with ⟨rfl, hk⟩ | ⟨rfl, hk⟩
      · exact ⟨_, _, _, fun w' => by rw [Sem.run_bind, hg, Result.andThen_ok]; simp only [binOp, Sem.run_bind, hq, Result.andThen_ok]; rfl, RepV.bool, hk⟩
      · exact ⟨_, _, _, fun w' => by rw [Sem.run_bind, hg, Result.andThen_ok]; simp only [binOp, Sem.run_bind, hq, Result.andThen_ok]; rfl, RepV.bool, hk⟩
    · cases he
  · rename_i p
    split at he
    · rename_i hc
      split at he
      · rename_i ht
        obtain ⟨ms, hty⟩ := ty.er id (eTy_some ht)
        obtain rfl : vy = .nilIface := hy.ref_inv rfl
        have hr := hx.val_inv
        have hv : vx = .nilIface ∨ ∃ t u, vx = .iface t u := by
          obtain ⟨h1, h2⟩ := hr
          rcases h2 with ⟨_, e⟩ | ⟨_, t0, u, e⟩
          · left; cases vx <;> simp [Value.cells, isAggV, T.isAgg] at h1 e; rfl
          · right; refine ⟨t0, u, ?_⟩; cases vx <;> simp [Value.cells, isAggV, T.isAgg] at h1 e; rw [e.1, e.2]
        have hg : ∀ w', (eqGuard op id x y vx .nilIface).run P w' = .ok () w' := by
          intro w'
          cases y <;> simp only [isC] at hc <;> first | cases hc | skip
          rcases hv with rfl | ⟨t0, u, rfl⟩ <;> unfold eqGuard <;> split <;> first | rfl | simp
        have hb1 : ∀ w', (binOp .eql id vx .nilIface).run P w' = .ok (.bool (!p)) w' := by
          intro w'
          rcases hv with rfl | ⟨t0, u, rfl⟩ <;> simp only [binOp, Sem.run_bind, equal_er hty hr, Result.andThen_ok] <;> rfl
        have hb2 : ∀ w', (binOp .neq id vx .nilIface).run P w' = .ok (.bool (!(!p))) w' := by
          intro w'
          rcases hv with rfl | ⟨t0, u, rfl⟩ <;> simp only [binOp, Sem.run_bind, equal_er hty hr, Result.andThen_ok] <;> rfl
        rcases neg1_sound he with ⟨rfl, hk⟩ | ⟨rfl, hk⟩
        · exact ⟨_, _, _, fun w' => by rw [Sem.run_bind, hg, Result.andThen_ok]; exact hb1 w', RepV.bool, hk⟩
        · exact ⟨_, _, _, fun w' => by rw [Sem.run_bind, hg, Result.andThen_ok]; exact hb2 w', RepV.bool, hk⟩
      · cases he
    · cases he
  · split at he
    · rename_i t ht
      split at he
      · rename_i hc
        split at he
        · rename_i hagg
          split at he
          · rename_i p q hp hq
            have r1 := sn_sound hO h hx hp
            have r2 := sn_sound hO h hy hq
            obtain ⟨cs, rfl⟩ := agg_of hagg r1.1
            obtain ⟨ds, rfl⟩ := agg_of hagg r2.1
            have hg : ∀ w', (eqGuard op id x y (.agg cs) (.agg ds)).run P w' = .ok () w' := by
              intro w'
              unfold eqGuard
              split <;> simp [ty.eg id t ht hc hagg]
            have r1' := r1.mono (Zt.mono (j := tch st avx ++ tch st avy) fun _ q => List.mem_append_left _ q) (Agree.refl _ _)
            have r2' := r2.mono (Zt.mono (j := tch st avx ++ tch st avy) fun _ q => List.mem_append_right _ q) (Agree.refl _ _)
            have heq := fun w' => ty.eq id t ht hc _ w' w p q _ _ r1' r2'
            rcases neg1_sound he with ⟨rfl, hk⟩ | ⟨rfl, hk⟩
            · exact ⟨_, _, _, fun w' => by rw [Sem.run_bind, hg, Result.andThen_ok]; simp only [binOp, Sem.run_bind, heq, Result.andThen_ok]; rfl, RepV.bool, hk⟩
            · exact ⟨_, _, _, fun w' => by rw [Sem.run_bind, hg, Result.andThen_ok]; simp only [binOp, Sem.run_bind, heq, Result.andThen_ok]; rfl, RepV.bool, hk⟩
          · cases he
        · cases he
      · cases he
    · cases he
end
end Ev
/- Operations that only read (3): places. -/
namespace Ev
open Go
section
variable {P : Program} {E : Env} {st : St} {a : Act} {w : World} {Z : Zn} {pv : Nat → Value} {bl : Nat → Option Nat}

theorem dropTake {cs : List Value} {o1 n1 o2 n2 : Nat} (h1 : o2 + n2 ≤ n1) : (((cs.drop o1).take n1).drop o2).take n2 = (cs.drop (o1 + o2)).take n2 := by
  rw [List.drop_take, List.drop_drop, List.take_take]
  congr 1
  omega
theorem readT_sound : ∀ (p : List Stp) (t : T) (x : t.in) (cs : List Value) (u : T) (off : Nat), tyAt t p = some u → offT t p = some off → RepC P t Z w x cs →
    ∃ y, readT t x p = .val u y ∧ RepC P u Z w y ((cs.drop off).take u.sz) ∧ off + u.sz ≤ cs.length := by
  intro p
  induction p with
  | nil =>
    intro t x cs u off h1 h2 h
    have e1 : t = u := by cases t <;> simpa [tyAt] using h1
    have e2 : off = 0 := by cases t <;> simpa [offT] using h2.symm
    subst e1; subst e2
    have hl := RepC.length t x cs h
    refine ⟨x, by cases t <;> rfl, ?_, by omega⟩
    rw [List.drop_zero, List.take_of_length_le (by omega)]; exact h
  | cons s p ih =>
    -- a field
    have hf : ∀ (n : Nat) (t : T) (x : t.in) (cs : List Value) (u : T) (off : Nat), tyAt t (.f n :: p) = some u → offT t (.f n :: p) = some off → RepC P t Z w x cs →
        ∃ y, readT t x (.f n :: p) = .val u y ∧ RepC P u Z w y ((cs.drop off).take u.sz) ∧ off + u.sz ≤ cs.length := by
      intro n
      induction n with
      | zero =>
        intro t x cs u off h1 h2 h
        cases t <;> simp only [tyAt] at h1 <;> first | cases h1 | skip
        rename_i ta tb
        obtain ⟨c1, c2, rfl, g1, g2⟩ := h
        obtain ⟨y, q1, q2, q3⟩ := ih ta x.1 c1 u off h1 (by simpa [offT] using h2) g1
        refine ⟨y, q1, ?_, by rw [List.length_append]; omega⟩
        rw [List.drop_append_of_le_length (by omega), List.take_append_of_le_length (by rw [List.length_drop]; omega)]; exact q2
      | succ n ihn =>
        intro t x cs u off h1 h2 h
        cases t <;> simp only [tyAt] at h1 <;> first | cases h1 | skip
        rename_i ta tb
        obtain ⟨c1, c2, rfl, g1, g2⟩ := h
        simp only [offT] at h2
        cases ho : offT tb (.f n :: p) with
        | none => rw [ho] at h2; cases h2
        | some o2 =>
          rw [ho] at h2
          obtain rfl : ta.sz + o2 = off := by simpa using h2
          obtain ⟨y, q1, q2, q3⟩ := ihn tb x.2 c2 u o2 h1 ho g2
          have hl := RepC.length ta x.1 c1 g1
          refine ⟨y, q1, ?_, by rw [List.length_append]; omega⟩
          rw [List.drop_append, List.drop_of_length_le (by omega), List.nil_append, show ta.sz + o2 - c1.length = o2 by omega]; exact q2
    cases s with
    | f n => intro t x cs u off h1 h2 h; exact hf n t x cs u off h1 h2 h
    | x i =>
      intro t x cs u off h1 h2 h
      cases t <;> simp only [tyAt] at h1 <;> first | cases h1 | skip
      rename_i n tu
      simp only [offT] at h2
      split at h2
      · rename_i hi
        cases ho : offT tu p with
        | none => rw [ho] at h2; cases h2
        | some o2 =>
          rw [ho] at h2
          obtain rfl : i * tu.sz + o2 = off := by simpa using h2
          obtain ⟨hn, hr⟩ := h
          have hg := Rows.get RepC.len i tu.zero hr (by omega)
          obtain ⟨y, q1, q2, q3⟩ := ih tu (x.getD i tu.zero) _ u o2 h1 ho hg
          have hl := Rows.len_eq RepC.len hr
          have hb : i * tu.sz + tu.sz ≤ cs.length := by
            rw [hl, hn, ← Nat.succ_mul]; exact Nat.mul_le_mul_right _ hi
          rw [List.length_take, List.length_drop] at q3
          refine ⟨y, q1, ?_, by omega⟩
          rw [dropTake (by omega)] at q2
          exact q2
      · cases h2

theorem RA.len {c : Cx} : ∀ {t : T} {av : AV} {cs : List Value}, RA c t av cs → cs.length = t.sz
  | _, _, _, .val h => RepC.length _ _ _ h
  | t, _, _, .ref _ _ _ h => by cases t <;> simp [T.one] at h <;> rfl
  | _, _, _, .un => rfl
  | _, _, _, .pr h1 h2 => by rw [List.length_append, RA.len h1, RA.len h2]; rfl
theorem readA_sound {c : Cx} : ∀ (p : List Stp) (t : T) (av : AV) (cs : List Value) (u : T) (off : Nat), tyAt t p = some u → offT t p = some off → RA c t av cs →
    RA c u (readA av p) ((cs.drop off).take u.sz) ∧ off + u.sz ≤ cs.length := by
  intro p
  induction p with
  | nil =>
    intro t av cs u off h1 h2 h
    have e1 : t = u := by cases t <;> simpa [tyAt] using h1
    have e2 : off = 0 := by cases t <;> simpa [offT] using h2.symm
    subst e1; subst e2
    have hl := h.len
    refine ⟨?_, by omega⟩
    rw [List.drop_zero, List.take_of_length_le (by omega)]
    cases av <;> exact h
  | cons s p ih =>
    intro t av cs u off h1 h2 h
    cases h with
    | @val _ x _ hv =>
      obtain ⟨y, q1, q2, q3⟩ := readT_sound (P := c.P) (s :: p) t x cs u off h1 h2 hv
      refine ⟨?_, q3⟩
      have : readA (.val t x) (s :: p) = .val u y := q1
      rw [this]; exact .val q2
    | ref a b d e =>
      exfalso
      cases t <;> simp [T.one] at e <;> cases s <;> simp [tyAt] at h1
    | un => cases s <;> simp [tyAt] at h1
    | @pr tx ty v r c1 c2 g1 g2 =>
      cases s with
      | x i => simp [tyAt] at h1
      | f n =>
        -- the n-th field
        have key : ∀ (n : Nat) (t : T) (fs : List AV) (cs : List Value) (u : T) (off : Nat), tyAt t (.f n :: p) = some u → offT t (.f n :: p) = some off → RA c t (.agg fs) cs →
            ∃ v, fs[n]? = some v ∧ RA c u (readA v p) ((cs.drop off).take u.sz) ∧ off + u.sz ≤ cs.length := by
          intro n
          induction n with
          | zero =>
            intro t fs cs u off h1 h2 h
            cases h with
            | ref a _ _ _ => simp [AV.one] at a
            | un => simp [tyAt] at h1
            | @pr tx ty v r c1 c2 g1 g2 =>
              obtain ⟨q1, q2⟩ := ih tx v c1 u off (by simpa [tyAt] using h1) (by simpa [offT] using h2) g1
              refine ⟨v, rfl, ?_, by rw [List.length_append]; omega⟩
              rw [List.drop_append_of_le_length (by omega), List.take_append_of_le_length (by rw [List.length_drop]; omega)]; exact q1
          | succ n ihn =>
            intro t fs cs u off h1 h2 h
            cases h with
            | ref a _ _ _ => simp [AV.one] at a
            | un => simp [tyAt] at h1
            | @pr tx ty v r c1 c2 g1 g2 =>
              simp only [offT] at h2
              cases ho : offT ty (.f n :: p) with
              | none => rw [ho] at h2; cases h2
              | some o2 =>
                rw [ho] at h2
                obtain rfl : tx.sz + o2 = off := by simpa using h2
                obtain ⟨v', q0, q1, q2⟩ := ihn ty r c2 u o2 (by simpa [tyAt] using h1) ho g2
                have hl := g1.len
                refine ⟨v', by simpa using q0, ?_, by rw [List.length_append]; omega⟩
                rw [List.drop_append, List.drop_of_length_le (by omega), List.nil_append, show tx.sz + o2 - c1.length = o2 by omega]; exact q1
        obtain ⟨v', q0, q1, q2⟩ := key n _ (v :: r) _ u off h1 h2 (.pr g1 g2)
        refine ⟨?_, q2⟩
        have : readA (.agg (v :: r)) (.f n :: p) = readA v' p := by rw [readA]; simp only [q0]
        rw [this]; exact q1

/-! ### The value that cells make -/
theorem RepC.single {t : T} {x : t.in} {cs : List Value} (ht : t.isAgg = false) (h : RepC P t Z w x cs) : ∃ v, cs = [v] ∧ isAggV v = false := by
  cases t <;> simp only [T.isAgg] at ht <;> first | (cases ht; done) | skip
  · exact ⟨_, h.1, rfl⟩
  · exact ⟨_, h, rfl⟩
  · obtain ⟨s, e, _⟩ := h; exact ⟨_, e, rfl⟩
  · rcases h with ⟨_, e⟩ | ⟨_, _, _, e⟩ <;> exact ⟨_, e, rfl⟩
  · obtain ⟨_, _, e, _⟩ := h; exact ⟨_, e, rfl⟩
  · obtain ⟨_, e, _⟩ := h; exact ⟨_, e, rfl⟩
  · rcases h with ⟨_, e⟩ | ⟨_, _, _, _, _, e, _⟩ <;> exact ⟨_, e, rfl⟩
  · obtain ⟨_, _, _, e, _⟩ := h; exact ⟨_, e, rfl⟩
  · obtain ⟨_, e, _⟩ := h; exact ⟨_, e, rfl⟩
/-- The value of a variable's cells. -/
def ofCells (t : T) (cs : List Value) : Value := if t.isAgg = true then .agg cs.toArray else cs.headD undef
theorem RA.toV {c : Cx} {t : T} {av : AV} {cs : List Value} (h : RA c t av cs) : RAV c av (ofCells t cs) := by
  cases h with
  | @val _ x _ hv =>
    refine .val ?_
    unfold ofCells
    by_cases ht : t.isAgg = true
    · rw [if_pos ht]; exact ⟨ht.symm, by simpa [Value.cells] using hv⟩
    · rw [if_neg ht]
      have ht' : t.isAgg = false := by simpa using ht
      obtain ⟨v, rfl, hv2⟩ := RepC.single ht' hv
      exact RepC.one hv2 ht' hv
  | ref a b d e =>
    have : t.isAgg = false := by cases t <;> simp [T.one] at e <;> rfl
    unfold ofCells
    rw [if_neg (by rw [this]; simp)]
    exact .ref a b
  | un => exact .agg .un rfl .un
  | @pr x y v r c1 c2 g1 g2 => exact .agg (.pr x y) rfl (by simpa using RA.pr g1 g2)
theorem RA.one_cell {c : Cx} {t : T} {av : AV} {cs : List Value} (h : RA c t av cs) (ht : t.isAgg = false) : ∃ v, cs = [v] := by
  cases h with
  | val hv => obtain ⟨v, e, _⟩ := RepC.single ht hv; exact ⟨v, e⟩
  | ref => exact ⟨_, rfl⟩
  | un => cases ht
  | pr => cases ht

theorem run_load_cells (ty : TyOK P E) {id : TypeId} {u : T} (hu : E.ty id = some u) {b off : Nat} {cs : List Value} (hc : cellsAt w b off cs) (hl : cs.length = u.sz) (h1 : u.isAgg = false → ∃ v, cs = [v]) :
    (Instr.loadAt id (.pointer (some ⟨b, off, none⟩))).run P w = .ok (ofCells u cs) w := by
  obtain ⟨row, e, fr, m1, m2, m3⟩ := hc
  have hr : w.rangeAt b off cs := by
    intro j v hj
    have hjl : j < cs.length := (List.getElem?_eq_some_iff.1 hj).1
    rw [← m3] at hj
    rw [List.getElem?_take, if_pos hjl, List.getElem?_drop] at hj
    simp only [World.cell?, m1]
    simpa using hj
  obtain ⟨i, z, hi, hsz, _⟩ := ty.info id u hu
  obtain ⟨d, hd, hrow⟩ := ty.agg id u hu
  by_cases hagg : u.isAgg = true
  · unfold ofCells; rw [if_pos hagg]
    refine run_loadAt_mid w b off id cs d hr hd ?_ (by rw [hi]; simp [hsz, hl])
    rw [hagg] at hrow
    cases d <;> simp [isRowD] at hrow <;> rfl
  · have hagg' : u.isAgg = false := by simpa using hagg
    unfold ofCells; rw [if_neg hagg]
    obtain ⟨v, rfl⟩ := h1 hagg'
    rw [hagg'] at hrow
    have hia : (isAgg id).run P w = .ok false w := by
      unfold isAgg
      rw [Sem.run_bind, run_underlying hd w, Result.andThen_ok]
      cases d <;> simp [isRowD] at hrow <;> rfl
    have hcell := hr 0 v rfl
    rw [Nat.add_zero] at hcell
    simp only [Instr.loadAt, Instr.sureAddr, Sem.run_bind, Sem.run_pure, Result.andThen_ok, loadVar, hia]
    simp [hcell]
end
end Ev
/- Operations that only read (4): each operation. -/
namespace Ev
open Go
section
variable {P : Program} {E : Env} {st : St} {a : Act} {w : World} {Z : Zn} {pv : Nat → Value} {bl : Nat → Option Nat} {R : Type} {K : AV → St → Option R} {r : R} {o : Oper}

/-- Objects, but for some, stay the function's own or turn to memory that is read alone. -/
def Keep (bl : Nat → Option Nat) (Z' : Zn) (bl' : Nat → Option Nat) (wr : List Nat) : Prop := ∀ o b, bl o = some b → o ∉ wr → bl' o = some b ∨ Z' b
theorem Keep.refl (bl : Nat → Option Nat) (Z' : Zn) (wr : List Nat) : Keep bl Z' bl wr := fun _ _ h _ => .inl h
def Quiet (P : Program) (E : Env) (st : St) (a : Act) (w : World) (Z : Zn) (bl : Nat → Option Nat) {R : Type} (o : Oper) (K : AV → St → Option R) (r : R) : Prop :=
  ∃ v av st' Z' pv' bl', Yld P st a o w Z bl v ∧ Sim P E st' a w Z' pv' bl' ∧ Tr w Z bl w Z' bl' ∧ RAV (cx P E st' w Z' pv' bl') av v ∧ K av st' = some r ∧ Keep bl Z' bl' []

theorem Quiet.same (h : Sim P E st a w Z pv bl) {v : Value} {av : AV} (hy : Yld P st a o w Z bl v) (hv : RAV (cx P E st w Z pv bl) av v) (hk : K av st = some r) : Quiet P E st a w Z bl o K r :=
  ⟨v, av, st, Z, pv, bl, hy, h, Tr.refl _ _ _, hv, hk, Keep.refl _ _ _⟩

/-- A new object. -/
def upd {α : Type} (f : Nat → α) (n : Nat) (x : α) : Nat → α := fun o => if Nat.beq o n = true then x else f o
theorem upd_same {α : Type} (f : Nat → α) (n : Nat) (x : α) : upd f n x n = x := if_pos (Nat.beq_refl n)
theorem upd_ne {α : Type} (f : Nat → α) {n o : Nat} (x : α) (h : o ≠ n) : upd f n x o = f o := if_neg (fun q => h (Nat.eq_of_beq_eq_true q))
theorem new_hp (s : St) (x : Ob) : (s.new x).hp = upd s.hp s.nx x := rfl
theorem set_hp (s : St) (n : Nat) (x : Ob) : (s.set n x).hp = upd s.hp n x := rfl
theorem Sim.extNew (_h : Sim P E st a w Z pv bl) (ob : Ob) (vn : Value) (bn : Option Nat) :
    Ext (cx P E st w Z pv bl) (cx P E (st.new ob) w Z (upd pv st.nx vn) (upd bl st.nx bn)) := by
  have hne : ∀ o, o < st.nx → o ≠ st.nx := fun o ho e => by omega
  refine ⟨rfl, rfl, fun _ h => h, Agree.refl _ _, Nat.le_succ _, fun o e u l k ho hx => ?_, fun o e x ho hx => ?_, fun o m k v l q ho hx => ?_⟩
  · have hx' : upd st.hp st.nx ob o = .arr e u l k := hx
    rw [upd_ne _ _ (hne o ho)] at hx'
    exact ⟨upd_ne _ _ (hne o ho), l, k, hx'⟩
  · have hx' : upd st.hp st.nx ob o = .box e x := hx
    rw [upd_ne _ _ (hne o ho)] at hx'
    exact ⟨upd_ne _ _ (hne o ho), x, hx'⟩
  · have hx' : upd st.hp st.nx ob o = .map m k v l q := hx
    rw [upd_ne _ _ (hne o ho)] at hx'
    exact ⟨upd_ne _ _ (hne o ho), l, q, hx'⟩
theorem Keep.new (h : Sim P E st a w Z pv bl) (Z' : Zn) (x : Option Nat) (wr : List Nat) : Keep bl Z' (upd bl st.nx x) wr := fun o b hb _ => by
  have : o ≠ st.nx := fun e => by
    have := (h.fresh o (by omega)).2
    rw [this] at hb; cases hb
  rw [upd_ne _ _ this]; exact .inl hb
theorem Sim.new (h : Sim P E st a w Z pv bl) {ob : Ob} {vn : Value} {bn : Option Nat} (hbn : ∀ b, bn = some b → (∀ o, bl o ≠ some b) ∧ ¬ Z b ∧ b < w.heap.size)
    (hob : RepOb (cx P E (st.new ob) w Z (upd pv st.nx vn) (upd bl st.nx bn)) st.nx ob) : Sim P E (st.new ob) a w Z (upd pv st.nx vn) (upd bl st.nx bn) := by
  have hx := h.extNew ob vn bn
  refine ⟨h.n, h.defers, h.out, fun i hi => (h.slots i hi).ext hx, fun o ho => ?_, fun o ho => ?_, fun o o' b h1 h2 => ?_, fun o b hb => ?_, h.zok⟩
  · by_cases he : o = st.nx
    · subst he
      have : (st.new ob).hp st.nx = ob := upd_same _ _ _
      rw [this]; exact hob
    · have ho' : o < st.nx := by have : o < st.nx + 1 := ho; omega
      have : (st.new ob).hp o = st.hp o := upd_ne _ _ he
      rw [this]
      exact (h.obs o ho').ext hx (upd_ne _ _ he) (upd_ne _ _ he) (fun _ _ => rfl)
  · have ho' : st.nx + 1 ≤ o := ho
    have he : o ≠ st.nx := by omega
    have h1 := h.fresh o (by omega)
    exact ⟨(upd_ne _ _ he).trans h1.1, (upd_ne _ _ he).trans h1.2⟩
  · by_cases he : o = st.nx
    · subst he
      rw [upd_same] at h1
      by_cases he' : o' = st.nx
      · exact he'.symm
      · rw [upd_ne _ _ he'] at h2
        exact absurd h2 ((hbn b h1).1 o')
    · rw [upd_ne _ _ he] at h1
      by_cases he' : o' = st.nx
      · subst he'
        rw [upd_same] at h2
        exact absurd h1 ((hbn b h2).1 o)
      · rw [upd_ne _ _ he'] at h2
        exact h.inj o o' b h1 h2
  · by_cases he : o = st.nx
    · subst he
      rw [upd_same] at hb
      exact (hbn b hb).2
    · rw [upd_ne _ _ he] at hb
      exact h.own o b hb
theorem Tr.new (w : World) (Z : Zn) (bl : Nat → Option Nat) (n : Nat) : Tr w Z bl w Z (upd bl n none) :=
  ⟨rfl, rfl, rfl, Nat.le_refl _, fun _ _ _ => rfl, fun _ h => h, fun _ h => .inl h, fun o b hb => by
    by_cases he : o = n
    · subst he; rw [upd_same] at hb; cases hb
    · rw [upd_ne _ _ he] at hb; exact .inl ⟨o, hb⟩⟩
/-- A slice of no element. -/
theorem Own.none {e : TypeId} {t : T} {k : Nat} : Own P Z w e t [] k (.slice none 0 0) := ⟨[], .nil, .inl ⟨rfl, rfl⟩⟩
theorem Sim.newNil (h : Sim P E st a w Z pv bl) {e : TypeId} {u : T} (he : E.ty e = some u) :
    Sim P E (st.new (.arr e u [] 0)) a w Z (upd pv st.nx (.slice none 0 0)) (upd bl st.nx none) ∧ RAV (cx P E (st.new (.arr e u [] 0)) w Z (upd pv st.nx (.slice none 0 0)) (upd bl st.nx none)) (.sl st.nx) (.slice none 0 0) := by
  refine ⟨h.new (fun b hb => by cases hb) ⟨he, .inl ⟨Nat.zero_le _, ?_, ?_⟩⟩, .ref rfl ⟨Nat.lt_succ_self _, fun _ _ _ _ _ => (upd_same _ _ _).symm⟩⟩
  · show Own P Z w e u [] 0 (upd pv st.nx (.slice none 0 0) st.nx)
    rw [upd_same]; exact Own.none
  · show upd bl st.nx none st.nx = (upd pv st.nx (.slice none 0 0) st.nx).ownBlock
    rw [upd_same, upd_same]; rfl

theorem move_quiet (h : Sim P E st a w Z pv bl) {x : Operand} (hop : execOp a.eval o = pure (.value (a.eval x))) (he : evMove E o.type (st.op x) st K = some r) : Quiet P E st a w Z bl o K r := by
  have hy : Yld P st a o w Z bl (a.eval x) := fun w' _ => by rw [hop]; rfl
  have hv := h.op x
  unfold evMove at he
  split at he
  · rename_i k hk
    rw [hk] at hv
    have hn : nilV k (a.eval x) := hv.ref_inv rfl
    unfold evNil at he
    split at he
    · split at he
      · rename_i e hds
        split at he
        · rename_i u hu
          obtain ⟨h1, h2⟩ := h.newNil hu
          have hvv : a.eval x = .slice none 0 0 := hn
          rw [hvv] at hy
          exact ⟨_, _, _, _, _, _, hy, h1, Tr.new _ _ _ _, h2, he, Keep.new h _ _ _⟩
        · cases he
      · cases he
    · split at he
      · split at he
        · rename_i hx
          exact Quiet.same h hy (.val (nilOf_sound hx hn)) he
        · cases he
      · cases he
  · exact Quiet.same h hy hv he

theorem dec_some {av : AV} {K : Bool → Option R} (h : dec av K = some r) : ∃ b, av = .val .b b ∧ K b = some r := by
  unfold dec at h
  split at h
  · rename_i x
    split at h
    · rename_i hx; exact ⟨true, by rw [hx], h⟩
    · rename_i hx; exact ⟨false, by simp at hx; rw [hx], h⟩
  · cases h
theorem pick_quiet (h : Sim P E st a w Z pv bl) {c x y : Operand} (hop : o.op = .pick c x y) (he : evOp E o st K = some r) : Quiet P E st a w Z bl o K r := by
  simp only [evOp, hop] at he
  obtain ⟨b, hb, hk⟩ := dec_some he
  have hc := h.op c
  rw [hb] at hc
  have hcv := RepV.bool_inv hc.val_inv
  refine Quiet.same h (v := a.eval (if b = true then x else y)) (fun w' _ => ?_) (h.op _) hk
  simp only [execOp, hop, hcv, Sem.run_bind]
  cases b <;> simp [asBool]
theorem bin_quiet (ty : TyOK P E) (hO : ∀ g o, E.orc g = some o → Contract P g o) (h : Sim P E st a w Z pv bl) {b : BinOp} {t u : TypeId} {x y : Operand} (hop : o.op = .binOp b t x y u) (he : evOp E o st K = some r) : Quiet P E st a w Z bl o K r := by
  simp only [evOp, hop] at he
  obtain ⟨q, z, v, h1, h2, h3⟩ := evBin_sound ty hO h (h.op x) (h.op y) he
  refine Quiet.same h (v := v) (fun w' _ => ?_) (.val h2) h3
  have := h1 w'
  simp only [execOp, hop]
  rw [Sem.run_bind, this]; rfl
theorem un_quiet (h : Sim P E st a w Z pv bl) {b : UnOp} {t : TypeId} {x : Operand} (hop : o.op = .unOp b t x) (he : evOp E o st K = some r) : Quiet P E st a w Z bl o K r := by
  simp only [evOp, hop] at he
  obtain ⟨q, z, v, h1, h2, h3⟩ := evUn_sound (P := P) (h.op x) he
  refine Quiet.same h (v := v) (fun w' _ => ?_) (.val h2) h3
  simp only [execOp, hop]
  rw [Sem.run_bind, h1 w']; rfl
theorem func_quiet (h : Sim P E st a w Z pv bl) {g : FuncId} {f q : Array Operand} (hop : o.op = .makeFunc (.func g) f q) (he : evOp E o st K = some r) : Quiet P E st a w Z bl o K r := by
  simp only [evOp, hop] at he
  refine Quiet.same h (v := .func (.func g) (f.map a.eval) (q.map a.eval)) (fun w' _ => ?_) (.clo (by simpa using h.ops f.toList) (by simpa using h.ops q.toList)) he
  simp only [execOp, hop, Instr.makeFunc]; rfl
theorem RAVs.get {c : Cx} : ∀ {as : List AV} {vs : List Value}, RAVs c as vs → ∀ (i : Nat) (av : AV), as[i]? = some av → ∃ v, vs[i]? = some v ∧ RAV c av v
  | _, _, .nil, i, _, h => by simp at h
  | _, _, .cons hv _, 0, _, h => by
    obtain rfl := Option.some.inj h
    exact ⟨_, rfl, hv⟩
  | _, _, .cons _ hr, i + 1, av, h => by
    obtain ⟨v, h1, h2⟩ := RAVs.get hr i av (by simpa using h)
    exact ⟨v, by simpa using h1, h2⟩
theorem RAV.tup_inv {c : Cx} {vs : List AV} {v : Value} (h : RAV c (.tup vs) v) : ∃ us : Array Value, v = .tuple us ∧ RAVs c vs us.toList := by
  cases h with
  | ref h1 _ => simp [AV.one] at h1
  | tup h => exact ⟨_, rfl, h⟩
theorem extract_quiet (h : Sim P E st a w Z pv bl) {x : Operand} {i : Nat} (hop : o.op = .extract x i) (he : evOp E o st K = some r) : Quiet P E st a w Z bl o K r := by
  simp only [evOp, hop] at he
  split at he
  · rename_i vs hx
    have hv := h.op x
    rw [hx] at hv
    obtain ⟨us, hev, hus⟩ := hv.tup_inv
    split at he
    · rename_i av hav
      obtain ⟨v, h1, h2⟩ := hus.get i av hav
      refine Quiet.same h (v := v) (fun w' _ => ?_) h2 he
      have h1' : us[i]? = some v := by simpa using h1
      simp only [execOp, hop, hev, Instr.extract, h1', Sem.run_bind]; rfl
    · cases he
  · cases he

/-! ### Places -/
theorem decB {p : Prop} [Decidable p] (h : decide p = true) : p := of_decide_eq_true h
theorem ptIs_some {id : TypeId} {x : AV} (h : ptIs E st id x = true) : ∃ t, E.ty id = some t ∧ ptTy E st x = some t := by
  unfold ptIs at h
  split at h
  · rename_i t u h1 h2
    obtain rfl := of_decide_eq_true h
    exact ⟨t, h1, h2⟩
  · cases h
/-- Where a pointer leads: to cells in memory that stay as they are while nothing is written. -/
structure Place (P : Program) (E : Env) (st : St) (w : World) (Z : Zn) (pv : Nat → Value) (bl : Nat → Option Nat) (x : AV) (v : Value) (t : T) (b off : Nat) (cs : List Value) : Prop where
  v : v = .pointer (some ⟨b, off, none⟩)
  cells : cellsAt w b off cs
  rep : RA (cx P E st w Z pv bl) t (evLoad st x) cs
  lt : b < w.heap.size
  own : Z b ∨ ∃ o ∈ ptIds x, bl o = some b
theorem cellsAt.lt {w : World} {b off : Nat} {cs : List Value} (h : cellsAt w b off cs) : b < w.heap.size := by
  obtain ⟨row, e, fr, h1, _⟩ := h
  exact (Array.getElem?_eq_some_iff.1 h1).1
theorem cellsAt.part {w : World} {b off : Nat} {cs : List Value} (h : cellsAt w b off cs) {o n : Nat} (hn : o + n ≤ cs.length) : cellsAt w b (off + o) ((cs.drop o).take n) := by
  obtain ⟨row, e, fr, h1, h2, h3⟩ := h
  have hl : ((cs.drop o).take n).length = n := by rw [List.length_take, List.length_drop]; omega
  refine ⟨row, e, fr, h1, by rw [hl]; omega, ?_⟩
  rw [hl, ← h3, dropTake (by omega)]
theorem rowsOf_arr {o : Nat} {e : TypeId} {u : T} {l : List u.in} {k : Nat} (h : RepOb (cx P E st w Z pv bl) o (.arr e u l k)) {b s n q : Nat} (hp : pv o = .slice (some ⟨b, s, none⟩) n q) {i : Nat} (hi : i < n) :
    n = l.length ∧ (∃ row, Rows (RepC P u Z w) l row ∧ cellsAt w b s row) ∧ (Z b ∨ bl o = some b) := by
  rcases h.2 with ⟨_, ⟨xs, h1, h2⟩, hbl⟩ | ⟨_, _, h1⟩
  · have hbl : bl o = (pv o).ownBlock := hbl
    rcases h2 with ⟨h2, rfl⟩ | ⟨g, cap, cur, fr, h2, h3, h4, h5, h6, h7, h8⟩
    · have := (show pv o = _ from h2).symm.trans hp; cases this
    · have := (show pv o = _ from h2).symm.trans hp
      cases this
      refine ⟨rfl, ⟨xs, h1, cur, e, fr, h3, ?_, ?_⟩, .inr ?_⟩
      · have hl := Rows.len_eq RepC.len h1
        rw [hl, h6, Nat.zero_add]; exact Nat.mul_le_mul_right _ h4
      · rw [List.drop_zero]; exact h7
      · rw [hbl, show pv o = _ from h2]; rfl
  · obtain ⟨a0, c0, e0, hc, h1⟩ := h1
    have e1 : pv o = .slice a0 l.length c0 := (List.cons.inj e0).1
    rw [e1] at hp
    cases hp
    refine ⟨rfl, ?_⟩
    rcases h1 with h1 | ⟨b', off, row, e2, hb, hr, hm⟩
    · subst h1; simp at hi
    · cases e2; exact ⟨⟨row, hr, hm⟩, .inl hb⟩
theorem place_of (h : Sim P E st a w Z pv bl) {x : AV} {v : Value} {t : T} (hv : RAV (cx P E st w Z pv bl) x v) (ht : ptTy E st x = some t) : ∃ b off cs, Place P E st w Z pv bl x v t b off cs := by
  unfold ptTy at ht
  split at ht
  · rename_i o p
    split at ht
    · rename_i e x0 hh
      split at ht
      · rename_i t0 ht0
        have hr := hv.ref_inv rfl
        obtain ⟨b, t1, off, q1, q2, q3, q4⟩ := hr.2 e x0 hh
        have e1 : t1 = t0 := Option.some.inj ((show E.ty e = some t1 from q2).symm.trans ht0)
        subst e1
        have hbx : RepOb (cx P E st w Z pv bl) o (.box e x0) := hh ▸ h.obs o hr.1
        obtain ⟨t2, b2, cs, r1, r2, r3, r4⟩ := hbx
        have e2 : b = b2 := Option.some.inj ((show bl o = some b from q1).symm.trans r2)
        subst e2
        have e3 : t2 = t1 := Option.some.inj ((show E.ty e = some t2 from r1).symm.trans ht0)
        subst e3
        obtain ⟨g1, g2⟩ := readA_sound p t2 x0 cs.toList t off ht q3 r4
        have hc : cellsAt w b 0 cs.toList := ⟨cs, e, (0, 0), r3, by simp, by rw [List.drop_zero]; exact List.take_of_length_le (Nat.le_refl _)⟩
        have hc2 := hc.part g2
        rw [Nat.zero_add] at hc2
        have hl : evLoad st (.ptr o p) = readA x0 p := by simp only [evLoad, hh]
        exact ⟨b, off, _, q4, hc2, by rw [hl]; exact g1, hc2.lt, .inr ⟨o, List.mem_singleton.2 rfl, r2⟩⟩
      · cases ht
    · cases ht
  · rename_i o i p
    split at ht
    · rename_i e u l k hh
      have hr := hv.ref_inv rfl
      obtain ⟨b, s, n, q, off, p1, p2, p3, p4⟩ := hr.2 e u l k hh
      have hob : RepOb (cx P E st w Z pv bl) o (.arr e u l k) := hh ▸ h.obs o hr.1
      obtain ⟨hn, ⟨row, hrow, hm⟩, hwh⟩ := rowsOf_arr hob p1 p2
      have hg := Rows.get RepC.len i u.zero hrow (by omega)
      obtain ⟨y, q1, q2, q3⟩ := readT_sound p u (l.getD i u.zero) _ t off ht p3 hg
      have hl := Rows.len_eq RepC.len hrow
      have hb : i * u.sz + u.sz ≤ row.length := by
        rw [hl, ← Nat.succ_mul]; exact Nat.mul_le_mul_right _ (by omega)
      rw [List.length_take, List.length_drop] at q3
      rw [dropTake (by omega)] at q2
      have hc := hm.part (o := i * u.sz + off) (n := t.sz) (by omega)
      have hl : evLoad st (.elp o i p) = readT u (l.getD i u.zero) p := by simp only [evLoad, hh]
      exact ⟨b, s + (i * u.sz + off), _, p4, hc, by rw [hl, q1]; exact .val q2, hc.lt, hwh.imp id fun q => ⟨o, List.mem_singleton.2 rfl, q⟩⟩
    · cases ht
  · rename_i t0 x0
    obtain rfl := Option.some.inj ht
    obtain ⟨h1, h2⟩ := hv.val_inv
    rcases h2 with ⟨e, _⟩ | ⟨y, b, off, row, e1, e2, hb, hr, hm⟩
    · cases e
    · obtain rfl := Option.some.inj e1
      have hvv : v = .pointer (some ⟨b, off, none⟩) := by cases v <;> simp [Value.cells, isAggV, T.isAgg] at h1 e2 <;> simp_all
      exact ⟨b, off, row, hvv, hm, .val hr, hm.lt, .inl hb⟩
  · cases ht
theorem cellsAt.kept {w w' : World} {b off : Nat} {cs : List Value} (h : cellsAt w b off cs) (k : Kept w w') : cellsAt w' b off cs := h.agree (k.2.2.2.2 b h.lt)
theorem load_quiet (ty : TyOK P E) (h : Sim P E st a w Z pv bl) {t : TypeId} {x : Operand} (hop : o.op = .load t x) (he : evOp E o st K = some r) : Quiet P E st a w Z bl o K r := by
  simp only [evOp, hop] at he
  split at he
  · rename_i hp
    obtain ⟨u, hu, hpt⟩ := ptIs_some hp
    obtain ⟨b, off, cs, pl⟩ := place_of h (h.op x) hpt
    refine Quiet.same h (v := ofCells u cs) (fun w' hk0 => ?_) pl.rep.toV he
    have hk := hk0 b (by rw [hop]; exact pl.own)
    simp only [execOp, hop, pl.v]
    rw [Sem.run_bind, run_load_cells ty hu (pl.cells.agree hk) pl.rep.len (fun q => pl.rep.one_cell q)]; rfl
  · cases he
end
end Ev
/- Operations that only read (5): addresses, parts, look-ups. -/
namespace Ev
open Go
section
variable {P : Program} {E : Env} {st : St} {a : Act} {w : World} {Z : Zn} {pv : Nat → Value} {bl : Nat → Option Nat} {R : Type} {K : AV → St → Option R} {r : R} {o : Oper}

theorem offT_app : ∀ (p q : List Stp) (t u : T) (off off2 : Nat), tyAt t p = some u → offT t p = some off → offT u q = some off2 → offT t (p ++ q) = some (off + off2) := by
  intro p
  induction p with
  | nil =>
    intro q t u off off2 h1 h2 h3
    have e1 : t = u := by cases t <;> simpa [tyAt] using h1
    have e2 : off = 0 := by cases t <;> simpa [offT] using h2.symm
    subst e1; subst e2; simpa using h3
  | cons s p ih =>
    have hf : ∀ (n : Nat) (q : List Stp) (t u : T) (off off2 : Nat), tyAt t (.f n :: p) = some u → offT t (.f n :: p) = some off → offT u q = some off2 → offT t (.f n :: p ++ q) = some (off + off2) := by
      intro n
      induction n with
      | zero =>
        intro q t u off off2 h1 h2 h3
        cases t <;> simp only [tyAt] at h1 <;> first | cases h1 | skip
        simp only [offT] at h2
        simp only [List.cons_append, offT]
        exact ih q _ u off off2 h1 h2 h3
      | succ n ihn =>
        intro q t u off off2 h1 h2 h3
        cases t <;> simp only [tyAt] at h1 <;> first | cases h1 | skip
        rename_i ta tb
        simp only [offT] at h2
        simp only [List.cons_append, offT]
        cases ho : offT tb (.f n :: p) with
        | none => rw [ho] at h2; cases h2
        | some o2 =>
          rw [ho] at h2
          obtain rfl : ta.sz + o2 = off := by simpa using h2
          have := ihn q tb u o2 off2 h1 ho h3
          simp only [List.cons_append] at this
          rw [this]; simp; omega
    cases s with
    | f n => intro q t u off off2 h1 h2 h3; exact hf n q t u off off2 h1 h2 h3
    | x i =>
      intro q t u off off2 h1 h2 h3
      cases t <;> simp only [tyAt] at h1 <;> first | cases h1 | skip
      rename_i n tu
      simp only [offT] at h2
      simp only [List.cons_append, offT]
      split at h2
      · rename_i hi
        rw [if_pos hi]
        cases ho : offT tu p with
        | none => rw [ho] at h2; cases h2
        | some o2 =>
          rw [ho] at h2
          obtain rfl : i * tu.sz + o2 = off := by simpa using h2
          rw [ih q tu u o2 off2 h1 ho h3]; simp; omega
      · cases h2

theorem nilcheck_quiet (h : Sim P E st a w Z pv bl) {x : Operand} (hop : o.op = .nilCheck x) (he : evOp E o st K = some r) : Quiet P E st a w Z bl o K r := by
  simp only [evOp, hop] at he
  have hv := h.op x
  unfold evChk at he
  split at he
  · rename_i t q hq
    rw [hq] at hv
    cases q with
    | none => cases he
    | some v =>
      obtain ⟨b, off, cs, pl⟩ := place_of h hv (t := t) rfl
      refine Quiet.same h (v := a.eval x) (fun w' _ => ?_) hv he
      simp only [execOp, hop, pl.v]; rfl
  · split at he
    · rename_i t ht
      obtain ⟨b, off, cs, pl⟩ := place_of h hv ht
      refine Quiet.same h (v := a.eval x) (fun w' _ => ?_) hv he
      simp only [execOp, hop, pl.v]; rfl
    · cases he

theorem run_index_ok {P : Program} (ty : TyOK P E) {id e : TypeId} {u : T} (hd : P.underlying id = some (.slice e)) (hu : E.ty e = some u) {b s n q : Nat} {k : IntKind} {i : Int} (h0 : 0 ≤ i) (h1 : i < n) (w' : World) :
    (Instr.indexAt id (.slice (some ⟨b, s, none⟩) n q) (.int k i)).run P w' = .ok (.pointer (some ⟨b, s + i.toNat * u.sz, none⟩)) w' := by
  obtain ⟨inf, z, hi, hsz, _⟩ := ty.info e u hu
  have : (⟨b, s, none⟩ : Addr).add (i.toNat * u.sz) = ⟨b, s + i.toNat * u.sz, none⟩ := Addr.add_mid _ _ _
  simp [Instr.indexAt, asIntOf, run_underlying hd, Go.sizeOf, typeInfo, hi, hsz, h0, h1, this]
theorem run_index_arr {P : Program} (ty : TyOK P E) {id e : TypeId} {u : T} {n : Nat} (hd : P.underlying id = some (.array n e)) (hu : E.ty e = some u) {b s : Nat} {k : IntKind} {i : Int} (h0 : 0 ≤ i) (h1 : i < n) (w' : World) :
    (Instr.indexAt id (.pointer (some ⟨b, s, none⟩)) (.int k i)).run P w' = .ok (.pointer (some ⟨b, s + i.toNat * u.sz, none⟩)) w' := by
  obtain ⟨inf, z, hi, hsz, _⟩ := ty.info e u hu
  have : (⟨b, s, none⟩ : Addr).add (i.toNat * u.sz) = ⟨b, s + i.toNat * u.sz, none⟩ := Addr.add_mid _ _ _
  simp [Instr.indexAt, asIntOf, run_underlying hd, Go.sizeOf, typeInfo, hi, hsz, h0, h1, this, Instr.sureAddr]
theorem inb_some {i : Int} {n : Nat} {K : Option R} {r : R} (h : inb i n K = some r) : 0 ≤ i ∧ i < n ∧ K = some r := by
  unfold inb at h
  split at h
  · split at h
    · exact ⟨by assumption, by assumption, h⟩
    · cases h
  · cases h
theorem slice_inv {u : T} {l : (T.sl u).in} {v : Value} (h : RepV P (.sl u) Z w l v) : ∃ ad q, v = .slice ad l.length q := by
  obtain ⟨h1, ad, q, h2, _⟩ := h
  refine ⟨ad, q, ?_⟩
  cases v <;> simp [Value.cells, isAggV, T.isAgg] at h1 h2 <;> simp_all
theorem RepV.slC {u : T} {l : (T.sl u).in} {v : Value} (h : RepV P (.sl u) Z w l v) : RepC P (.sl u) Z w l [v] := by
  obtain ⟨ad, q, rfl⟩ := slice_inv h
  exact h.2

theorem indexAddr_quiet (ty : TyOK P E) (h : Sim P E st a w Z pv bl) {t : TypeId} {x i : Operand} (hop : o.op = .indexAddr t x i) (he : evOp E o st K = some r) : Quiet P E st a w Z bl o K r := by
  simp only [evOp, hop] at he
  have hx := h.op x
  have hi := h.op i
  unfold evIndexAddr at he
  split at he
  · rename_i k n hin
    rw [hin] at hi
    obtain ⟨hiv, _⟩ := RepV.int_inv hi.val_inv
    have fin : ∀ {v : Value} {av : AV}, (∀ w', True → (Instr.indexAt t (a.eval x) (.int k n)).run P w' = .ok v w') → RAV (cx P E st w Z pv bl) av v → K av st = some r → Quiet P E st a w Z bl o K r := by
      intro v av hy hv hk
      refine Quiet.same h (v := v) (fun w' hkp => ?_) hv hk
      simp only [execOp, hop, hiv]
      rw [Sem.run_bind, hy w' trivial]; rfl
    split at he
    · -- a slice of the function's own
      rename_i e o' hds hxe
      rw [hxe] at hx
      split at he
      · rename_i e' u l q hh
        split at he
        · rename_i hte
          obtain ⟨h0, h1, hk⟩ := inb_some he
          have hr := hx.ref_inv rfl
          have hv : a.eval x = pv o' := hr.2 e' u l q hh
          have hob : RepOb (cx P E st w Z pv bl) o' (.arr e' u l q) := hh ▸ h.obs o' hr.1
          have hsl : ∃ b s c, pv o' = .slice (some ⟨b, s, none⟩) l.length c := by
            rcases hob.2 with ⟨_, ⟨xs, _, h2⟩, _⟩ | ⟨_, _, h2⟩
            · rcases h2 with ⟨h2, rfl⟩ | ⟨g, cap, _, _, h2, _⟩
              · simp at h1; omega
              · exact ⟨g, 0, cap, h2⟩
            · obtain ⟨a0, c0, e0, _, h2⟩ := h2
              rcases h2 with rfl | ⟨b, off, row, rfl, _⟩
              · simp at h1; omega
              · exact ⟨b, off, c0, (List.cons.inj e0).1⟩
          obtain ⟨b, s, c, hp⟩ := hsl
          refine fin (v := .pointer (some ⟨b, s + n.toNat * u.sz, none⟩)) (av := .elp o' n.toNat []) (fun w' _ => ?_) (.ref rfl ⟨hr.1, fun e2 u2 l2 k2 hh2 => ?_⟩) hk
          · rw [hv, hp]; exact run_index_ok ty (ty.sl t e hds) (eTy_some hte) h0 h1 w'
          · have := (show st.hp o' = _ from hh2).symm.trans hh
            cases this
            exact ⟨b, s, l.length, c, 0, hp, by omega, by cases u <;> rfl, by rw [Nat.add_zero]⟩
        · cases he
      · cases he
    · -- a part of one
      rename_i e o' lo m hds hxe
      rw [hxe] at hx
      split at he
      · rename_i e' u l q hh
        split at he
        · rename_i hte
          obtain ⟨h0, h1, hk⟩ := inb_some he
          have hr := hx.ref_inv rfl
          obtain ⟨ad, N, c, ad', c', p1, p2, p3, p4, p5⟩ := hr.2 e' u l q hh
          rcases p5 with p5 | ⟨b, s, rfl, rfl⟩
          · omega
          · refine fin (v := .pointer (some ⟨b, s + lo * u.sz + n.toNat * u.sz, none⟩)) (av := .elp o' (lo + n.toNat) []) (fun w' _ => ?_) (.ref rfl ⟨hr.1, fun e2 u2 l2 k2 hh2 => ?_⟩) hk
            · rw [p4]; exact run_index_ok ty (ty.sl t e hds) (eTy_some hte) h0 h1 w'
            · have := (show st.hp o' = _ from hh2).symm.trans hh
              cases this
              exact ⟨b, s, N, c, 0, p1, by omega, by cases u <;> rfl, by rw [Nat.add_zero, Nat.add_mul, Nat.add_assoc]⟩
        · cases he
      · cases he
    · -- a slice that is read alone
      rename_i e u l hds hxe
      rw [hxe] at hx
      split at he
      · rename_i hte
        obtain ⟨h0, h1, hk⟩ := inb_some he
        have hC := (hx.val_inv).slC
        obtain ⟨ad, c, e0, hc, h2⟩ := hC
        have hv := (List.cons.inj e0).1
        rcases h2 with rfl | ⟨b, off, row, rfl, hb, hrow, hm⟩
        · simp at h1; omega
        · have hg := Rows.get RepC.len n.toNat u.zero hrow (by omega)
          have hl := Rows.len_eq RepC.len hrow
          have hle : n.toNat * u.sz + u.sz ≤ row.length := by rw [hl, ← Nat.succ_mul]; exact Nat.mul_le_mul_right _ (by omega)
          refine fin (v := .pointer (some ⟨b, off + n.toNat * u.sz, none⟩)) (av := .val (.pt u) (some (rdT u l n))) (fun w' _ => ?_) (.val ⟨rfl, .inr ⟨rdT u l n, b, off + n.toNat * u.sz, _, rfl, rfl, hb, hg, hm.part hle⟩⟩) hk
          rw [hv]; exact run_index_ok ty (ty.sl t e hds) (eTy_some hte) h0 h1 w'
      · cases he
    · -- an array in a variable
      rename_i m e o' p hds hxe
      rw [hxe] at hx
      split at he
      · rename_i hp
        obtain ⟨h0, h1, hk⟩ := inb_some he
        obtain ⟨hd, u, hu, hut⟩ := ty.ar t m e hds
        obtain ⟨t1, ht1, hpt⟩ := ptIs_some (hxe ▸ hp)
        have e1 : t1 = .ar m u := Option.some.inj (ht1.symm.trans hut)
        subst e1
        have hr := hx.ref_inv rfl
        obtain ⟨b, off, cs, pl⟩ := place_of h hx hpt
        refine fin (v := .pointer (some ⟨b, off + n.toNat * u.sz, none⟩)) (av := .ptr o' (p ++ [.x n.toNat])) (fun w' _ => ?_) (.ref rfl ⟨hr.1, fun e2 x2 hh2 => ?_⟩) hk
        · rw [pl.v]; exact run_index_arr ty hd hu h0 h1 w'
        · obtain ⟨b2, t2, off2, g1, g2, g3, g4⟩ := hr.2 e2 x2 hh2
          have : tyAt t2 p = some (.ar m u) := by
            have hh3 : st.hp o' = .box e2 x2 := hh2
            have g2' : E.ty e2 = some t2 := g2
            simp only [ptTy, hh3, g2'] at hpt; exact hpt
          have hvv := pl.v.symm.trans g4
          cases hvv
          refine ⟨b, t2, off + n.toNat * u.sz, g1, g2, offT_app p _ t2 _ off _ this g3 ?_, rfl⟩
          simp only [offT]
          rw [if_pos (by omega)]; simp
      · cases he
    · -- an array in an element
      rename_i m e o' j p hds hxe
      rw [hxe] at hx
      split at he
      · rename_i hp
        obtain ⟨h0, h1, hk⟩ := inb_some he
        obtain ⟨hd, u, hu, hut⟩ := ty.ar t m e hds
        obtain ⟨t1, ht1, hpt⟩ := ptIs_some (hxe ▸ hp)
        have e1 : t1 = .ar m u := Option.some.inj (ht1.symm.trans hut)
        subst e1
        have hr := hx.ref_inv rfl
        obtain ⟨b, off, cs, pl⟩ := place_of h hx hpt
        refine fin (v := .pointer (some ⟨b, off + n.toNat * u.sz, none⟩)) (av := .elp o' j (p ++ [.x n.toNat])) (fun w' _ => ?_) (.ref rfl ⟨hr.1, fun e2 u2 l2 k2 hh2 => ?_⟩) hk
        · rw [pl.v]; exact run_index_arr ty hd hu h0 h1 w'
        · obtain ⟨b2, s, N, c, off2, g1, g2, g3, g4⟩ := hr.2 e2 u2 l2 k2 hh2
          have : tyAt u2 p = some (.ar m u) := by
            have hh3 : st.hp o' = .arr e2 u2 l2 k2 := hh2
            simp only [ptTy, hh3] at hpt; exact hpt
          have hvv := pl.v.symm.trans g4
          injection hvv with hvv; injection hvv with hvv; injection hvv with q1 q2
          subst q1
          refine ⟨b, s, N, c, off2 + n.toNat * u.sz, g1, g2, offT_app p _ u2 _ off2 _ this g3 ?_, ?_⟩
          · simp only [offT]
            rw [if_pos (by omega)]; simp
          · rw [q2, Nat.add_assoc, Nat.add_assoc]
      · cases he
    · -- an array that is read alone
      rename_i m e m' u l hds hxe
      rw [hxe] at hx
      split at he
      · rename_i hte
        obtain ⟨h0, h1, hk⟩ := inb_some he
        obtain ⟨hd, u0, hu, hut⟩ := ty.ar t m e hds
        have e1 : T.ar m' u = .ar m u0 := Option.some.inj ((eTy_some hte).symm.trans hut)
        cases e1
        obtain ⟨g1, g2⟩ := hx.val_inv
        rcases g2 with ⟨q, _⟩ | ⟨y, b, off, row, q1, q2, hb, hr, hm⟩
        · cases q
        · cases q1
          have hvv : a.eval x = .pointer (some ⟨b, off, none⟩) := by cases hev : a.eval x <;> rw [hev] at g1 q2 <;> simp [Value.cells, isAggV, T.isAgg] at g1 q2 <;> simp_all
          obtain ⟨hn, hrow⟩ := hr
          have hg := Rows.get RepC.len n.toNat u.zero hrow (by omega)
          have hl := Rows.len_eq RepC.len hrow
          have hle : n.toNat * u.sz + u.sz ≤ row.length := by rw [hl, ← Nat.succ_mul]; exact Nat.mul_le_mul_right _ (by omega)
          refine fin (v := .pointer (some ⟨b, off + n.toNat * u.sz, none⟩)) (av := .val (.pt u) (some (rdT u l n))) (fun w' _ => ?_) (.val ⟨rfl, .inr ⟨rdT u l n, b, off + n.toNat * u.sz, _, rfl, rfl, hb, hg, hm.part hle⟩⟩) hk
          rw [hvv]; exact run_index_arr ty hd hu h0 h1 w'
      · cases he
    · cases he
  · cases he
end
end Ev
/- Operations that only read (6): objects that turn read-only; parts of slices and strings. -/
namespace Ev
open Go
section
variable {P : Program} {E : Env} {st : St} {a : Act} {w : World} {Z : Zn} {pv : Nat → Value} {bl : Nat → Option Nat} {R : Type} {K : AV → St → Option R} {r : R} {o : Oper}

theorem toRo_toRo (x : Ob) : x.toRo.toRo = x.toRo := by cases x <;> rfl
theorem ro_all : ∀ (ids : List Nat) (st : St), (st.ro ids).nx = st.nx ∧ (st.ro ids).sl = st.sl ∧ (st.ro ids).n = st.n ∧ ∀ o, (st.ro ids).hp o = if o ∈ ids then (st.hp o).toRo else st.hp o
  | [], st => ⟨rfl, rfl, rfl, fun o => by rw [if_neg List.not_mem_nil]; rfl⟩
  | i :: ids, st => by
    obtain ⟨h1, h2, h3, h4⟩ := ro_all ids (st.set i (st.hp i).toRo)
    refine ⟨h1, h2, h3, fun o => ?_⟩
    have e : (st.ro (i :: ids)).hp o = ((st.set i (st.hp i).toRo).ro ids).hp o := rfl
    rw [e, h4 o, set_hp]
    by_cases hi : o = i
    · subst hi
      rw [upd_same, if_pos (List.mem_cons_self ..), toRo_toRo]
      split <;> rfl
    · rw [upd_ne _ _ hi]
      by_cases hm : o ∈ ids
      · rw [if_pos hm, if_pos (List.mem_cons_of_mem _ hm)]
      · rw [if_neg hm, if_neg (by simp [hi, hm])]
theorem ro_hp (st : St) (ids : List Nat) (o : Nat) : (st.ro ids).hp o = if o ∈ ids then (st.hp o).toRo else st.hp o := (ro_all ids st).2.2.2 o
theorem ro_nx (st : St) (ids : List Nat) : (st.ro ids).nx = st.nx := (ro_all ids st).1
theorem ro_sl (st : St) (ids : List Nat) : (st.ro ids).sl = st.sl := (ro_all ids st).2.1
theorem ro_n (st : St) (ids : List Nat) : (st.ro ids).n = st.n := (ro_all ids st).2.2.1
def blr (bl : Nat → Option Nat) (ids : List Nat) : Nat → Option Nat := fun o => if o ∈ ids then none else bl o

theorem Sim.extRo (_h : Sim P E st a w Z pv bl) (ids : List Nat) : Ext (cx P E st w Z pv bl) (cx P E (st.ro ids) w (Zt Z bl ids) pv (blr bl ids)) := by
  refine ⟨rfl, rfl, Zt.le _ _ _, Agree.refl _ _, Nat.le_of_eq (ro_nx st ids).symm, fun o e u l k _ hx => ⟨rfl, ?_⟩, fun o e x _ hx => ?_, fun o m k v l q _ hx => ⟨rfl, ?_⟩⟩
  · have hx' : (st.ro ids).hp o = .arr e u l k := hx
    rw [ro_hp] at hx'
    split at hx'
    · cases hh : st.hp o <;> rw [hh] at hx' <;> simp only [Ob.toRo] at hx' <;> first | cases hx' | skip
      exact ⟨_, _, hh⟩
    · exact ⟨_, _, hx'⟩
  · have hx' : (st.ro ids).hp o = .box e x := hx
    rw [ro_hp] at hx'
    split at hx'
    · cases hh : st.hp o <;> rw [hh] at hx' <;> simp only [Ob.toRo] at hx' <;> cases hx'
    · rename_i hm
      exact ⟨if_neg hm, x, hx'⟩
  · have hx' : (st.ro ids).hp o = .map m k v l q := hx
    rw [ro_hp] at hx'
    split at hx'
    · cases hh : st.hp o <;> rw [hh] at hx' <;> simp only [Ob.toRo] at hx' <;> first | cases hx' | skip
      exact ⟨_, _, hh⟩
    · exact ⟨_, _, hx'⟩
theorem entR_asV {k v : T} {l : List (k.in × v.in)} {es : List MapEntry} (h : entR P Z w k v l es) :
    entriesR (fun x u => ∃ c, asV k u c ∧ (rel P k).1 Z w x c) (fun x u => ∃ c, asV v u c ∧ (rel P v).1 Z w x c) l es :=
  entriesR.imp (fun _ u q => ⟨u.cells.toList, asV_cells.2 q.1, q.2⟩) (fun _ u q => ⟨u.cells.toList, asV_cells.2 q.1, q.2⟩) h
/-- Objects that are read alone from here on. -/
theorem Keep.ro (bl : Nat → Option Nat) (Z : Zn) (ids wr : List Nat) : Keep bl (Zt Z bl ids) (blr bl ids) wr := fun o b hb _ => by
  by_cases hm : o ∈ ids
  · exact .inr (.inr ⟨o, hm, hb⟩)
  · exact .inl (by unfold blr; rw [if_neg hm]; exact hb)
theorem Keep.trans {bl bl1 bl2 : Nat → Option Nat} {Z1 Z2 : Zn} {wr : List Nat} (h : Keep bl Z1 bl1 wr) (k : Keep bl1 Z2 bl2 wr) (hz : Zle Z1 Z2) : Keep bl Z2 bl2 wr := fun o b hb hw => by
  rcases h o b hb hw with q | q
  · exact k o b q hw
  · exact .inr (hz b q)
theorem Keep.mono {bl bl1 : Nat → Option Nat} {Z1 : Zn} {wr wr' : List Nat} (h : Keep bl Z1 bl1 wr) (k : ∀ x ∈ wr, x ∈ wr') : Keep bl Z1 bl1 wr' := fun o b hb hw => h o b hb fun q => hw (k o q)
theorem Sim.ro (h : Sim P E st a w Z pv bl) (ids : List Nat) : Sim P E (st.ro ids) a w (Zt Z bl ids) pv (blr bl ids) := by
  have hx := h.extRo ids
  refine ⟨by rw [ro_n]; exact h.n, h.defers, fun i hi => ?_, fun i hi => ?_, fun o ho => ?_, fun o ho => ?_, fun o o' b h1 h2 => ?_, fun o b hb => ?_, fun b hb => ?_⟩
  · rw [ro_sl]; rw [ro_n] at hi; exact h.out i hi
  · rw [ro_sl]; rw [ro_n] at hi; exact (h.slots i hi).ext hx
  · rw [ro_nx] at ho
    have hob := h.obs o ho
    rw [ro_hp]
    by_cases hm : o ∈ ids
    · rw [if_pos hm]
      have hbn : blr bl ids o = none := if_pos hm
      cases hh : st.hp o with
      | arr e u l k =>
        rw [hh] at hob
        obtain ⟨h1, h2⟩ := hob
        refine ⟨h1, .inr ⟨rfl, hbn, ?_⟩⟩
        rcases h2 with ⟨_, g, hb⟩ | ⟨_, _, g⟩
        · exact g.rep (Zt.le _ _ _) (fun b q => .inr ⟨o, hm, hb.trans q⟩)
        · exact g.mono (Zt.le _ _ _) (Agree.refl _ _)
      | box e x => exact hbn
      | map m k v l q =>
        rw [hh] at hob
        obtain ⟨h1, h2⟩ := hob
        refine ⟨h1, .inr ⟨rfl, hbn, ?_⟩⟩
        rcases h2 with ⟨_, b, es, clk, d1, d2, d3, d4⟩ | ⟨_, _, g⟩
        · refine ⟨some b, ?_, .inr ⟨b, es, clk, rfl, .inr ⟨o, hm, d2⟩, d3, ?_⟩⟩
          · show [pv o] = _
            have d1' : pv o = .map (some b) := d1
            rw [d1']
          · exact entR_asV (entriesR.imp (RepV.monoF (Zt.le _ _ _) (Agree.refl _ _)) (RepV.monoF (Zt.le _ _ _) (Agree.refl _ _)) d4)
        · exact g.mono (Zt.le _ _ _) (Agree.refl _ _)
      | gone => exact hbn
    · rw [if_neg hm]
      exact hob.ext hx (if_neg hm) rfl (fun _ _ => rfl)
  · rw [ro_nx] at ho
    obtain ⟨h1, h2⟩ := h.fresh o ho
    refine ⟨?_, ?_⟩
    · rw [ro_hp, h1]; split <;> rfl
    · unfold blr; rw [h2]; split <;> rfl
  · unfold blr at h1 h2
    split at h1
    · cases h1
    · split at h2
      · cases h2
      · exact h.inj o o' b h1 h2
  · unfold blr at hb
    split at hb
    · cases hb
    · rename_i hm
      refine ⟨fun q => ?_, (h.own o b hb).2⟩
      rcases q with q | ⟨o', ho', q⟩
      · exact (h.own o b hb).1 q
      · obtain rfl := h.inj o o' b hb q
        exact hm ho'
  · rcases hb with q | ⟨o', _, q⟩
    · exact h.zok b q
    · exact (h.own o' b q).2
theorem Tr.ro (w : World) (Z : Zn) (bl : Nat → Option Nat) (ids : List Nat) : Tr w Z bl w (Zt Z bl ids) (blr bl ids) :=
  ⟨rfl, rfl, rfl, Nat.le_refl _, fun _ _ _ => rfl, Zt.le _ _ _, fun _ hb => hb.imp id (fun ⟨o, _, q⟩ => .inl ⟨o, q⟩), fun o b hb => by
    unfold blr at hb
    split at hb
    · cases hb
    · exact .inl ⟨o, hb⟩⟩

/-! ### Fields -/
theorem run_fieldAt (ty : TyOK P E) {id : TypeId} {t q : T} {f : Nat} {b off : Nat} (ht : E.ty id = some t) (hq : tyAt t [.f f] = some q) (h0 : q.sz ≠ 0) :
    ∃ o2, offT t [.f f] = some o2 ∧ ∀ w', (Instr.fieldAt id (.pointer (some ⟨b, off, none⟩)) f).run P w' = .ok (.pointer (some ⟨b, off + o2, none⟩)) w' := by
  obtain ⟨fs, fd, h1, h2, h3, h4⟩ := ty.st id t f q ht hq
  refine ⟨fd.offset, h4, fun w' => ?_⟩
  obtain ⟨i, z, hi, hsz, _⟩ := ty.info fd.type q h3
  have : (⟨b, off, none⟩ : Addr).add fd.offset = ⟨b, off + fd.offset, none⟩ := Addr.add_mid _ _ _
  simp [Instr.fieldAt, run_underlying h1, h2, Instr.sureAddr, fieldPlace, Go.sizeOf, typeInfo, hi, hsz, h0, this]
theorem tyAt_app : ∀ (p q : List Stp) (t u v : T), tyAt t p = some u → tyAt u q = some v → tyAt t (p ++ q) = some v := by
  intro p
  induction p with
  | nil =>
    intro q t u v h1 h2
    have e1 : t = u := by cases t <;> simpa [tyAt] using h1
    subst e1; exact h2
  | cons s p ih =>
    have hf : ∀ (n : Nat) (q : List Stp) (t u v : T), tyAt t (.f n :: p) = some u → tyAt u q = some v → tyAt t (.f n :: p ++ q) = some v := by
      intro n
      induction n with
      | zero =>
        intro q t u v h1 h2
        cases t <;> simp only [tyAt] at h1 <;> first | cases h1 | skip
        simp only [List.cons_append, tyAt]
        exact ih q _ u v h1 h2
      | succ n ihn =>
        intro q t u v h1 h2
        cases t <;> simp only [tyAt] at h1 <;> first | cases h1 | skip
        simp only [List.cons_append, tyAt]
        exact ihn q _ u v h1 h2
    intro q t u v h1 h2
    cases s with
    | f n => exact hf n q t u v h1 h2
    | x i =>
      cases t <;> simp only [tyAt] at h1 <;> first | cases h1 | skip
      simp only [List.cons_append, tyAt]
      exact ih q _ u v h1 h2
theorem fieldAddr_quiet (ty : TyOK P E) (h : Sim P E st a w Z pv bl) {t : TypeId} {x : Operand} {f : Nat} (hop : o.op = .fieldAddr t x f) (he : evOp E o st K = some r) : Quiet P E st a w Z bl o K r := by
  simp only [evOp, hop] at he
  have hx := h.op x
  split at he
  · rename_i hp
    obtain ⟨u, hu, hpt⟩ := ptIs_some hp
    obtain ⟨b, off, cs, pl⟩ := place_of h hx hpt
    simp only [hu] at he
    split at he
    · rename_i q hq
      split at he
      · cases he
      · rename_i h0
        have h0' : q.sz ≠ 0 := fun e => h0 (by rw [e]; rfl)
        obtain ⟨o2, hoff, hrun⟩ := run_fieldAt (P := P) (b := b) (off := off) ty hu hq h0'
        refine Quiet.same h (v := .pointer (some ⟨b, off + o2, none⟩)) (fun w' _ => ?_) ?_ he
        · simp only [execOp, hop, pl.v]
          rw [Sem.run_bind, hrun w']; rfl
        · -- what it is
          cases hxe : st.op x with
          | ptr o' p =>
            rw [hxe] at hx hpt
            have hr := hx.ref_inv rfl
            refine .ref rfl ⟨hr.1, fun e2 x2 hh2 => ?_⟩
            obtain ⟨b2, t2, off2, g1, g2, g3, g4⟩ := hr.2 e2 x2 hh2
            have htp : tyAt t2 p = some u := by
              have hh3 : st.hp o' = .box e2 x2 := hh2
              have g2' : E.ty e2 = some t2 := g2
              simp only [ptTy, hh3, g2'] at hpt; exact hpt
            have hvv := pl.v.symm.trans g4
            cases hvv
            exact ⟨b, t2, off + o2, g1, g2, offT_app p _ t2 u off o2 htp g3 hoff, rfl⟩
          | elp o' j p =>
            rw [hxe] at hx hpt
            have hr := hx.ref_inv rfl
            refine .ref rfl ⟨hr.1, fun e2 u2 l2 k2 hh2 => ?_⟩
            obtain ⟨b2, s, N, c, off2, g1, g2, g3, g4⟩ := hr.2 e2 u2 l2 k2 hh2
            have htp : tyAt u2 p = some u := by
              have hh3 : st.hp o' = .arr e2 u2 l2 k2 := hh2
              simp only [ptTy, hh3] at hpt; exact hpt
            have hvv := pl.v.symm.trans g4
            injection hvv with hvv; injection hvv with hvv; injection hvv with q1 q2
            subst q1
            exact ⟨b, s, N, c, off2 + o2, g1, g2, offT_app p _ u2 u off2 o2 htp g3 hoff, by rw [q2, Nat.add_assoc, Nat.add_assoc]⟩
          | val tt xx =>
            rw [hxe] at hx hpt
            cases tt <;> try (simp [ptTy] at hpt; done)
            rename_i tu
            cases xx with
            | none => simp [ptTy] at hpt
            | some y =>
              obtain rfl : tu = u := by simpa [ptTy] using hpt
              obtain ⟨g1, g2⟩ := hx.val_inv
              rcases g2 with ⟨e, _⟩ | ⟨y', b', off', row, e1, e2, hb, hr, hm⟩
              · cases e
              · obtain rfl := Option.some.inj e1
                have hvv : a.eval x = .pointer (some ⟨b', off', none⟩) := by cases hev : a.eval x <;> rw [hev] at g1 e2 <;> simp [Value.cells, isAggV, T.isAgg] at g1 e2 <;> simp_all
                have hvv := pl.v.symm.trans hvv
                cases hvv
                obtain ⟨y2, q1, q2, q3⟩ := readT_sound (P := P) [.f f] tu y row q o2 hq hoff hr
                have : evFieldAddr (.val (.pt tu) (some y)) f = .val (.pt q) (some y2) := by simp only [evFieldAddr, q1, fzp]
                rw [this]
                exact .val ⟨rfl, .inr ⟨y2, b, off + o2, _, rfl, rfl, hb, q2, hm.part q3⟩⟩
          | _ => rw [hxe] at hpt; simp [ptTy] at hpt
    · cases he
  · cases he

/-! ### Parts of strings and slices -/
theorem optI_some (h : Sim P E st a w Z pv bl) {x : Option Operand} {d i : Int} (hx : optI (x.map st.op) d = some i) : (x = none ∧ i = d) ∨ ∃ y k, x = some y ∧ a.eval y = .int k i := by
  cases x with
  | none => left; exact ⟨rfl, (Option.some.inj hx).symm⟩
  | some y =>
    right
    simp only [Option.map, optI] at hx
    split at hx
    · rename_i q; cases q
    · rename_i k j e
      have e' := Option.some.inj e
      obtain rfl := Option.some.inj hx
      have hv := h.op y
      rw [e'] at hv
      exact ⟨y, k, rfl, (RepV.int_inv hv.val_inv).1⟩
    · cases hx
theorem run_bound {k : IntKind} {i : Int} {y : Nat} {c : BoundsCode} (h0 : 0 ≤ i) (h1 : i ≤ y) (w' : World) : (Instr.sliceBound (.int k i) y c).run P w' = .ok i.toNat w' := by
  simp [Instr.sliceBound, asIntOf, h0, h1]
theorem run_bounds (h : Sim P E st a w Z pv bl) {lo hi : Option Operand} {i j : Int} {len cap : Nat} (hl : optI (lo.map st.op) 0 = some i) (hh : optI (hi.map st.op) len = some j) (h0 : 0 ≤ i) (h1 : i ≤ j) (h2 : j ≤ len) (hc : len ≤ cap) (s : Bool) (w' : World) :
    (Instr.sliceBounds s len cap (lo.map a.eval) (hi.map a.eval) none).run P w' = .ok (i.toNat, j.toNat, cap) w' := by
  have jn : ((j.toNat : Nat) : Int) = j := Int.toNat_of_nonneg (by omega)
  rcases optI_some h hl with ⟨rfl, rfl⟩ | ⟨y, k, rfl, hy⟩ <;> rcases optI_some h hh with ⟨rfl, hj⟩ | ⟨y2, k2, rfl, hy2⟩
  · subst hj
    simp [Instr.sliceBounds]
  · have := run_bound (P := P) (k := k2) (c := if s = true then .sliceAcap else .sliceAlen) (i := j) (y := cap) (by omega) (by omega) w'
    simp [Instr.sliceBounds, hy2, this]
  · subst hj
    have := run_bound (P := P) (k := k) (c := .sliceB) (i := i) (y := len) (by omega) (by omega) w'
    simp [Instr.sliceBounds, hy, this]
  · have e1 := run_bound (P := P) (k := k2) (c := if s = true then .sliceAcap else .sliceAlen) (i := j) (y := cap) (by omega) (by omega) w'
    have e2 := run_bound (P := P) (k := k) (c := .sliceB) (i := i) (y := j.toNat) (by omega) (by omega) w'
    simp [Instr.sliceBounds, hy, hy2, e1, e2]
theorem cut_some {lo hi : Int} {n : Nat} {K : Option R} (h : cut lo hi n K = some r) : 0 ≤ lo ∧ lo ≤ hi ∧ hi ≤ n ∧ K = some r := by
  unfold cut at h
  split at h
  · split at h
    · split at h
      · exact ⟨by assumption, by assumption, by assumption, h⟩
      · cases h
    · cases h
  · cases h
theorem strL_extract (s : ByteArray) (i j : Nat) : strL (s.extract i j) = ((strL s).take j).drop i := by
  simp only [strL, ByteArray.data_extract, Array.toList_extract]
  rw [List.extract_eq_take_drop, ← List.map_take, ← List.map_drop, List.drop_take]
theorem slIs_some {id : TypeId} {u : T} (h : slIs E id u = true) : ∃ e, E.ds id = .sl e ∧ E.ty e = some u := by
  unfold slIs at h
  split at h
  · rename_i e he; exact ⟨e, he, eTy_some h⟩
  · cases h

theorem RA.val_inv {c : Cx} {t u : T} {x : u.in} {cs : List Value} (h : RA c t (.val u x) cs) : ∃ e : u = t, RepC c.P t c.Z c.w (e ▸ x) cs := by
  generalize hav : AV.val u x = av at h
  cases h with
  | val q => cases hav; exact ⟨rfl, q⟩
  | ref q _ _ _ => subst hav; simp [AV.one] at q
  | un => cases hav
  | pr => cases hav
theorem add_mid0 (b s n : Nat) : (⟨b, s, none⟩ : Addr).add n = ⟨b, s + n, none⟩ := Addr.add_mid _ _ _
/-- A slice of a slice. -/
theorem run_slice_sl (ty : TyOK P E) (h : Sim P E st a w Z pv bl) {id e : TypeId} {u : T} (hd : E.ds id = .sl e) (hu : E.ty e = some u) {ad : Option Addr} {len cap : Nat} {lo hi : Option Operand} {i j : Int}
    (hl : optI (lo.map st.op) 0 = some i) (hh : optI (hi.map st.op) len = some j) (h0 : 0 ≤ i) (h1 : i ≤ j) (h2 : j ≤ len) (hc : len ≤ cap) (w' : World) :
    (Instr.sliceAt id (.slice ad len cap) (lo.map a.eval) (hi.map a.eval) none).run P w' = .ok (.slice (if cap = i.toNat then ad else ad.map (·.add (i.toNat * u.sz))) (j.toNat - i.toNat) (cap - i.toNat)) w' := by
  obtain ⟨inf, z, hi', hsz, _⟩ := ty.info e u hu
  have hb := run_bounds (P := P) h hl hh h0 h1 h2 hc true w'
  have hun := ty.sl id e hd
  simp [Instr.sliceAt, Instr.slice, run_underlying hun, hb, Go.sizeOf, typeInfo, hi', hsz]
theorem slice_quiet (ty : TyOK P E) (h : Sim P E st a w Z pv bl) {t : TypeId} {x : Operand} {lo hi : Option Operand} (hop : o.op = .slice t x lo hi none) (he : evOp E o st K = some r) : Quiet P E st a w Z bl o K r := by
  simp only [evOp, hop] at he
  have hx := h.op x
  have hexec : ∀ {v : Value}, (∀ w', True → (Instr.sliceAt t (a.eval x) (lo.map a.eval) (hi.map a.eval) none).run P w' = .ok v w') → Yld P st a o w Z bl v := by
    intro v hy w' hk
    simp only [execOp, hop, Option.map_none]
    rw [Sem.run_bind, hy w' trivial]; rfl
  unfold evSlice at he
  split at he
  · -- a string
    rename_i l hxe
    rw [hxe] at hx
    split at he
    · rename_i hte
      split at he
      · rename_i i j hi' hj'
        obtain ⟨h0, h1, h2, hk⟩ := cut_some he
        obtain ⟨s, hv, rfl⟩ := RepV.str_inv hx.val_inv
        rw [strL_length] at hj' h2
        rw [← strL_extract] at hk
        refine Quiet.same h (hexec fun w' _ => ?_) (.val RepV.str) hk
        have hb := run_bounds (P := P) h hi' hj' h0 h1 h2 (Nat.le_refl _) false w'
        rw [hv]
        simp [Instr.sliceAt, Instr.slice, run_underlying (ty.str t (eTy_some hte)), hb]
      · cases he
    · cases he
  · -- a slice that is read alone
    rename_i u l hxe
    rw [hxe] at hx
    split at he
    · rename_i hte
      split at he
      · rename_i i j hi' hj'
        obtain ⟨h0, h1, h2, hk⟩ := cut_some he
        obtain ⟨e, hd, hu⟩ := slIs_some hte
        obtain ⟨ad, c, e0, hc, hr⟩ := (hx.val_inv).slC
        have hv := (List.cons.inj e0).1
        have hle : i.toNat ≤ j.toNat ∧ j.toNat ≤ l.length := by omega
        refine Quiet.same h (hexec fun w' _ => by rw [hv]; exact run_slice_sl ty h hd hu hi' hj' h0 h1 h2 hc w') (.val ⟨rfl, ?_⟩) hk
        have hlen : ((l.take j.toNat).drop i.toNat).length = j.toNat - i.toNat := by rw [List.length_drop, List.length_take]; omega
        refine ⟨_, c - i.toNat, by rw [hlen]; rfl, by rw [hlen]; omega, ?_⟩
        by_cases hz : j.toNat = i.toNat
        · left; exact List.length_eq_zero_iff.1 (by rw [hlen]; omega)
        · right
          rcases hr with rfl | ⟨b, off, row, rfl, hb, hrow, hm⟩
          · simp at hle; omega
          · have hl := Rows.len_eq RepC.len hrow
            refine ⟨b, off + i.toNat * u.sz, ((row.take (j.toNat * u.sz)).drop (i.toNat * u.sz)), ?_, hb, (hrow.take RepC.len _).drop RepC.len _, ?_⟩
            · rw [if_neg (by omega)]; simp [add_mid0]
            · have h3 : i.toNat * u.sz + (j.toNat - i.toNat) * u.sz ≤ row.length := by
                rw [hl, ← Nat.add_mul]; exact Nat.mul_le_mul_right _ (by omega)
              have := hm.part h3
              rw [List.drop_take, ← Nat.sub_mul]; exact this
      · cases he
    · cases he
  · -- a slice of the function's own
    rename_i o' hxe
    rw [hxe] at hx
    split at he
    · rename_i e' u l q hh
      split at he
      · rename_i hte
        obtain ⟨e, hd, hu⟩ := slIs_some hte
        have hr := hx.ref_inv rfl
        have hv : a.eval x = pv o' := hr.2 e' u l q hh
        have hob : RepOb (cx P E st w Z pv bl) o' (.arr e' u l q) := hh ▸ h.obs o' hr.1
        have hsl : ∃ ad c, pv o' = .slice ad l.length c ∧ l.length ≤ c ∧ (l = [] ∨ ∃ b s, ad = some ⟨b, s, none⟩) := by
          rcases hob.2 with ⟨_, ⟨xs, _, h2⟩, _⟩ | ⟨_, _, h2⟩
          · rcases h2 with ⟨h2, rfl⟩ | ⟨g, cap, _, _, h2, _, h3, _⟩
            · exact ⟨none, 0, h2, Nat.le_refl _, .inl rfl⟩
            · exact ⟨_, cap, h2, h3, .inr ⟨g, 0, rfl⟩⟩
          · obtain ⟨a0, c0, e0, hc, h2⟩ := h2
            exact ⟨a0, c0, (List.cons.inj e0).1, hc, h2.imp id (fun ⟨b, off, _, q, _⟩ => ⟨b, off, q⟩)⟩
        obtain ⟨ad, c, hp, hc, had⟩ := hsl
        split at he
        · rename_i hl' hh'
          have e1 : lo = none := by cases lo <;> simp at hl' <;> rfl
          have e2 : hi = none := by cases hi <;> simp at hh' <;> rfl
          subst e1; subst e2
          refine Quiet.same h (hexec fun w' _ => ?_) (hxe ▸ h.op x) (hxe ▸ he)
          have := run_slice_sl (P := P) (lo := none) (hi := none) ty h hd hu (ad := ad) (len := l.length) (cap := c) (i := 0) (j := l.length) rfl rfl (by omega) (by omega) (by omega) hc w'
          rw [hv, hp, this]
          cases ad with
          | none => simp
          | some ad => cases ad; simp [Addr.add]
        · split at he
          · rename_i i j hi' hj'
            obtain ⟨h0, h1, h2, hk⟩ := cut_some he
            refine Quiet.same h (av := .ssl o' i.toNat (j - i).toNat) (hexec fun w' _ => by rw [hv, hp]; exact run_slice_sl ty h hd hu hi' hj' h0 h1 h2 hc w') (.ref rfl ⟨hr.1, fun e2 u2 l2 k2 hh2 => ?_⟩) hk
            have := (show st.hp o' = _ from hh2).symm.trans hh
            cases this
            have ej : (j - i).toNat = j.toNat - i.toNat := by omega
            refine ⟨ad, l.length, c, _, c - i.toNat, hp, by omega, by omega, by rw [ej], ?_⟩
            by_cases hz : j.toNat = i.toNat
            · left; omega
            · right
              rcases had with rfl | ⟨b, s, rfl⟩
              · simp at h2; omega
              · exact ⟨b, s, rfl, by rw [if_neg (by omega)]; simp [add_mid0]⟩
          · cases he
      · cases he
    · cases he
  · -- a part of one
    rename_i o' s n hxe
    rw [hxe] at hx
    split at he
    · rename_i e' u l q hh
      split at he
      · rename_i hte
        obtain ⟨e, hd, hu⟩ := slIs_some hte
        split at he
        · rename_i i j hi' hj'
          obtain ⟨h0, h1, h2, hk⟩ := cut_some he
          have hr := hx.ref_inv rfl
          obtain ⟨ad, N, c, ad', c', p1, p2, p3, p4, p5⟩ := hr.2 e' u l q hh
          refine Quiet.same h (av := .ssl o' (s + i.toNat) (j - i).toNat) (hexec fun w' _ => by rw [p4]; exact run_slice_sl ty h hd hu hi' hj' h0 h1 h2 p3 w') (.ref rfl ⟨hr.1, fun e2 u2 l2 k2 hh2 => ?_⟩) hk
          have := (show st.hp o' = _ from hh2).symm.trans hh
          cases this
          have ej : (j - i).toNat = j.toNat - i.toNat := by omega
          refine ⟨ad, N, c, _, c' - i.toNat, p1, by omega, by omega, by rw [ej], ?_⟩
          by_cases hz : j.toNat = i.toNat
          · left; omega
          · right
            rcases p5 with p5 | ⟨b, s0, rfl, rfl⟩
            · omega
            · exact ⟨b, s0, rfl, by rw [if_neg (by omega)]; simp [add_mid0, Nat.add_mul, Nat.add_assoc]⟩
        · cases he
      · cases he
    · cases he
  · -- an array of the function's own, all of it
    rename_i o' hxe
    rw [hxe] at hx
    split at he
    · rename_i e' m u l hh hl' hh'
      have e1 : lo = none := by cases lo <;> simp at hl' <;> rfl
      have e2 : hi = none := by cases hi <;> simp at hh' <;> rfl
      subst e1; subst e2
      split at he
      · rename_i hte
        have hr := hx.ref_inv rfl
        obtain ⟨b, t0, off, g1, g2, g3, g4⟩ := hr.2 e' _ hh
        have hob : RepOb (cx P E st w Z pv bl) o' (.box e' (.val (.ar m u) l)) := hh ▸ h.obs o' hr.1
        obtain ⟨t2, b2, cs, r1, r2, r3, r4⟩ := hob
        obtain rfl : b = b2 := Option.some.inj (g1.symm.trans r2)
        obtain rfl : off = 0 := by cases t0 <;> simpa [offT] using g3.symm
        have hsim := h.ro [o']
        obtain ⟨el, hun, hel⟩ := ty.tar t m u (eTy_some hte)
        obtain ⟨inf, z, hinf, hsz, _⟩ := ty.info el u hel
        have hb := fun w' => run_bounds (P := P) (lo := none) (hi := none) h (i := 0) (j := (m : Nat)) (len := m) (cap := m) rfl rfl (by omega) (by omega) (by omega) (by omega) false w'
        have hv : RepC P (.ar m u) Z w l cs.toList := by
          obtain ⟨e, q⟩ := r4.val_inv
          subst e; exact q
        refine ⟨.slice (some ⟨b, 0, none⟩) m m, _, _, _, _, _, hexec fun w' _ => ?_, hsim, Tr.ro _ _ _ _, .val ⟨rfl, ?_⟩, he, Keep.ro _ _ _ _⟩
        · rw [g4]
          have hb' := hb w'
          simp only [Option.map_none] at hb' ⊢
          simp [Instr.sliceAt, run_underlying hun, Instr.sureAddr, hb', Go.sizeOf, typeInfo, hinf, hsz, Addr.add]
        · refine ⟨some ⟨b, 0, none⟩, m, by rw [hv.1]; rfl, by rw [hv.1]; exact Nat.le_refl _, .inr ⟨b, 0, cs.toList, rfl, .inr ⟨o', by simp, g1⟩, ?_, cs, e', (0, 0), r3, by simp, ?_⟩⟩
          · exact (hv.mono (Zt.le _ _ _) (Agree.refl _ _)).2
          · rw [List.drop_zero]; exact List.take_of_length_le (Nat.le_refl _)
      · cases he
    · cases he
  · cases he
end
end Ev
/- Operations that only read (7): elements of values, look-ups, lengths, conversions. -/
namespace Ev
open Go
section
variable {P : Program} {E : Env} {st : St} {a : Act} {w : World} {Z : Zn} {pv : Nat → Value} {bl : Nat → Option Nat} {R : Type} {K : AV → St → Option R} {r : R} {o : Oper}

theorem cmp_cells : ∀ (t : T), t.cmp = true → ∀ {Z Z' : Zn} {w w' : World} {x y : t.in} {cs ds : List Value}, RepC P t Z w x cs → RepC P t Z' w' y ds → t.eqv x y = true → cs = ds := by
  intro t
  induction t with
  | i k => intro _ Z Z' w w' x y cs ds h1 h2 he; rw [h1.1, h2.1]; have : (x : Int) = y := of_decide_eq_true he; rw [this]
  | b => intro _ Z Z' w w' x y cs ds h1 h2 he; have h1' : cs = [.bool x] := h1; have h2' : ds = [.bool y] := h2; rw [h1', h2']; have : (x : Bool) = y := of_decide_eq_true he; rw [this]
  | s =>
    intro _ Z Z' w w' x y cs ds h1 h2 he
    obtain ⟨s, rfl, rfl⟩ := h1
    obtain ⟨s2, rfl, rfl⟩ := h2
    have : strL s = strL s2 := of_decide_eq_true he
    rw [strL_inj.1 this]
  | un => intro _ Z Z' w w' x y cs ds h1 h2 he; have h1' : cs = [] := h1; have h2' : ds = [] := h2; rw [h1', h2']
  | pr a bb iha ihb =>
    intro hc Z Z' w w' x y cs ds h1 h2 he
    have hc' : a.cmp = true ∧ bb.cmp = true := by simpa [T.cmp] using hc
    have he' : a.eqv x.1 y.1 = true ∧ bb.eqv x.2 y.2 = true := by simpa [T.eqv] using he
    obtain ⟨c1, c2, rfl, p1, p2⟩ := h1
    obtain ⟨d1, d2, rfl, q1, q2⟩ := h2
    rw [iha hc'.1 p1 q1 he'.1, ihb hc'.2 p2 q2 he'.2]
  | ar n t ih =>
    intro hc Z Z' w w' x y cs ds h1 h2 he
    have hc' : t.cmp = true := hc
    have rows : ∀ {l m : List t.in} {cs ds : List Value}, Rows (RepC P t Z w) l cs → Rows (RepC P t Z' w') m ds → eqL t.eqv l m = true → cs = ds := by
      intro l m cs ds r1
      induction r1 generalizing m ds with
      | nil =>
        intro r2 h
        cases r2 with
        | nil => rfl
        | cons => simp [eqL] at h
      | cons q _ ihr =>
        intro r2 h
        cases r2 with
        | nil => simp [eqL] at h
        | cons q2 r2 =>
          simp only [eqL, Bool.and_eq_true] at h
          rw [ih hc' q q2 h.1, ihr r2 h.2]
    exact rows h1.2 h2.2 he
  | _ => intro hc; simp [T.cmp] at hc
theorem RepV.eq_of {t : T} (hc : t.cmp = true) {Z Z' : Zn} {w w' : World} {x y : t.in} {u v : Value} (h1 : RepV P t Z w x u) (h2 : RepV P t Z' w' y v) (he : t.eqv x y = true) : u = v := by
  have := cmp_cells t hc h1.2 h2.2 he
  have hh : isAggV u = isAggV v := h1.1.trans h2.1.symm
  cases u <;> cases v <;> simp_all [Value.cells, isAggV]
/-- Zero values. -/
theorem Rows.rep {α : Type} {C : α → List Value → Prop} {x : α} {c : List Value} (h : C x c) : ∀ n, Rows C (List.replicate n x) (List.replicate n c).flatten
  | 0 => .nil
  | n + 1 => by rw [List.replicate_succ, List.replicate_succ, List.flatten_cons]; exact .cons h (Rows.rep h n)
theorem zero_rep : ∀ (t : T), t.plain = true → ∀ (Z : Zn) (w : World), RepC P t Z w t.zero t.zcs := by
  intro t
  induction t with
  | i k => intro _ Z w; exact ⟨rfl, by cases k <;> first | trivial | exact ⟨Int.le_refl _, by decide⟩⟩
  | b => intro _ Z w; rfl
  | s => intro _ Z w; exact ⟨⟨#[]⟩, rfl, rfl⟩
  | un => intro _ Z w; rfl
  | er => intro _ Z w; exact .inl ⟨rfl, rfl⟩
  | pr a bb iha ihb =>
    intro hp Z w
    have hp' : a.plain = true ∧ bb.plain = true := by simpa [T.plain] using hp
    exact ⟨_, _, rfl, iha hp'.1 Z w, ihb hp'.2 Z w⟩
  | ar n t ih => intro hp Z w; exact ⟨List.length_replicate, Rows.rep (ih hp Z w) n⟩
  | sl t _ => intro _ Z w; exact ⟨none, 0, rfl, Nat.le_refl _, .inl rfl⟩
  | mp k v _ _ => intro _ Z w; exact ⟨none, rfl, .inl ⟨rfl, rfl⟩⟩
  | pt t _ => intro _ Z w; exact .inl ⟨rfl, rfl⟩
  | fn x y _ _ => intro hp; simp [T.plain] at hp
  | tu t _ => intro hp; simp [T.plain] at hp
theorem zero_val (ty : TyOK P E) {id : TypeId} {t : T} (h : E.ty id = some t) (Z : Zn) (w : World) : ∃ z, (∀ w', (zeroValue id).run P w' = .ok z w') ∧ RepV P t Z w t.zero z ∧ z.cells.toList = t.zcs ∧ isAggV z = t.isAgg := by
  obtain ⟨i, z, hi, _, _, hz, ha, hc⟩ := ty.info id t h
  refine ⟨z, fun w' => by simp [zeroValue, typeInfo, hi, hz], ⟨ha, ?_⟩, hc, ha⟩
  rw [hc]; exact zero_rep t (ty.plain id t h) Z w

/-! ### Finding in a map -/
def fk (k : T) {ν : Type} : List (k.in × ν) → List MapEntry → k.in → Nat → Option (Nat × Value)
  | p :: r, e :: es, x, i => if k.eqv x p.1 = true then some (i, e.val) else fk k r es x (i + 1)
  | _, _, _, _ => none
theorem ba_beq (s t : ByteArray) : (s == t) = decide (s = t) := by
  cases s with | mk s => cases t with | mk t =>
  show (s == t) = _
  by_cases h : s = t
  · simp [h]
  · have h' : ¬ ByteArray.mk s = ByteArray.mk t := fun e => h (by injection e)
    rw [decide_eq_false h']; exact beq_eq_false_iff_ne.2 h
def isScal : T → Bool
  | .i _ | .b | .s => true
  | _ => false
theorem asking_run (ty : TyOK P E) {ki : TypeId} {k : T} (hk : E.ty ki = some k) (hc : k.cmp = true) {ν : Type} {V : ν → Value → Prop} {x : k.in} {u : Value} (hu : RepV P k Z w x u) (w' : World) :
    ∀ (l : List (k.in × ν)) (es : List MapEntry) (i : Nat), entriesR (fun x u => RepV P k Z w x u) V l es → (Instr.findAsking ki u es i).run P w' = .ok (fk k l es x i) w'
  | [], [], i, _ => rfl
  | p :: r, e :: es, i, ⟨h1, _, h3⟩ => by
    have hq := ty.eq ki k hk hc Z w' w x p.1 u e.key hu h1
    simp only [Instr.findAsking, Sem.run_bind, hq, Result.andThen_ok]
    unfold fk
    cases he : k.eqv x p.1 with
    | true => simp
    | false => simpa using asking_run ty hk hc hu w' r es (i + 1) h3
theorem now_run {d : TypeDesc} {k : T} (hs : isScal k = true) (hd : (∀ q : IntKind, k = .i q → d = .int q) ∧ (k = .b → d = .bool) ∧ (k = .s → d = .string)) {ν : Type} {V : ν → Value → Prop} {x : k.in} {u : Value} (hu : RepV P k Z w x u) :
    ∀ (l : List (k.in × ν)) (es : List MapEntry) (i : Nat), entriesR (fun x u => RepV P k Z w x u) V l es → Instr.findNow d u es i = some (fk k l es x i)
  | [], [], i, _ => rfl
  | p :: r, e :: es, i, ⟨h1, _, h3⟩ => by
    have hsame : Instr.sameNow d u e.key = some (k.eqv x p.1) := by
      cases k <;> simp [isScal] at hs
      · rw [hd.1 _ rfl, (RepV.int_inv hu).1, (RepV.int_inv h1).1]
        simp only [Instr.sameNow, if_true, T.eqv]
        congr 1
      · rw [hd.2.1 rfl, RepV.bool_inv hu, RepV.bool_inv h1]
        simp only [Instr.sameNow, T.eqv]
        congr 1
      · obtain ⟨s, e1, e2⟩ := RepV.str_inv hu
        obtain ⟨s2, e3, e4⟩ := RepV.str_inv h1
        rw [hd.2.2 rfl, e1, e3]
        simp only [Instr.sameNow, T.eqv, e2, e4]
        congr 1
        rw [ba_beq]
        exact decide_eq_decide.2 strL_inj.symm
    unfold Instr.findNow fk
    rw [hsame]
    cases he : k.eqv x p.1 with
    | true => simp
    | false => simpa using now_run hs hd hu r es (i + 1) h3
theorem findKey_run (ty : TyOK P E) {ki : TypeId} {k : T} (hk : E.ty ki = some k) (hc : k.cmp = true) {ν : Type} {V : ν → Value → Prop} {x : k.in} {u : Value} (hu : RepV P k Z w x u) {l : List (k.in × ν)} {es : List MapEntry}
    (h : entriesR (fun x u => RepV P k Z w x u) V l es) (w' : World) : (Instr.findKey ki u es).run P w' = .ok (fk k l es x 0) w' := by
  cases hs : isScal k with
  | true =>
    have : ∃ d, P.underlying ki = some d ∧ (∀ q, k = .i q → d = .int q) ∧ (k = .b → d = .bool) ∧ (k = .s → d = .string) := by
      cases k <;> simp [isScal] at hs
      · rename_i q; exact ⟨_, ty.int ki q hk, fun q' e => by cases e; rfl, fun e => (by cases e), fun e => (by cases e)⟩
      · exact ⟨_, ty.bool ki hk, fun q' e => (by cases e), fun _ => rfl, fun e => (by cases e)⟩
      · exact ⟨_, ty.str ki hk, fun q' e => (by cases e), fun e => (by cases e), fun _ => rfl⟩
    obtain ⟨d, hd, hd2⟩ := this
    simp only [Instr.findKey, Sem.run_bind, run_underlying hd, Result.andThen_ok, now_run hs hd2 hu l es 0 h]
    rfl
  | false =>
    have hagg : k.isAgg = true := by cases k <;> simp [isScal, T.cmp] at hs hc <;> rfl
    obtain ⟨d, hd, _⟩ := ty.agg ki k hk
    have ha := asking_run ty hk hc hu w' l es 0 h
    simp only [Instr.findKey, Sem.run_bind, run_underlying hd, Result.andThen_ok]
    cases l with
    | nil =>
      cases es with
      | nil => rfl
      | cons e es => cases h
    | cons p r =>
      cases es with
      | nil => cases h
      | cons e es =>
        obtain ⟨cs, rfl⟩ := agg_of hagg hu.1
        have : Instr.findNow d (.agg cs) (e :: es) 0 = none := by
          unfold Instr.findNow
          have : Instr.sameNow d (.agg cs) e.key = none := by cases d <;> rfl
          rw [this]
        rw [this]
        exact ha
theorem fk_none {k v : T} {K : k.in → Value → Prop} {V : v.in → Value → Prop} {x : k.in} : ∀ {l : List (k.in × v.in)} {es : List MapEntry} {i : Nat}, entriesR K V l es → fk k l es x i = none → lk k v l x = none ∧ ∀ y, up k v l x y = l ++ [(x, y)]
  | [], [], _, _, _ => ⟨rfl, fun _ => rfl⟩
  | p :: r, e :: es, i, ⟨_, _, h3⟩, h => by
    unfold fk at h
    split at h
    · cases h
    · rename_i hne
      obtain ⟨g1, g2⟩ := fk_none h3 h
      have hne' : k.eqv x p.1 = false := by simpa using hne
      refine ⟨?_, fun y => ?_⟩
      · unfold lk at g1 ⊢
        rw [List.find?_cons, hne']; exact g1
      · unfold up; rw [hne', g2 y]; rfl
theorem fk_some {k v : T} {K : k.in → Value → Prop} {V : v.in → Value → Prop} {x : k.in} : ∀ {l : List (k.in × v.in)} {es : List MapEntry} {i j : Nat} {u : Value}, entriesR K V l es → fk k l es x i = some (j, u) →
    i ≤ j ∧ (∃ e, es[j - i]? = some e ∧ e.val = u ∧ ∃ p : k.in, K p e.key ∧ k.eqv x p = true) ∧ (∃ y, lk k v l x = some y ∧ V y u) ∧
      ∀ y u' key, V y u' → (∀ p e, K p e → k.eqv x p = true → K p key) → entriesR K V (up k v l x y) (es.modify (j - i) fun e => { e with key := key, val := u' })
  | [], [], _, _, _, _, h => by cases h
  | p :: r, e :: es, i, j, u, ⟨h1, h2, h3⟩, h => by
    unfold fk at h
    split at h
    · rename_i heq
      obtain ⟨rfl, rfl⟩ := by simpa using h
      refine ⟨Nat.le_refl _, ⟨e, by simp, rfl, p.1, h1, heq⟩, ⟨p.2, by unfold lk; rw [List.find?_cons, heq], h2⟩, fun y u' key hy hk => ?_⟩
      rw [Nat.sub_self]
      unfold up; rw [heq]
      exact ⟨hk _ _ h1 heq, hy, h3⟩
    · rename_i hne
      have hne' : k.eqv x p.1 = false := by simpa using hne
      obtain ⟨g0, ⟨e', g1, g2⟩, ⟨y, g3, g4⟩, g5⟩ := fk_some h3 h
      have ej : j - i = (j - (i + 1)) + 1 := by omega
      refine ⟨by omega, ⟨e', by rw [ej]; simpa using g1, g2⟩, ⟨y, by unfold lk at g3 ⊢; rw [List.find?_cons, hne']; exact g3, g4⟩, fun y u' key hy hk => ?_⟩
      rw [ej]
      unfold up; rw [hne']
      exact ⟨h1, h2, g5 y u' key hy hk⟩
theorem entR_back {k v : T} {l : List (k.in × v.in)} {es : List MapEntry} (h : entriesR (fun x u => ∃ c, asV k u c ∧ (rel P k).1 Z w x c) (fun x u => ∃ c, asV v u c ∧ (rel P v).1 Z w x c) l es) : entR P Z w k v l es :=
  entriesR.imp (fun _ u ⟨c, q1, q2⟩ => ⟨q1.2, by have := q1.1; subst this; exact q2⟩) (fun _ u ⟨c, q1, q2⟩ => ⟨q1.2, by have := q1.1; subst this; exact q2⟩) h
theorem entriesR_len {κ ν : Type} {K : κ → Value → Prop} {V : ν → Value → Prop} : ∀ {l : List (κ × ν)} {es : List MapEntry}, entriesR K V l es → l.length = es.length
  | [], [], _ => rfl
  | _ :: _, _ :: _, ⟨_, _, h⟩ => by simp [entriesR_len h]
theorem one_inv {t : T} {x : t.in} {v v' : Value} (h : RepV P t Z w x v) (hc : v.cells.toList = [v']) (hn : t.isAgg = false) : v = v' := by
  have := h.1
  rw [hn] at this
  cases v <;> simp [Value.cells, isAggV] at hc this <;> exact hc

theorem map_inv {kt vt : T} {l : (T.mp kt vt).in} {v : Value} (h : RepV P (.mp kt vt) Z w l v) : ∃ q, v = .map q ∧ ((q = none ∧ l = []) ∨ ∃ b es clk, q = some b ∧ w.heap[b]? = some (.map es clk) ∧ entR P Z w kt vt l es.toList ∧ Z b) := by
  obtain ⟨h1, q, h2, h3⟩ := h
  have hv : v = .map q := one_inv ⟨h1, q, h2, h3⟩ h2 rfl
  exact ⟨q, hv, h3.imp id (fun ⟨b, es, clk, e1, ez, e2, e3⟩ => ⟨b, es, clk, e1, e2, entR_back e3, ez⟩)⟩
theorem lk_quiet (ty : TyOK P E) (hO : ∀ g o, E.orc g = some o → Contract P g o) (h : Sim P E st a w Z pv bl) {t : TypeId} {x i : Operand} {ok : Bool} (hop : o.op = .lookup t x i ok) {kt vt : T} {l : List (kt.in × vt.in)} {q : Option Nat} (hx : a.eval x = .map q)
    (hm : (q = none ∧ l = []) ∨ ∃ b es clk, q = some b ∧ w.heap[b]? = some (.map es clk) ∧ entR P Z w kt vt l es.toList ∧ (Z b ∨ ∃ o ∈ mpIds (st.op x), bl o = some b)) (he : evLk E t kt vt l (st.op i) ok st (fun v => K v st) = some r) : Quiet P E st a w Z bl o K r := by
  have hi := h.op i
  unfold evLk at he
  split at he
  · rename_i hty
    split at he
    · rename_i hc
      split at he
      · rename_i b hb
        have r2 := sn_sound hO h hi hb
        obtain ⟨ki, vi, hu, hki, hvi⟩ := ty.mp t kt vt (eTy_some hty)
        obtain ⟨z, hz, hzr, _, _⟩ := zero_val ty hvi Z w
        have key : ∃ v, RepV P vt Z w ((lk kt vt l b).getD vt.zero) v ∧ ∀ w', KR Z bl (mpIds (st.op x)) w w' → (Instr.lookup t (a.eval x) (a.eval i) ok).run P w' = .ok (if ok = true then .tuple #[v, .bool (lk kt vt l b).isSome] else v) w' := by
          rcases hm with ⟨rfl, rfl⟩ | ⟨mb, es, clk, rfl, hmb, hent, hwh⟩
          · refine ⟨z, hzr, fun w' _ => ?_⟩
            have hck := ty.ck ki kt hki hc _ w' w true b (a.eval i) r2
            have hfk := findKey_run (V := fun _ _ => True) (ν := vt.in) ty hki hc r2 (l := []) (es := []) trivial w'
            simp only [Instr.lookup, Sem.run_bind, run_underlying hu, Result.andThen_ok, hx]
            simp [hck, hfk, fk, hz, lk]
          · have hent' : entriesR (fun x u => RepV P kt (Zt Z bl (tch st (st.op i))) w x u) (fun x u => RepV P vt Z w x u) l es.toList := entriesR.imp (fun _ _ q => q.mono (Zt.le _ _ _) (Agree.refl _ _)) (fun _ _ q => q) hent
            have hfk := findKey_run ty hki hc r2 hent'
            cases hf : fk kt l es.toList b 0 with
            | none =>
              obtain ⟨g1, _⟩ := fk_none hent' hf
              refine ⟨z, by rw [g1]; exact hzr, fun w' hk => ?_⟩
              have hb' := (hk mb hwh).trans hmb
              have hck := ty.ck ki kt hki hc _ w' w es.isEmpty b (a.eval i) r2
              have hg : (getObj mb).run P w' = .ok (.map es clk) w' := by simp [getObj, Sem.run, hb']
              simp only [Instr.lookup, Sem.run_bind, run_underlying hu, Result.andThen_ok, hx]
              simp [hg, hck, hfk w', hf, hz, g1]
            | some ju =>
              obtain ⟨j, u⟩ := ju
              obtain ⟨_, _, ⟨y, g1, g2⟩, _⟩ := fk_some hent' hf
              refine ⟨u, by rw [g1]; exact g2, fun w' hk => ?_⟩
              have hb' := (hk mb hwh).trans hmb
              have hck := ty.ck ki kt hki hc _ w' w es.isEmpty b (a.eval i) r2
              have hg : (getObj mb).run P w' = .ok (.map es clk) w' := by simp [getObj, Sem.run, hb']
              simp only [Instr.lookup, Sem.run_bind, run_underlying hu, Result.andThen_ok, hx]
              simp [hg, hck, hfk w', hf, g1]
        obtain ⟨v, hv, hrun⟩ := key
        refine Quiet.same h (v := if ok = true then .tuple #[v, .bool (lk kt vt l b).isSome] else v) (fun w' hk => ?_) ?_ he
        · simp only [execOp, hop]
          rw [Sem.run_bind, hrun w' (by have := hk; rw [hop] at this; exact this)]; rfl
        · cases ok
          · exact .val hv
          · exact .tup (.cons (.val hv) (.cons (.val RepV.bool) .nil))
      · cases he
    · cases he
  · cases he
theorem lookup_quiet (ty : TyOK P E) (hO : ∀ g o, E.orc g = some o → Contract P g o) (h : Sim P E st a w Z pv bl) {t : TypeId} {x i : Operand} {ok : Bool} (hop : o.op = .lookup t x i ok) (he : evOp E o st K = some r) : Quiet P E st a w Z bl o K r := by
  simp only [evOp, hop] at he
  have hx := h.op x
  unfold evLookup at he
  split at he
  · rename_i o' hxe
    rw [hxe] at hx
    split at he
    · rename_i m kt vt l ro hh
      have hr := hx.ref_inv rfl
      have hv : a.eval x = pv o' := hr.2 _ _ _ _ _ hh
      have hob : RepOb (cx P E st w Z pv bl) o' (.map m kt vt l ro) := hh ▸ h.obs o' hr.1
      rcases hob.2 with ⟨_, b, es, clk, d1, d2, d3, d4⟩ | ⟨_, _, q, d1, d2⟩
      · exact lk_quiet ty hO h hop (hv.trans d1) (.inr ⟨b, es, clk, rfl, d3, d4, .inr ⟨o', by rw [hxe]; exact List.mem_singleton.2 rfl, d2⟩⟩) he
      · exact lk_quiet ty hO h hop (hv.trans (List.cons.inj d1).1) (d2.imp id (fun ⟨b, es, clk, e1, ez, e2, e3⟩ => ⟨b, es, clk, e1, e2, entR_back e3, .inl ez⟩)) he
    · cases he
  · rename_i kt vt l hxe
    rw [hxe] at hx
    obtain ⟨q, hv, hm⟩ := map_inv hx.val_inv
    exact lk_quiet ty hO h hop hv (hm.imp id fun ⟨b, es, clk, e1, e2, e3, ez⟩ => ⟨b, es, clk, e1, e2, e3, .inl ez⟩) he
  · cases he
end
end Ev
/- Operations that only read (8): elements of values, lengths, conversions. -/
namespace Ev
open Go
section
variable {P : Program} {E : Env} {st : St} {a : Act} {w : World} {Z : Zn} {pv : Nat → Value} {bl : Nat → Option Nat} {R : Type} {K : AV → St → Option R} {r : R} {o : Oper}

theorem byte_at (s : ByteArray) (i : Nat) (hi : i < s.size) : ∃ b, s[i]? = some b ∧ (strL s).getD i 0 = (b.toNat : Int) := by
  have hl : i < s.data.toList.length := by rw [Array.length_toList]; exact hi
  refine ⟨s[i], by simp [hi], ?_⟩
  unfold strL
  rw [List.getD_eq_getElem?_getD, List.getElem?_map, List.getElem?_eq_getElem hl]
  simp only [Option.map_some, Option.getD_some]
  rfl
theorem index_quiet (ty : TyOK P E) (h : Sim P E st a w Z pv bl) {t : TypeId} {x i : Operand} (hop : o.op = .index t x i) (he : evOp E o st K = some r) : Quiet P E st a w Z bl o K r := by
  simp only [evOp, hop] at he
  have hx := h.op x
  have hi := h.op i
  have hexec : ∀ {v : Value}, (∀ w', True → (Instr.index t (a.eval x) (a.eval i)).run P w' = .ok v w') → Yld P st a o w Z bl v := by
    intro v hy w' hk
    simp only [execOp, hop]
    rw [Sem.run_bind, hy w' trivial]; rfl
  unfold evIndex at he
  split at he
  · rename_i l k n hxe hie
    rw [hxe] at hx
    rw [hie] at hi
    split at he
    · rename_i hte
      obtain ⟨h0, h1, hk⟩ := inb_some he
      obtain ⟨s, hv, rfl⟩ := RepV.str_inv hx.val_inv
      obtain ⟨hiv, _⟩ := RepV.int_inv hi.val_inv
      rw [strL_length] at h1
      obtain ⟨b, hb1, hb2⟩ := byte_at s n.toNat (by omega)
      rw [hb2] at hk
      refine Quiet.same h (hexec fun w' _ => ?_) (.val (RepV.int (k := .u8) (n := (b.toNat : Int)) (show 0 ≤ (b.toNat : Int) ∧ (b.toNat : Int) ≤ 255 from ⟨by omega, by have := b.toNat_lt; omega⟩))) hk
      rw [hv, hiv]
      simp [Instr.index, asIntOf, run_underlying (ty.str t (eTy_some hte)), h0, hb1]
    · cases he
  · rename_i m u l k n hxe hie
    rw [hxe] at hx
    rw [hie] at hi
    split at he
    · rename_i hte
      obtain ⟨h0, h1, hk⟩ := inb_some he
      obtain ⟨hiv, _⟩ := RepV.int_inv hi.val_inv
      have hr := hx.val_inv
      obtain ⟨cs, hv⟩ := agg_of rfl hr.1
      rw [hv] at hr
      obtain ⟨hlen, hrow⟩ := hr.2
      obtain ⟨e, hun, hel⟩ := ty.tar t m u (eTy_some hte)
      obtain ⟨inf, z, hinf, hsz, _⟩ := ty.info e u hel
      have hcs : (Value.agg cs).cells.toList = cs.toList := rfl
      rw [hcs] at hrow
      have hg := Rows.get RepC.len n.toNat u.zero hrow (by omega)
      have hl := Rows.len_eq RepC.len hrow
      have hle : n.toNat * u.sz + u.sz ≤ cs.toList.length := by rw [hl, ← Nat.succ_mul]; exact Nat.mul_le_mul_right _ (by omega)
      obtain ⟨d, hd, hrd⟩ := ty.agg e u hel
      have hia : ∀ w', (isAgg e).run P w' = .ok u.isAgg w' := by
        intro w'
        unfold isAgg
        rw [Sem.run_bind, run_underlying hd w', Result.andThen_ok, ← hrd]
        cases d <;> rfl
      have hpart : ∀ w', (part e cs (n.toNat * u.sz)).run P w' = .ok (ofCells u ((cs.toList.drop (n.toNat * u.sz)).take u.sz)) w' := by
        intro w'
        unfold part ofCells
        cases hagg : u.isAgg with
        | true =>
          simp only [Sem.run_bind, hia, hagg, Result.andThen_ok, if_true, Go.sizeOf, typeInfo]
          simp [hinf, hsz]
          apply Array.toList_inj.1
          rw [Array.toList_extract, List.extract_eq_take_drop]
          congr 1
          omega
        | false =>
          obtain ⟨v, hv1, _⟩ := RepC.single hagg hg
          have : cs[n.toNat * u.sz]? = some v := by
            have h1 : ((cs.toList.drop (n.toNat * u.sz)).take u.sz)[0]? = some v := by rw [hv1]; rfl
            have hu0 : u.sz ≠ 0 := by
              intro q; rw [q] at hv1; simp at hv1
            rw [List.getElem?_take, if_pos (by omega), List.getElem?_drop] at h1
            simpa using h1
          simp only [Sem.run_bind, hia, hagg, Result.andThen_ok]
          simp [this, hv1]
      refine Quiet.same h (hexec fun w' _ => ?_) (RA.toV (.val hg)) hk
      rw [hv, hiv]
      have h1' : n < (m : Int) := h1
      simp [Instr.index, asIntOf, run_underlying hun, h0, h1', Go.sizeOf, typeInfo, hinf, hsz, hpart]
    · cases he
  · cases he

/-! ### Lengths -/
theorem isSl_some {id : TypeId} (h : isSl E id = true) : ∃ e, E.ds id = .sl e := by
  unfold isSl at h
  split at h
  · exact ⟨_, by assumption⟩
  · cases h
theorem RepV.len (n : Nat) : RepV P (.i .i64) Z w (n : Int) (.int .i64 (n : Int)) := RepV.int trivial
theorem len_quiet (ty : TyOK P E) (h : Sim P E st a w Z pv bl) {c : Call} {t : TypeId} {ts : List TypeId} {x : Operand} (hop : o.op = .call c) (hc : c.callee = .builtin .len) (hts : c.argTypes.toList = t :: ts) (hargs : c.args.toList = [x])
    (he : evLen E t st (st.op x) (fun v => K v st) = some r) : Quiet P E st a w Z bl o K r := by
  have hx := h.op x
  have hexec : ∀ {v : Value}, (∀ w', KR Z bl (mpIds (st.op x)) w w' → (Builtin.len_ c.argTypes o.type #[a.eval x]).run P w' = .ok v w') → Yld P st a o w Z bl v := by
    intro v hy w' hk
    have e1 : c.args = #[x] := by rw [← Array.toList_inj]; exact hargs
    simp only [execOp, hop, resolve, hc, e1]
    have := hy w' (by have := hk; rw [hop] at this; simp only [rdIds, hc, hargs] at this; exact this)
    simp only [Sem.run_bind, Sem.run_pure, Result.andThen_ok, invoke, builtin]
    simp [this]
  have hty : c.argTypes[0]? = some t := by rw [← Array.getElem?_toList, hts]; rfl
  have fin : ∀ {n : Nat}, (∀ w', KR Z bl (mpIds (st.op x)) w w' → (Builtin.len_ c.argTypes o.type #[a.eval x]).run P w' = .ok (goInt n) w') → K (.val (.i .i64) (n : Int)) st = some r → Quiet P E st a w Z bl o K r :=
    fun hy hk => Quiet.same h (hexec hy) (.val (RepV.len _)) hk
  unfold evLen at he
  split at he
  · rename_i l hxe
    rw [hxe] at hx
    split at he
    · rename_i hte
      obtain ⟨s, hv, rfl⟩ := RepV.str_inv hx.val_inv
      refine fin (fun w' _ => ?_) he
      rw [hv, strL_length]
      simp [Builtin.len_, hty, run_underlying (ty.str t (eTy_some hte))]
    · cases he
  · rename_i u l hxe
    rw [hxe] at hx
    split at he
    · rename_i hte
      obtain ⟨e, hd⟩ := isSl_some hte
      obtain ⟨ad, q, hv⟩ := slice_inv hx.val_inv
      refine fin (fun w' _ => ?_) he
      rw [hv]
      simp [Builtin.len_, hty, run_underlying (ty.sl t e hd)]
    · cases he
  · rename_i k v l hxe
    rw [hxe] at hx
    split at he
    · rename_i hte
      obtain ⟨ki, vi, hu, _⟩ := ty.mp t k v (eTy_some hte)
      obtain ⟨q, hv, hm⟩ := map_inv hx.val_inv
      refine fin (fun w' hk => ?_) he
      rw [hv]
      rcases hm with ⟨rfl, rfl⟩ | ⟨b, es, clk, rfl, hb, hent, hz⟩
      · simp [Builtin.len_, hty, run_underlying hu]
      · have hb' := (hk b (.inl hz)).trans hb
        have hg : (getObj b).run P w' = .ok (.map es clk) w' := by simp [getObj, Sem.run, hb']
        have hl : l.length = es.size := by simpa using entriesR_len hent
        simp [Builtin.len_, hty, run_underlying hu, hg, hl]
    · cases he
  · rename_i hxe
    rw [hxe] at hx
    split at he
    · rename_i hte
      obtain ⟨e, hd⟩ := isSl_some hte
      have hv : a.eval x = .slice none 0 0 := hx.ref_inv rfl
      refine fin (n := 0) (fun w' _ => ?_) he
      rw [hv]
      simp [Builtin.len_, hty, run_underlying (ty.sl t e hd)]
    · cases he
  · rename_i o' hxe
    rw [hxe] at hx
    split at he
    · rename_i e' u l q hh
      split at he
      · rename_i hte
        obtain ⟨e, hd⟩ := isSl_some hte
        have hr := hx.ref_inv rfl
        have hv : a.eval x = pv o' := hr.2 e' u l q hh
        have hob : RepOb (cx P E st w Z pv bl) o' (.arr e' u l q) := hh ▸ h.obs o' hr.1
        have hsl : ∃ ad c, pv o' = .slice ad l.length c := by
          rcases hob.2 with ⟨_, ⟨xs, _, h2⟩, _⟩ | ⟨_, _, h2⟩
          · rcases h2 with ⟨h2, rfl⟩ | ⟨g, cap, _, _, h2, _⟩
            · exact ⟨none, 0, h2⟩
            · exact ⟨_, cap, h2⟩
          · obtain ⟨a0, c0, e0, _⟩ := h2
            exact ⟨a0, c0, (List.cons.inj e0).1⟩
        obtain ⟨ad, q', hp⟩ := hsl
        refine fin (fun w' _ => ?_) he
        rw [hv, hp]
        simp [Builtin.len_, hty, run_underlying (ty.sl t e hd)]
      · cases he
    · cases he
  · rename_i o' s n hxe
    rw [hxe] at hx
    split at he
    · rename_i e' u l q hh
      split at he
      · rename_i hte
        obtain ⟨e, hd⟩ := isSl_some hte
        have hr := hx.ref_inv rfl
        obtain ⟨ad, N, cc, ad', c', p1, p2, p3, p4, p5⟩ := hr.2 e' u l q hh
        refine fin (fun w' _ => ?_) he
        rw [p4]
        simp [Builtin.len_, hty, run_underlying (ty.sl t e hd)]
      · cases he
    · cases he
  · rename_i o' hxe
    rw [hxe] at hx
    split at he
    · rename_i m k v l q hh
      split at he
      · rename_i hte
        obtain ⟨ki, vi, hu, _⟩ := ty.mp t k v (eTy_some hte)
        have hr := hx.ref_inv rfl
        have hv : a.eval x = pv o' := hr.2 _ _ _ _ _ hh
        have hob : RepOb (cx P E st w Z pv bl) o' (.map m k v l q) := hh ▸ h.obs o' hr.1
        have hm : ∃ q, a.eval x = .map q ∧ ((q = none ∧ l = []) ∨ ∃ b es clk, q = some b ∧ w.heap[b]? = some (.map es clk) ∧ entR P Z w k v l es.toList ∧ (Z b ∨ bl o' = some b)) := by
          rcases hob.2 with ⟨_, b, es, clk, d1, d2, d3, d4⟩ | ⟨_, _, q, d1, d2⟩
          · exact ⟨_, hv.trans d1, .inr ⟨b, es, clk, rfl, d3, d4, .inr d2⟩⟩
          · exact ⟨_, hv.trans (List.cons.inj d1).1, d2.imp id (fun ⟨b, es, clk, e1, ez, e2, e3⟩ => ⟨b, es, clk, e1, e2, entR_back e3, .inl ez⟩)⟩
        obtain ⟨q, hv, hm⟩ := hm
        refine fin (fun w' hk => ?_) he
        rw [hv]
        rcases hm with ⟨rfl, rfl⟩ | ⟨b, es, clk, rfl, hb, hent, hz⟩
        · simp [Builtin.len_, hty, run_underlying hu]
        · have hb' := (hk b (hz.imp id fun q => ⟨o', by rw [hxe]; exact List.mem_singleton.2 rfl, q⟩)).trans hb
          have hg : (getObj b).run P w' = .ok (.map es clk) w' := by simp [getObj, Sem.run, hb']
          have hl : l.length = es.size := by simpa using entriesR_len hent
          simp [Builtin.len_, hty, run_underlying hu, hg, hl]
      · cases he
    · cases he
  · cases he
theorem mm_quiet (h : Sim P E st a w Z pv bl) {c : Call} {x y : Operand} (lt : Bool) (hop : o.op = .call c) (hc : c.callee = .builtin (if lt = true then .min else .max)) (hargs : c.args.toList = [x, y])
    (he : evMM lt (st.op x) (st.op y) (fun v => K v st) = some r) : Quiet P E st a w Z bl o K r := by
  have hx := h.op x
  have hy := h.op y
  unfold evMM at he
  split at he
  · rename_i k p k' q hxe hye
    rw [hxe] at hx
    rw [hye] at hy
    split at he
    · rename_i hkk
      subst hkk
      obtain ⟨hx1, hx2⟩ := RepV.int_inv hx.val_inv
      obtain ⟨hy1, hy2⟩ := RepV.int_inv hy.val_inv
      have e1 : c.args = #[x, y] := by rw [← Array.toList_inj]; exact hargs
      refine Quiet.same h (fun w' hk => ?_) (.val (RepV.int ?_)) he
      · simp only [execOp, hop, resolve, hc, e1]
        cases lt
        · simp [invoke, builtin, Builtin.max_, Builtin.max2, hx1, hy1]
        · simp [invoke, builtin, Builtin.min_, Builtin.min2, hx1, hy1]
      · split <;> split <;> assumption
    · cases he
  · cases he

/-! ### Conversions that make nothing -/
theorem isTy_some {id : TypeId} (h : isTy E id = true) : ∃ t, E.ty id = some t := by
  unfold isTy at h
  split at h
  · exact ⟨_, by assumption⟩
  · cases h
end
end Ev
/- Parts put into values. -/
namespace Ev
open Go

/-! ### Splices -/
def splice {α : Type} (cs : List α) (off : Nat) (vs : List α) : List α := cs.take off ++ vs ++ cs.drop (off + vs.length)
theorem splice_get {α : Type} {cs vs : List α} {off : Nat} (h : off + vs.length ≤ cs.length) (i : Nat) : (splice cs off vs)[i]? = if i < off then cs[i]? else if i < off + vs.length then vs[i - off]? else cs[i]? := by
  unfold splice
  by_cases h1 : i < off
  · rw [if_pos h1, List.append_assoc, List.getElem?_append_left (by rw [List.length_take]; omega), List.getElem?_take, if_pos h1]
  · rw [if_neg h1]
    by_cases h2 : i < off + vs.length
    · rw [if_pos h2, List.getElem?_append_left (by rw [List.length_append, List.length_take]; omega), List.getElem?_append_right (by rw [List.length_take]; omega), List.length_take]
      congr 1; omega
    · rw [if_neg h2, List.getElem?_append_right (by rw [List.length_append, List.length_take]; omega), List.length_append, List.length_take, List.getElem?_drop]
      congr 1; omega
theorem splice_len {α : Type} {cs vs : List α} {off : Nat} (h : off + vs.length ≤ cs.length) : (splice cs off vs).length = cs.length := by
  unfold splice; simp only [List.length_append, List.length_take, List.length_drop]; omega
theorem splice_in {α : Type} {cs vs : List α} {o1 n1 o2 : Nat} (h1 : o1 + n1 ≤ cs.length) (h2 : o2 + vs.length ≤ n1) : splice cs o1 (splice ((cs.drop o1).take n1) o2 vs) = splice cs (o1 + o2) vs := by
  have hl : ((cs.drop o1).take n1).length = n1 := by rw [List.length_take, List.length_drop]; omega
  have hl2 : (splice ((cs.drop o1).take n1) o2 vs).length = n1 := by rw [splice_len (by omega), hl]
  apply List.ext_getElem?
  intro i
  have g1 := splice_get (cs := cs) (vs := splice ((cs.drop o1).take n1) o2 vs) (off := o1) (by omega) i
  have g2 := splice_get (cs := cs) (vs := vs) (off := o1 + o2) (by omega) i
  have g3 := splice_get (cs := (cs.drop o1).take n1) (vs := vs) (off := o2) (by omega) (i - o1)
  have g4 : i - o1 < n1 → ((cs.drop o1).take n1)[i - o1]? = cs[o1 + (i - o1)]? := fun q => by rw [List.getElem?_take, if_pos q, List.getElem?_drop]
  rw [g1, g2]
  rw [hl2]
  by_cases a1 : i < o1
  · rw [if_pos a1, if_pos (show i < o1 + o2 by omega)]
  · rw [if_neg a1]
    have e : o1 + (i - o1) = i := by omega
    rw [e] at g4
    by_cases a2 : i < o1 + n1
    · rw [if_pos a2, g3, g4 (by omega)]
      by_cases a3 : i - o1 < o2
      · rw [if_pos a3, if_pos (show i < o1 + o2 by omega)]
      · rw [if_neg a3, if_neg (show ¬ i < o1 + o2 by omega)]
        by_cases a4 : i - o1 < o2 + vs.length
        · rw [if_pos a4, if_pos (show i < o1 + o2 + vs.length by omega)]; congr 1; omega
        · rw [if_neg a4, if_neg (show ¬ i < o1 + o2 + vs.length by omega)]
    · rw [if_neg a2, if_neg (show ¬ i < o1 + o2 by omega), if_neg (show ¬ i < o1 + o2 + vs.length by omega)]
theorem splice_left {α : Type} {c1 c2 vs : List α} {o : Nat} (h : o + vs.length ≤ c1.length) : splice (c1 ++ c2) o vs = splice c1 o vs ++ c2 := by
  unfold splice
  rw [List.take_append_of_le_length (by omega), List.drop_append_of_le_length (by omega)]
  simp only [List.append_assoc]
theorem splice_right {α : Type} {c1 c2 vs : List α} {o : Nat} : splice (c1 ++ c2) (c1.length + o) vs = c1 ++ splice c2 o vs := by
  unfold splice
  rw [List.take_append, List.drop_append, List.take_of_length_le (by omega), List.drop_of_length_le (l := c1) (by omega)]
  have e1 : c1.length + o - c1.length = o := by omega
  have e2 : c1.length + o + vs.length - c1.length = o + vs.length := by omega
  rw [e1, e2]
  simp only [List.append_assoc, List.nil_append]
theorem splice_all {α : Type} {cs vs : List α} (h : vs.length = cs.length) : splice cs 0 vs = vs := by
  unfold splice
  rw [List.take_zero, Nat.zero_add, List.drop_of_length_le (by omega), List.nil_append, List.append_nil]
theorem Rows.set {α : Type} {C : α → List Value → Prop} {n : Nat} (hC : ∀ x c, C x c → c.length = n) {y : α} {vs : List Value} (hy : C y vs) :
    ∀ (i : Nat) {l : List α} {cs : List Value}, Rows C l cs → i < l.length → Rows C (l.set i y) (splice cs (i * n) vs) := by
  intro i
  have hvs := hC _ _ hy
  induction i with
  | zero =>
    intro l cs r hi
    cases r with
    | nil => simp at hi
    | @cons x xs c cs hc hr =>
      have hcl := hC _ _ hc
      rw [Nat.zero_mul, splice_left (by omega), splice_all (by omega)]
      exact .cons hy hr
  | succ i ih =>
    intro l cs r hi
    cases r with
    | nil => simp at hi
    | @cons x xs c cs hc hr =>
      have hcl := hC _ _ hc
      have e : (i + 1) * n = c.length + i * n := by rw [hcl, Nat.add_mul]; omega
      rw [e, splice_right]
      exact .cons hc (ih hr (by simpa using hi))

section
variable {P : Program} {E : Env} {st : St} {a : Act} {w : World} {Z : Zn} {pv : Nat → Value} {bl : Nat → Option Nat}

theorem setT_sound {σ : (u : T) → Option u.in} {vs : List Value} : ∀ (p : List Stp) (t : T) (x y : t.in) (cs : List Value) (u : T) (off : Nat), setT σ t x p = some y → tyAt t p = some u → offT t p = some off → RepC P t Z w x cs →
    (∀ q, σ u = some q → RepC P u Z w q vs) → RepC P t Z w y (splice cs off vs) ∧ off + u.sz ≤ cs.length ∧ vs.length = u.sz := by
  intro p
  induction p with
  | nil =>
    intro t x y cs u off hs h1 h2 h hσ
    have e1 : t = u := by cases t <;> simpa [tyAt] using h1
    have e2 : off = 0 := by cases t <;> simpa [offT] using h2.symm
    subst e1; subst e2
    have hl := RepC.length t x cs h
    have hs' : σ t = some y := by cases t <;> simpa [setT] using hs
    have hv := RepC.length t y vs (hσ y hs')
    rw [splice_all (by omega)]
    exact ⟨hσ y hs', by omega, hv⟩
  | cons s p ih =>
    have hf : ∀ (n : Nat) (t : T) (x y : t.in) (cs : List Value) (u : T) (off : Nat), setT σ t x (.f n :: p) = some y → tyAt t (.f n :: p) = some u → offT t (.f n :: p) = some off → RepC P t Z w x cs →
        (∀ q, σ u = some q → RepC P u Z w q vs) → RepC P t Z w y (splice cs off vs) ∧ off + u.sz ≤ cs.length ∧ vs.length = u.sz := by
      intro n
      induction n with
      | zero =>
        intro t x y cs u off hs h1 h2 h hσ
        cases t <;> simp only [tyAt] at h1 <;> first | cases h1 | skip
        rename_i ta tb
        obtain ⟨c1, c2, rfl, g1, g2⟩ := h
        simp only [setT] at hs
        split at hs
        · rename_i v hv'
          obtain rfl := Option.some.inj hs
          obtain ⟨q1, q2, hv⟩ := ih ta x.1 v c1 u off hv' h1 (by simpa [offT] using h2) g1 hσ
          rw [splice_left (by omega), List.length_append]
          exact ⟨⟨_, _, rfl, q1, g2⟩, by omega, hv⟩
        · cases hs
      | succ n ihn =>
        intro t x y cs u off hs h1 h2 h hσ
        cases t <;> simp only [tyAt] at h1 <;> first | cases h1 | skip
        rename_i ta tb
        obtain ⟨c1, c2, rfl, g1, g2⟩ := h
        simp only [offT] at h2
        cases ho : offT tb (.f n :: p) with
        | none => rw [ho] at h2; cases h2
        | some o2 =>
          rw [ho] at h2
          obtain rfl : ta.sz + o2 = off := by simpa using h2
          have hl := RepC.length ta x.1 c1 g1
          simp only [setT] at hs
          split at hs
          · rename_i v hv'
            obtain rfl := Option.some.inj hs
            obtain ⟨q1, q2, hv⟩ := ihn tb x.2 v c2 u o2 hv' h1 ho g2 hσ
            rw [← hl, splice_right, List.length_append]
            exact ⟨⟨_, _, rfl, g1, q1⟩, by omega, hv⟩
          · cases hs
    cases s with
    | f n => exact hf n
    | x i =>
      intro t x y cs u off hs h1 h2 h hσ
      cases t <;> simp only [tyAt] at h1 <;> first | cases h1 | skip
      rename_i n tu
      simp only [offT] at h2
      split at h2
      · rename_i hi
        cases ho : offT tu p with
        | none => rw [ho] at h2; cases h2
        | some o2 =>
          rw [ho] at h2
          obtain rfl : i * tu.sz + o2 = off := by simpa using h2
          obtain ⟨hn, hr⟩ := h
          have hg := Rows.get RepC.len i tu.zero hr (by omega)
          have hl := Rows.len_eq RepC.len hr
          have hb : i * tu.sz + tu.sz ≤ cs.length := by
            rw [hl, hn, ← Nat.succ_mul]; exact Nat.mul_le_mul_right _ hi
          simp only [setT] at hs
          split at hs
          · rename_i v hv'
            obtain rfl := Option.some.inj hs
            obtain ⟨q1, q2, hv⟩ := ih tu _ v _ u o2 hv' h1 ho hg hσ
            rw [List.length_take, List.length_drop] at q2
            refine ⟨⟨by rw [List.length_set]; exact hn, ?_⟩, by omega, hv⟩
            have := Rows.set RepC.len q1 i hr (by omega)
            rw [splice_in hb (by omega)] at this
            exact this
          · cases hs
      · cases h2

/-- A value of a type. -/
theorem conf_RA {c : Cx} (hhp : c.hp = st.hp) (hE : c.E = E) : ∀ (n : Nat) (t t' : T) (av : AV) (cs : List Value), conf E st n t av = true → RA c t' av cs → RA c t av cs := by
  intro n
  induction n with
  | zero => intro t t' av cs h; simp [conf] at h
  | succ n ih =>
    intro t t' av cs h r
    cases r with
    | @val _ x _ q =>
      simp only [conf] at h
      obtain rfl := of_decide_eq_true h
      exact .val q
    | @ref _ _ v h1 h2 h3 h4 =>
      cases av with
      | nil k =>
        simp only [conf] at h
        exact .ref h1 h2 h (by cases t <;> simp [nilT] at h <;> rfl)
      | sl o =>
        simp only [conf] at h
        split at h
        · rename_i u e u' l k hh
          obtain rfl := of_decide_eq_true h
          exact .ref h1 h2 (fun e2 u2 l2 k2 hh2 => by rw [hhp, hh] at hh2; cases hh2; rfl) rfl
        · cases h
      | mp o =>
        simp only [conf] at h
        split at h
        · rename_i k v m k' v' l ro hh
          simp only [Bool.and_eq_true, decide_eq_true_eq] at h
          obtain ⟨rfl, rfl⟩ := h
          exact .ref h1 h2 (fun m2 k2 x2 l2 r2 hh2 => by rw [hhp, hh] at hh2; cases hh2; rfl) rfl
        · cases h
      | ptr o p =>
        cases p with
        | cons _ _ => simp [conf] at h
        | nil =>
          simp only [conf] at h
          split at h
          · rename_i u e x hh
            have h' := of_decide_eq_true h
            exact .ref h1 h2 (fun e2 x2 hh2 => by rw [hhp, hh] at hh2; cases hh2; rw [hE]; exact ⟨_, h', rfl⟩) rfl
          · cases h
      | _ => simp [AV.one] at h1 <;> simp [conf] at h
    | un =>
      simp only [conf] at h
      obtain rfl := of_decide_eq_true h
      exact .un
    | @pr x y v r c1 c2 q1 q2 =>
      simp only [conf] at h
      split at h
      · rename_i x' y'
        simp only [Bool.and_eq_true] at h
        exact .pr (ih x' x v c1 h.1 q1) (ih y' y (.agg r) c2 h.2 q2)
      · cases h
theorem conf_sound (h : Sim P E st a w Z pv bl) {t : T} {av : AV} {v : Value} (hc : cf E st t av = true) (hv : RAV (cx P E st w Z pv bl) av v) : RA (cx P E st w Z pv bl) t av v.cells.toList ∧ isAggV v = t.isAgg := by
  unfold cf at hc
  revert hc
  generalize 24 = nn
  intro hc
  cases nn with
  | zero => simp [conf] at hc
  | succ nn =>
  have hpv : ∀ (hh : isAggV v = false), v.cells.toList = [v] := fun hh => by cases v <;> simp [isAggV] at hh <;> rfl
  cases hv with
  | @val t' x _ q =>
    simp only [conf] at hc
    obtain rfl := of_decide_eq_true hc
    exact ⟨.val q.2, q.1⟩
  | ref h1 h2 =>
    cases av with
    | nil k =>
      simp only [conf] at hc
      have hn : nilV k v := h2
      have hagg : isAggV v = false ∧ t.isAgg = false ∧ t.one = true := by
        have hv : isAggV v = false := by
          unfold nilV at hn
          split at hn <;> first | (rw [hn]; rfl) | cases hn
        cases t <;> first | (simp [nilT] at hc; done) | exact ⟨hv, rfl, rfl⟩
      rw [hpv hagg.1, hagg.1, hagg.2.1]
      exact ⟨.ref h1 h2 hc hagg.2.2, rfl⟩
    | sl o =>
      simp only [conf] at hc
      split at hc
      · rename_i u e u' l k hh
        obtain rfl := of_decide_eq_true hc
        have hv : v = pv o := h2.2 _ _ _ _ hh
        have hob : RepOb (cx P E st w Z pv bl) o (.arr e u' l k) := hh ▸ h.obs o h2.1
        have hagg : isAggV v = false := by
          rw [hv]
          rcases hob.2 with ⟨_, ⟨xs, _, q⟩, _⟩ | ⟨_, _, q⟩
          · have q : (pv o = _ ∧ _) ∨ _ := q
            rcases q with ⟨q, _⟩ | ⟨g, cap, _, _, q, _⟩
            · rw [q]; rfl
            · have q : pv o = _ := q
              rw [q]; rfl
          · obtain ⟨a0, c0, e0, _⟩ := q
            have q : pv o = _ := (List.cons.inj e0).1
            rw [q]; rfl
        rw [hpv hagg, hagg]
        exact ⟨.ref h1 h2 (fun e2 u2 l2 k2 hh2 => by have hh2 : st.hp o = _ := hh2; rw [hh] at hh2; cases hh2; rfl) rfl, rfl⟩
      · cases hc
    | mp o =>
      simp only [conf] at hc
      split at hc
      · rename_i k v' m k' v2 l ro hh
        simp only [Bool.and_eq_true, decide_eq_true_eq] at hc
        obtain ⟨rfl, rfl⟩ := hc
        have hv : v = pv o := h2.2 _ _ _ _ _ hh
        have hob : RepOb (cx P E st w Z pv bl) o (.map m k' v2 l ro) := hh ▸ h.obs o h2.1
        have hagg : isAggV v = false := by
          rw [hv]
          rcases hob.2 with ⟨_, b, es, clk, q, _⟩ | ⟨_, _, q⟩
          · have q : pv o = _ := q
            rw [q]; rfl
          · obtain ⟨a0, e0, _⟩ := q
            have q : pv o = _ := (List.cons.inj e0).1
            rw [q]; rfl
        rw [hpv hagg, hagg]
        exact ⟨.ref h1 h2 (fun m2 k2 x2 l2 r2 hh2 => by have hh2 : st.hp o = _ := hh2; rw [hh] at hh2; cases hh2; rfl) rfl, rfl⟩
      · cases hc
    | ptr o p =>
      cases p with
      | cons _ _ => simp [conf] at hc
      | nil =>
        simp only [conf] at hc
        split at hc
        · rename_i u e x hh
          have h' := of_decide_eq_true hc
          obtain ⟨b, t0, off, _, _, _, hv⟩ := h2.2 e x hh
          have hagg : isAggV v = false := by rw [hv]; rfl
          rw [hpv hagg, hagg]
          exact ⟨.ref h1 h2 (fun e2 x2 hh2 => by have hh2 : st.hp o = _ := hh2; rw [hh] at hh2; cases hh2; exact ⟨_, h', rfl⟩) rfl, rfl⟩
        · cases hc
    | _ => first | (simp [AV.one] at h1; done) | (simp only [conf] at hc; cases hc)
  | @agg fs cs t' ht q =>
    have := conf_RA (c := cx P E st w Z pv bl) rfl rfl (nn + 1) t t' (.agg fs) cs.toList hc q
    refine ⟨this, ?_⟩
    cases fs with
    | nil =>
      simp only [conf] at hc
      obtain rfl := of_decide_eq_true hc
      rfl
    | cons f r =>
      simp only [conf] at hc
      split at hc
      · rfl
      · cases hc
  | tup => simp only [conf] at hc; cases hc
  | clo => simp only [conf] at hc; cases hc
  | dead => simp only [conf] at hc; cases hc
end
end Ev
/- Parts put into values (2): fields, zero values, builds. -/
namespace Ev
open Go
section
variable {P : Program} {E : Env} {st : St} {a : Act} {w : World} {Z : Zn} {pv : Nat → Value} {bl : Nat → Option Nat}

theorem RA.set_field {c : Cx} : ∀ (n : Nat) (t t' : T) (fs : List AV) (cs : List Value) (v : AV), RA c t (.agg fs) cs → fs[n]? = some v → fT t n = some t' →
    ∃ o1 c1, (∀ p off, offT t (.f n :: p) = some off → ∃ o2, offT t' p = some o2 ∧ off = o1 + o2) ∧ (∀ p, tyAt t (.f n :: p) = tyAt t' p) ∧ RA c t' v c1 ∧
      ∀ v' vs o2, RA c t' v' (splice c1 o2 vs) → o2 + vs.length ≤ c1.length → RA c t (.agg (fs.set n v')) (splice cs (o1 + o2) vs) ∧ o1 + o2 + vs.length ≤ cs.length := by
  intro n
  induction n with
  | zero =>
    intro t t' fs cs v h hv ht
    cases h with
    | ref a _ _ _ => simp [AV.one] at a
    | un => simp [fT] at ht
    | @pr x y v0 r c1 c2 g1 g2 =>
      obtain rfl : v0 = v := by simpa using hv
      obtain rfl : x = t' := by simpa [fT] using ht
      refine ⟨0, c1, fun p off h => ⟨off, by simpa [offT] using h, by omega⟩, fun p => rfl, g1, fun v' vs o2 h1 h2 => ?_⟩
      rw [Nat.zero_add, splice_left (by omega), List.length_append]
      exact ⟨.pr h1 g2, by omega⟩
  | succ n ih =>
    intro t t' fs cs v h hv ht
    cases h with
    | ref a _ _ _ => simp [AV.one] at a
    | un => simp [fT] at ht
    | @pr x y v0 r c1 c2 g1 g2 =>
      obtain ⟨o1, c3, h1, h2, h3, h4⟩ := ih y t' r c2 v g2 (by simpa using hv) (by simpa [fT] using ht)
      have hl := g1.len
      refine ⟨x.sz + o1, c3, fun p off h => ?_, fun p => by rw [← h2 p]; rfl, h3, fun v' vs o2 q1 q2 => ?_⟩
      · simp only [offT] at h
        cases ho : offT y (.f n :: p) with
        | none => rw [ho] at h; cases h
        | some o =>
          rw [ho] at h
          obtain ⟨o2, e1, e2⟩ := h1 p o ho
          obtain rfl : x.sz + o = off := by simpa using h
          exact ⟨o2, e1, by omega⟩
      · obtain ⟨e1, e2⟩ := h4 v' vs o2 q1 q2
        rw [← hl, Nat.add_assoc, splice_right, List.length_append]
        exact ⟨.pr g1 e1, by omega⟩
theorem setA_sound {c : Cx} (hP : c.P = P) {vs : List Value} {wv : AV} (hcf : ∀ t, cf E st t wv = true → RA c t wv vs) :
    ∀ (p : List Stp) (t : T) (av av' : AV) (cs : List Value) (u : T) (off : Nat), (keeps av p = false → ∀ u q, sn E st u wv = some q → RepC P u c.Z c.w q vs) → setA E st t av p wv = some av' → tyAt t p = some u → offT t p = some off →
      RA c t av cs → RA c t av' (splice cs off vs) ∧ off + u.sz ≤ cs.length ∧ vs.length = u.sz := by
  intro p
  induction p with
  | nil =>
    intro t av av' cs u off _ hs h1 h2 h
    have e1 : t = u := by cases t <;> simpa [tyAt] using h1
    have e2 : off = 0 := by cases t <;> simpa [offT] using h2.symm
    subst e1; subst e2
    have hl := h.len
    simp only [setA] at hs
    split at hs
    · rename_i hc
      obtain rfl := Option.some.inj hs
      have hv := (hcf t hc).len
      rw [splice_all (by omega)]
      exact ⟨hcf t hc, by omega, hv⟩
    · cases hs
  | cons s p ih =>
    intro t av av' cs u off hk hs h1 h2 h
    cases av with
    | val u0 x =>
      simp only [setA] at hs
      split at hs
      · rename_i e
        subst e
        unfold setV at hs
        split at hs
        · rename_i y hy
          obtain rfl := Option.some.inj hs
          obtain ⟨e, hr⟩ := h.val_inv
          have hr' : RepC P u0 c.Z c.w x cs := by rw [hP] at hr; exact hr
          have hk' : keeps (.val u0 x) (s :: p) = false := by cases s <;> simp [keeps]
          obtain ⟨q1, q2, hv⟩ := setT_sound (s :: p) u0 x y cs u off hy h1 h2 hr' (fun q hq => hk hk' u q hq)
          exact ⟨.val (by rw [hP]; exact q1), q2, hv⟩
        · cases hs
      · cases hs
    | agg fs =>
      cases s with
      | x i => simp only [setA] at hs; cases hs
      | f n =>
        simp only [setA] at hs
        split at hs
        · rename_i v t' hv' ht'
          split at hs
          · rename_i v' hs'
            obtain rfl := Option.some.inj hs
            obtain ⟨o1, c1, g1, g2, g3, g4⟩ := RA.set_field n t t' fs cs v h hv' ht'
            obtain ⟨o2, e1, rfl⟩ := g1 p off h2
            have hk' : keeps v p = false → ∀ u q, sn E st u wv = some q → RepC P u c.Z c.w q vs := fun q => hk (by simp only [keeps, hv']; exact q)
            obtain ⟨q1, q2, hv⟩ := ih t' v v' c1 u o2 hk' hs' (by rw [← g2 p]; exact h1) e1 g3
            obtain ⟨r1, r2⟩ := g4 v' vs o2 q1 (by omega)
            exact ⟨r1, by omega, hv⟩
          · cases hs
        · cases hs
    | _ => cases s <;> simp only [setA] at hs <;> cases hs

/-! ### Zero values -/
theorem Ext.refl (c : Cx) : Ext c c := ⟨rfl, rfl, fun _ h => h, Agree.refl _ _, Nat.le_refl _, fun _ _ _ l k _ h => ⟨rfl, l, k, h⟩, fun _ _ x _ h => ⟨rfl, x, h⟩, fun _ _ _ _ l r _ h => ⟨rfl, l, r, h⟩⟩
theorem Ext.trans {c1 c2 c3 : Cx} (h : Ext c1 c2) (k : Ext c2 c3) : Ext c1 c3 := by
  refine ⟨k.P.trans h.P, k.E.trans h.E, fun b q => k.zle b (h.zle b q), h.agree.trans (k.agree.mono h.zle), Nat.le_trans h.nx k.nx, fun o e u l q ho hx => ?_, fun o e x ho hx => ?_, fun o m q v l r ho hx => ?_⟩
  · obtain ⟨e1, l1, k1, h1⟩ := k.arr o e u l q (Nat.lt_of_lt_of_le ho h.nx) hx
    obtain ⟨e2, l2, k2, h2⟩ := h.arr o e u l1 k1 ho h1
    exact ⟨e1.trans e2, l2, k2, h2⟩
  · obtain ⟨e1, x1, h1⟩ := k.box o e x (Nat.lt_of_lt_of_le ho h.nx) hx
    obtain ⟨e2, x2, h2⟩ := h.box o e x1 ho h1
    exact ⟨e1.trans e2, x2, h2⟩
  · obtain ⟨e1, l1, k1, h1⟩ := k.map o m q v l r (Nat.lt_of_lt_of_le ho h.nx) hx
    obtain ⟨e2, l2, k2, h2⟩ := h.map o m q v l1 k1 ho h1
    exact ⟨e1.trans e2, l2, k2, h2⟩
theorem zeroAV_sound (ty : TyOK P E) : ∀ (n : Nat) (id : TypeId) (st st' : St) (av : AV) (pv : Nat → Value) (bl : Nat → Option Nat), zeroAV E n id st = some (av, st') → Sim P E st a w Z pv bl →
    ∃ t pv' bl', E.ty id = some t ∧ Sim P E st' a w Z pv' bl' ∧ RA (cx P E st' w Z pv' bl') t av t.zcs ∧ Ext (cx P E st w Z pv bl) (cx P E st' w Z pv' bl') ∧ Tr w Z bl w Z bl' ∧ Keep bl Z bl' [] := by
  intro n
  induction n with
  | zero => intro id st st' av pv bl h; simp [zeroAV] at h
  | succ n ih =>
    intro id st st' av pv bl h hs
    rw [zeroAV] at h
    split at h
    · cases h
    · rename_i t ht
      have hplain := ty.plain id t ht
      have hv : some (AV.val t t.zero, st) = some (av, st') → ∃ t pv' bl', E.ty id = some t ∧ Sim P E st' a w Z pv' bl' ∧ RA (cx P E st' w Z pv' bl') t av t.zcs ∧ Ext (cx P E st w Z pv bl) (cx P E st' w Z pv' bl') ∧ Tr w Z bl w Z bl' ∧ Keep bl Z bl' [] := by
        intro h
        obtain ⟨rfl, rfl⟩ := by simpa using h
        exact ⟨t, pv, bl, ht, hs, .val (zero_rep t hplain Z w), Ext.refl _, Tr.refl _ _ _, Keep.refl _ _ _⟩
      split at h
      · exact hv h
      · split at h
        · rename_i e hds
          split at h
          · rename_i u hu
            obtain ⟨u', hu', rfl⟩ := ty.slt id e t hds ht
            obtain rfl : u' = u := Option.some.inj (hu'.symm.trans hu)
            obtain ⟨rfl, rfl⟩ := by simpa using h
            obtain ⟨h1, h2⟩ := hs.newNil hu
            refine ⟨_, _, _, ht, h1, .ref (v := .slice none 0 0) rfl (h2.ref_inv rfl) (fun e2 u2 l2 k2 hh => ?_) rfl, hs.extNew _ _ _, Tr.new _ _ _ _, Keep.new hs _ _ _⟩
            have hh' : (st.new (.arr e u' [] 0)).hp st.nx = _ := hh
            have e2 : (st.new (.arr e u' [] 0)).hp st.nx = .arr e u' [] 0 := upd_same _ _ _
            rw [e2] at hh'
            cases hh'; rfl
          · cases h
        · rename_i fs hds
          obtain ⟨ts, hts, rfl⟩ := ty.dst id fs t hds ht
          -- the fields, from the last on
          have key : ∀ (fs : List TypeId) (ts : List T), fs.map E.ty = ts.map some → ∀ l st1, fs.foldr (fun f acc => match acc with
              | some (l, s) => match zeroAV E n f s with
                | some (v, s') => some (v :: l, s')
                | none => none
              | none => none) (some (([] : List AV), st)) = some (l, st1) →
              ∃ pv' bl', Sim P E st1 a w Z pv' bl' ∧ RA (cx P E st1 w Z pv' bl') (T.prs ts) (.agg l) (T.prs ts).zcs ∧ Ext (cx P E st w Z pv bl) (cx P E st1 w Z pv' bl') ∧ Tr w Z bl w Z bl' ∧ Keep bl Z bl' [] := by
            intro fs
            induction fs with
            | nil =>
              intro ts hts l st1 h
              cases ts with
              | cons _ _ => simp at hts
              | nil =>
                obtain ⟨rfl, rfl⟩ := by simpa using h
                exact ⟨pv, bl, hs, .un, Ext.refl _, Tr.refl _ _ _, Keep.refl _ _ _⟩
            | cons f fs ihf =>
              intro ts hts l st1 h
              cases ts with
              | nil => simp at hts
              | cons t0 ts =>
                have hts' : E.ty f = some t0 ∧ fs.map E.ty = ts.map some := by simpa using hts
                rw [List.foldr_cons] at h
                split at h
                · rename_i l1 s1 h1
                  split at h
                  · rename_i v s2 h2
                    obtain ⟨rfl, rfl⟩ := by simpa using h
                    obtain ⟨pv1, bl1, a1, a2, a3, a4, a5⟩ := ihf ts hts'.2 l1 s1 h1
                    obtain ⟨t1, pv2, bl2, b0, b1, b2, b3, b4, b5⟩ := ih f s1 s2 v pv1 bl1 h2 a1
                    obtain rfl : t1 = t0 := Option.some.inj (b0.symm.trans hts'.1)
                    exact ⟨pv2, bl2, b1, .pr b2 (a2.ext b3), a3.trans b3, a4.trans b4, a5.trans b5 (fun _ h => h)⟩
                  · cases h
                · cases h
          split at h
          · rename_i l s1 h1
            obtain ⟨rfl, rfl⟩ := by simpa using h
            obtain ⟨pv', bl', q1, q2, q3, q4, q5⟩ := key fs ts hts l s1 h1
            exact ⟨_, pv', bl', ht, q1, q2, q3, q4, q5⟩
          · cases h
        · exact hv h
end
end Ev
