/- A reading of Go code as plain functions, part FwA. -/
import Derived.Calls
import Derived.CheckFast
import Derived.Below
import Derived.Laws.MakeOwn
import Derived.Laws.Entries
import Derived.Laws.StructEq
import Derived.ChangeKeysEq
import Derived.Laws.Concat
/- The abstract machine: values, objects, operations and control of a Go function, read as a partial Lean function. -/
namespace Go.Fw

inductive Ty where
  | int (k : IntKind) | bool | str | unit | fn | err
  | pair (a b : Ty) | arr (n : Nat) (t : Ty) | slc (t : Ty) | ptr (t : Ty)
  deriving DecidableEq

@[reducible] def Ty.I : Ty → Type
  | .int _ => Int
  | .bool => Bool
  | .str => ByteArray
  | .err => Bool
  | .unit => Unit
  | .fn => Unit
  | .pair a b => a.I × b.I
  | .arr _ t => List t.I
  | .slc t => List t.I
  | .ptr t => t.I

def Ty.size : Ty → Nat
  | .unit => 0
  | .pair a b => a.size + b.size
  | .arr n t => n * t.size
  | _ => 1

def Ty.flat : Ty → Bool
  | .int _ => true
  | .bool => true
  | .str => true
  | .err => true
  | .unit => true
  | .fn => false
  | .pair a b => a.flat && b.flat
  | .arr _ t => t.flat
  | .slc _ => false
  | .ptr _ => false

/-- No pointer and no function lies in it, but behind a slice. -/
def Ty.plain : Ty → Bool
  | .fn => false
  | .ptr _ => false
  | .pair a b => a.plain && b.plain
  | .arr _ t => t.plain
  | _ => true

def Ty.isAgg : Ty → Bool
  | .unit => true
  | .pair _ _ => true
  | .arr _ _ => true
  | _ => false

def Ty.zero : (t : Ty) → t.I
  | .int _ => (0 : Int)
  | .bool => false
  | .str => (⟨#[]⟩ : ByteArray)
  | .err => false
  | .unit => ()
  | .fn => ()
  | .pair a b => (a.zero, b.zero)
  | .arr n t => List.replicate n t.zero
  | .slc _ => []
  | .ptr t => t.zero

def Ty.dec : (t : Ty) → DecidableEq t.I
  | .int _ => inferInstanceAs (DecidableEq Int)
  | .bool => inferInstanceAs (DecidableEq Bool)
  | .str => inferInstanceAs (DecidableEq ByteArray)
  | .err => inferInstanceAs (DecidableEq Bool)
  | .unit => inferInstanceAs (DecidableEq Unit)
  | .fn => inferInstanceAs (DecidableEq Unit)
  | .pair a b => have := a.dec; have := b.dec; inferInstanceAs (DecidableEq (a.I × b.I))
  | .arr _ t => have := t.dec; inferInstanceAs (DecidableEq (List t.I))
  | .slc t => have := t.dec; inferInstanceAs (DecidableEq (List t.I))
  | .ptr t => t.dec

def Ty.sca : Ty → Bool
  | .int _ => true
  | .bool => true
  | _ => false
/-- A struct of numbers and truth values. -/
def Ty.fldE : Ty → Bool
  | .arr _ t => t.sca
  | t => t.sca
def Ty.eqF : Ty → Bool
  | .unit => true
  | .pair a b => a.fldE && b.eqF
  | _ => false
/-- Values of these types are compared part by part. -/
def Ty.eqT : Ty → Bool
  | .arr _ t => t.sca
  | .pair a b => a.fldE && b.eqF
  | _ => false
def eqV (t : Ty) (x y : t.I) : Bool := @decide (x = y) (t.dec x y)

inductive PS where
  | fst | snd | elem (k : Nat)
  deriving DecidableEq

inductive V where
  | undef | skip | nil
  | val (t : Ty) (x : t.I)
  | hdr (i : Nat)
  | adr (i : Nat) (p : List PS)
  /-- A pointer to a variable that holds a row's header and is never written again. -/
  | pin (i : Nat)
  | pr (a b : V)
  | clo (g : FuncId) (fs cs : V)
  | tup (v : V)

inductive Obj where
  | gone
  | box (t : Ty) (v : V)
  | row (d : Bool) (t : Ty) (l : List t.I)
  | opened (t : Ty) (l : List t.I) (k : Nat) (q : List PS) (u : Ty) (c : Nat)
  /-- A strings.Builder (t: its type, e: that of bytes) and the text that it holds. -/
  | bld (t e : TypeId) (x : ByteArray)

structure St where
  tm : Nat → V
  ob : Nat → Option Obj

def St.putT (s : St) (n : Nat) (v : V) : St := { s with tm := fun m => bif m == n then v else s.tm m }
def St.putO (s : St) (i : Nat) (o : Obj) : St := { s with ob := fun j => bif j == i then some o else s.ob j }
def St.empty : St := ⟨fun _ => .undef, fun _ => none⟩

/-- What an operation does to tmps and objects, with questions whose answers are plain Lean terms. -/
inductive AM (α : Type) : Type 1 where
  | pure (a : α)
  | fail
  | getT (n : Nat) (k : V → AM α)
  | putT (n : Nat) (v : V) (k : AM α)
  | getO (i : Nat) (k : Option Obj → AM α)
  | putO (i : Nat) (o : Obj) (k : AM α)
  | ask (β : Type) (x : Option β) (k : β → AM α)
  | test (n : Nat) (x y z : AM α)

namespace AM
def bind {α β : Type} : AM α → (α → AM β) → AM β
  | .pure a, f => f a
  | .fail, _ => .fail
  | .getT n k, f => .getT n fun v => (k v).bind f
  | .putT n v k, f => .putT n v (k.bind f)
  | .getO i k, f => .getO i fun o => (k o).bind f
  | .putO i o k, f => .putO i o (k.bind f)
  | .ask β x k, f => .ask β x fun b => (k b).bind f
  | .test n x y z, f => .test n (x.bind f) (y.bind f) (z.bind f)

/-- The direct run. -/
def run {α : Type} : AM α → St → Option (α × St)
  | .pure a, s => some (a, s)
  | .fail, _ => none
  | .getT n k, s => (k (s.tm n)).run s
  | .putT n v k, s => k.run (s.putT n v)
  | .getO i k, s => (k (s.ob i)).run s
  | .putO i o k, s => k.run (s.putO i o)
  | .ask _ x k, s => x.bind fun b => (k b).run s
  | .test n x y z, s => match s.tm n with
    | .val .bool b => if b = true then x.run s else y.run s
    | .skip => z.run s
    | _ => none

inductive Loc where
  | t (n : Nat) | o (i : Nat)
  deriving DecidableEq

structure Log where
  rd : List Loc
  wr : List Loc

/-- The run with a continuation and a log. -/
def runK {α R : Type} : AM α → St → Log → (α → St → Log → Option R) → Option R
  | .pure a, s, g, κ => κ a s g
  | .fail, _, _, _ => none
  | .getT n k, s, g, κ => (k (s.tm n)).runK s { g with rd := .t n :: g.rd } κ
  | .putT n v k, s, g, κ => k.runK (s.putT n v) { g with wr := .t n :: g.wr } κ
  | .getO i k, s, g, κ => (k (s.ob i)).runK s { g with rd := .o i :: g.rd } κ
  | .putO i o k, s, g, κ => k.runK (s.putO i o) { g with wr := .o i :: g.wr } κ
  | .ask _ x k, s, g, κ => x.bind fun b => (k b).runK s g κ
  | .test n x y z, s, g, κ => match s.tm n with
    | .val .bool b => if b = true then x.runK (s.putT n (.val .bool true)) { g with rd := .t n :: g.rd } κ else y.runK (s.putT n (.val .bool false)) { g with rd := .t n :: g.rd } κ
    | .skip => z.runK s { g with rd := .t n :: g.rd } κ
    | _ => none
end AM

/-- What is known of a program's types. -/
structure TI where
  ty : Ty
  elem : Nat := 0
  bytes : Nat := 0

/-- How a parameter, a result or a loop's slot is handed over. -/
inductive Sh where
  | ro (t : Ty)
  | nl
  | row (d : Bool) (t : Ty)
  | pin (d : Bool) (t : Ty)
  | box (s : Sh)
  | pr (a b : Sh)
  | clo (g : FuncId) (fs cs : Sh)
  /-- A pointer to a strings.Builder. -/
  | bld (t e : TypeId)
  deriving DecidableEq

@[reducible] def Sh.ty : Sh → Ty
  | .ro t => t
  | .nl => .unit
  | .row _ t => .slc t
  | .pin _ t => .ptr (.slc t)
  | .box s => .ptr s.ty
  | .pr a b => .pair a.ty b.ty
  | .clo _ fs cs => .pair fs.ty cs.ty
  | .bld _ _ => .str

/-- The type of a variable that holds what a shape tells. -/
@[reducible] def Sh.mty : Sh → Ty
  | .ro t => t
  | .nl => .unit
  | .row _ t => .slc t
  | .pin _ t => .ptr (.slc t)
  | .box s => .ptr s.mty
  | .pr a b => .pair a.mty b.mty
  | .clo _ _ _ => .fn
  | .bld _ _ => .ptr .str

/-- A slot at a loop's head: a value of its own, or the same as an earlier slot. -/
inductive Sl where
  | own (n : Nat) (s : Sh)
  | same (n m : Nat)
  /-- A pointer to an element of a slot's row. -/
  | elt (n m : Nat) (t : Ty)

@[reducible] def argTy : List (Sh × Bool) → Ty
  | [] => .unit
  | (s, _) :: r => .pair s.ty (argTy r)
@[reducible] def outTy : List (Sh × Bool) → Ty
  | [] => .unit
  | (s, true) :: r => .pair s.ty (outTy r)
  | (_, false) :: r => outTy r
@[reducible] def resTy : List Sh → Ty
  | [] => .unit
  | s :: r => .pair s.ty (resTy r)
structure Inst where
  f : FuncId
  params : List (Sh × Bool)
  res : List Sh
  strict : Bool := false
  slots : List ResultVar
  nt : Nat
  code : Code
  loops : Nat → List Sl := fun _ => []
  callee : Nat → Nat → Nat := fun _ _ => 0
  deep : Nat → Nat → Bool := fun _ _ => false
  frz : Nat → Nat → Bool := fun _ _ => false
  /-- Tmps whose rows are only read from an operation on. -/
  ice : Nat → Nat → List Nat := fun _ _ => []
  pins : List Nat := []
  /-- What a function of a library answers, where its contract is proved apart. -/
  ext : Option ((argTy params).I → Option ((resTy res).I × (outTy params).I)) := none

@[reducible] def slTy : List Sl → Ty
  | [] => .unit
  | .own _ s :: r => .pair s.ty (slTy r)
  | .same _ _ :: r => slTy r
  | .elt _ _ _ :: r => .pair (.int .i64) (slTy r)

section
variable (T : Nat → Option TI)

def castI {u t : Ty} (h : u = t) (x : u.I) : t.I := h ▸ x
def castL {u t : Ty} (h : u = t) (x : List u.I) : List t.I := h ▸ x

def mkpr : V → V → V
  | .val a x, .val b y => .val (.pair a b) (x, y)
  | a, b => .pr a b

def V.fst : V → Option V
  | .pr a _ => some a
  | .val (.pair a _) x => some (.val a x.1)
  | _ => none
def V.snd : V → Option V
  | .pr _ b => some b
  | .val (.pair _ b) x => some (.val b x.2)
  | _ => none

def ofO {α : Type} : Option α → AM α
  | some a => .pure a
  | none => .fail
def guard_ (c : Bool) : AM Unit := .ask Unit (if c = true then some () else none) .pure
/-- A check that is decided as the machine is read. -/
def must (c : Bool) : AM Unit := match c with
  | true => .pure ()
  | false => .fail


/-- The part of a value at a path. -/
def getV : V → List PS → AM V
  | v, [] => .pure v
  | v, .fst :: p => match v.fst with
    | some a => getV a p
    | none => .fail
  | v, .snd :: p => match v.snd with
    | some b => getV b p
    | none => .fail
  | v, .elem k :: p => match v with
    | .val (.arr _ t) l => .ask t.I (l[k]?) fun y => getV (.val t y) p
    | _ => .fail

def castV (t : Ty) : V → AM t.I
  | .val u y => if h : u = t then .pure (castI h y) else .fail
  | _ => .fail

/-- A value with another part at a path. -/
def setV : V → List PS → V → AM V
  | _, [], y => .pure y
  | v, .fst :: p, y => match v.fst, v.snd with
    | some a, some b => (setV a p y).bind fun z => .pure (mkpr z b)
    | _, _ => .fail
  | v, .snd :: p, y => match v.fst, v.snd with
    | some a, some b => (setV b p y).bind fun z => .pure (mkpr a z)
    | _, _ => .fail
  | v, .elem k :: p, y => match v with
    | .val (.arr n t) l => .ask t.I (l[k]?) fun x => (setV (.val t x) p y).bind fun z => (castV t z).bind fun z' => .pure (.val (.arr n t) (l.set k z'))
    | _ => .fail

def subTy : Ty → List PS → Option Ty
  | t, [] => some t
  | .pair a _, .fst :: p => subTy a p
  | .pair _ b, .snd :: p => subTy b p
  | .arr _ t, .elem _ :: p => subTy t p
  | _, _ => none

/-- Does a value fill a variable of a type? -/
def fits : Ty → V → Bool
  | t, .val u _ => decide (t = u)
  | .pair a b, .pr x y => fits a x && fits b y
  | .slc _, .nil => true
  | .slc _, .hdr _ => true
  | .ptr _, .adr _ _ => true
  | .fn, .clo _ _ _ => true
  | _, _ => false

def zeroV : Ty → AM V
  | .slc _ => .pure .nil
  | .pair a b => (zeroV a).bind fun x => (zeroV b).bind fun y => .pure (mkpr x y)
  | .int k => .pure (.val (.int k) (0 : Int))
  | .bool => .pure (.val .bool false)
  | .str => .pure (.val .str (⟨#[]⟩ : ByteArray))
  | .err => .pure (.val .err false)
  | .unit => .pure (.val .unit ())
  | .arr n t => match t.plain with
    | true => .pure (.val (.arr n t) (List.replicate n t.zero))
    | false => .fail
  | _ => .fail

/-- A row of elements of type t. -/
def withRow {α : Type} (t : Ty) (o : Option Obj) (k : Bool → List t.I → AM α) : AM α := match o with
  | some (.row d u l) => if h : u = t then k d (castL h l) else .fail
  | _ => .fail

def inner (k : Nat) (p : List PS) (t : Ty) (l : List t.I) : AM V := .ask t.I (l[k]?) fun x => getV (.val t x) p

/-- The content of a slice of elements of type t, nothing taken. -/
def peek (strict : Bool) (t : Ty) (v : V) : AM (List t.I) := match v with
  | .nil => .pure []
  | .val u x => if h : u = .slc t then .pure (castI h x) else .fail
  | .hdr i => (must (!strict)).bind fun _ => .getO i fun o => withRow t o fun _ l => .pure l
  | _ => .fail

/-- A value read whole, nothing taken. -/
def peekV (strict : Bool) : (t : Ty) → V → AM t.I
  | .slc t, v => peek strict t v
  | .pair a b, v => match v with
    | .val u x => if h : u = .pair a b then .pure (castI h x) else .fail
    | .pr x y => (peekV strict a x).bind fun x' => (peekV strict b y).bind fun y' => .pure (x', y')
    | _ => .fail
  | .ptr t, v => match v with
    | .val u x => if h : u = .ptr t then .pure (castI h x) else .fail
    | .adr i p => (must (!strict)).bind fun _ => .getO i fun o => match o with
      | some (.box _ c) => (getV c p).bind fun y => peekV strict t y
      | some (.row _ u l) => match p with
        | .elem k :: q => (inner k q u l).bind fun y => castV t y
        | _ => .fail
      | _ => .fail
    | _ => .fail
  | t, v => castV t v

/-- A value taken whole: rows are given away. d: with all that they lead to. -/
def take (d : Bool) : (t : Ty) → V → AM t.I
  | .slc t, v => match v with
    | .nil => .pure []
    | .val u x => match d with
      | false => if h : u = .slc t then .pure (castI h x) else .fail
      | true => .fail
    | .hdr i => .getO i fun o => withRow t o fun d' l => (must (!d || d' || t.flat)).bind fun _ => .putO i .gone (.pure l)
    | _ => .fail
  | .pair a b, v => match v with
    | .val u x => match d && !(Ty.flat (.pair a b)) with
      | false => if h : u = .pair a b then .pure (castI h x) else .fail
      | true => .fail
    | .pr x y => (take d a x).bind fun x' => (take d b y).bind fun y' => .pure (x', y')
    | _ => .fail
  | t, v => match d && !t.flat with
    | false => castV t v
    | true => .fail

mutual
/-- A value handed over as a shape tells. -/
def pack : (s : Sh) → V → AM s.ty.I
  | .ro t, v => take false t v
  | .nl, v => match v with
    | .nil => .pure ()
    | _ => .fail
  | .row d t, v => match v with
    | .nil => .pure []
    | .hdr i => .getO i fun o => match o with
      | some (.opened t' l k q u c) => (must d).bind fun _ => .getO c fun oc => withRow u oc fun d' y => (must (d' || u.flat)).bind fun _ => .ask t'.I (l[k]?) fun x => (setV (.val t' x) q (.val (.slc u) y)).bind fun z => (castV t' z).bind fun z' => if h : t' = t then .putO c .gone (.putO i .gone (.pure (castL h (l.set k z')))) else .fail
      | o => withRow t o fun d' l => (must (d' == d)).bind fun _ => .putO i .gone (.pure l)
    | _ => .fail
  | .pin d t, v => match v with
    | .pin i => .getO i fun o => withRow t o fun d' l => (must (d' == d)).bind fun _ => .putO i .gone (.pure l)
    | _ => .fail
  | .box s, v => match v with
    | .adr i [] => .getO i fun o => match o with
      | some (.box t c) => (must (decide (t = s.mty))).bind fun _ => .putO i .gone (pack s c)
      | _ => .fail
    | _ => .fail
  | .pr a b, v => match v.fst, v.snd with
    | some x, some y => (pack a x).bind fun x' => (pack b y).bind fun y' => .pure (x', y')
    | _, _ => .fail
  | .clo g fs cs, v => match v with
    | .clo h x y => (must (g == h)).bind fun _ => (packC fs x).bind fun x' => (packC cs y).bind fun y' => .pure (x', y')
    | _ => .fail
  | .bld t e, v => match v with
    | .adr i [] => .getO i fun o => match o with
      | some (.bld t' e' x) => (must (t' == t && e' == e)).bind fun _ => .putO i .gone (.pure x)
      | _ => .fail
    | _ => .fail
/-- The same of a chain of values. -/
def packC : (s : Sh) → V → AM s.ty.I
  | .pr a b, v => match v with
    | .pr x y => (pack a x).bind fun x' => (packC b y).bind fun y' => .pure (x', y')
    | _ => .fail
  | .ro .unit, v => match v with
    | .nil => .pure ()
    | _ => .fail
  | _, _ => .fail
end

/-- A new object, at a place where never one was. -/
def newO (i : Nat) (o : Obj) : AM Unit := .getO i fun x => match x with
  | none => .putO i o (.pure ())
  | some _ => .fail
/-- An object that comes back to its place. -/
def againO (i : Nat) (o : Obj) : AM Unit := .getO i fun x => match x with
  | some .gone => .putO i o (.pure ())
  | _ => .fail

/-- No function lies in it. -/
def Sh.data : Sh → Bool
  | .ro _ => true
  | .nl => false
  | .row _ _ => true
  | .pin _ _ => false
  | .box s => s.data
  | .pr a b => a.data && b.data
  | .clo _ _ _ => true
  | .bld _ _ => false

mutual
/-- What came over becomes a value, with objects at places from c on. -/
def unpack : (s : Sh) → s.ty.I → Nat → AM (V × Nat)
  | .ro t, x, c => .pure (.val t x, c)
  | .nl, _, c => .pure (.nil, c)
  | .row d t, x, c => (newO c (.row d t x)).bind fun _ => .pure (.hdr c, c + 1)
  | .pin d t, x, c => (newO c (.row d t x)).bind fun _ => .pure (.pin c, c + 1)
  | .box s, x, c => (must s.data).bind fun _ => (unpack s x (c + 1)).bind fun v => (newO c (.box s.mty v.1)).bind fun _ => .pure (.adr c [], v.2)
  | .pr a b, x, c => (unpack a x.1 c).bind fun v => (unpack b x.2 v.2).bind fun w => .pure (mkpr v.1 w.1, w.2)
  | .clo g fs cs, x, c => (unpackC fs x.1 c).bind fun v => (unpackC cs x.2 v.2).bind fun w => .pure (.clo g v.1 w.1, w.2)
  | .bld t e, x, c => (newO c (.bld t e x)).bind fun _ => .pure (.adr c [], c + 1)
def unpackC : (s : Sh) → s.ty.I → Nat → AM (V × Nat)
  | .pr a b, x, c => (unpack a x.1 c).bind fun v => (unpackC b x.2 v.2).bind fun w => .pure (.pr v.1 w.1, w.2)
  | .ro .unit, _, c => .pure (.nil, c)
  | _, _, _ => .fail
end

mutual
/-- What was lent comes back. -/
def back : (s : Sh) → V → s.ty.I → Nat → AM Nat
  | .ro _, _, _, c => .pure c
  | .nl, _, _, c => .pure c
  | .row d t, v, x, c => match v with
    | .nil => .pure c
    | .hdr i => (againO i (.row d t x)).bind fun _ => .pure c
    | _ => .fail
  | .pin d t, v, x, c => match v with
    | .pin i => (againO i (.row d t x)).bind fun _ => .pure c
    | _ => .fail
  | .box s, v, x, c => match v with
    | .adr i [] => (must s.data).bind fun _ => (unpack s x c).bind fun y => (againO i (.box s.mty y.1)).bind fun _ => .pure y.2
    | _ => .fail
  | .pr a b, v, x, c => match v.fst, v.snd with
    | some v1, some v2 => (back a v1 x.1 c).bind fun c' => back b v2 x.2 c'
    | _, _ => .fail
  | .clo _ fs cs, v, x, c => match v with
    | .clo _ v1 v2 => (backC fs v1 x.1 c).bind fun c' => backC cs v2 x.2 c'
    | _ => .fail
  | .bld t e, v, x, c => match v with
    | .adr i [] => (againO i (.bld t e x)).bind fun _ => .pure c
    | _ => .fail
def backC : (s : Sh) → V → s.ty.I → Nat → AM Nat
  | .pr a b, v, x, c => match v with
    | .pr v1 v2 => (back a v1 x.1 c).bind fun c' => backC b v2 x.2 c'
    | _ => .fail
  | .ro .unit, _, _, c => .pure c
  | _, _, _, _ => .fail
end

/-! ### Operations -/
def constV : Value → V
  | .int k n => .val (.int k) n
  | .bool b => .val .bool b
  | .string b => .val .str b
  | .nilIface => .val .err false
  | .slice none 0 0 => .nil
  | _ => .undef

def ev {α : Type} (x : Operand) (k : V → AM α) : AM α := match x with
  | .tmp n => .getT n k
  | .const v => k (constV v)
  | .func f => k (.clo f .nil .nil)
  | .global _ => .fail

def evs : List Operand → AM (List V)
  | [] => .pure []
  | x :: r => ev x fun v => (evs r).bind fun vs => .pure (v :: vs)

def ret (nt : Nat) (pn : List Nat) (dst : Option Nat) (v : V) : AM Unit := match dst with
  | some n => (must (decide (n < nt) && !pn.contains n)).bind fun _ => .putT n v (.pure ())
  | none => .pure ()

def cmpI (op : BinOp) (x y : Int) : Option Bool := match op with
  | .eql => some (x == y)
  | .neq => some (x != y)
  | .lss => some (decide (x < y))
  | .leq => some (decide (x ≤ y))
  | .gtr => some (decide (x > y))
  | .geq => some (decide (x ≥ y))
  | _ => none

def bitsI (op : BinOp) (k : IntKind) (x y : Int) : Int :=
  let a := BitVec.ofInt k.bits x
  let b := BitVec.ofInt k.bits y
  match op with
  | .and => k.wrap (a &&& b).toNat
  | .or => k.wrap (a ||| b).toNat
  | .xor => k.wrap (a ^^^ b).toNat
  | _ => k.wrap (a &&& ~~~b).toNat

def binI (op : BinOp) (k : IntKind) (x y : Int) : AM V := match op with
  | .add => .pure (.val (.int k) (k.wrap (x + y)))
  | .sub => .pure (.val (.int k) (k.wrap (x - y)))
  | .mul => .pure (.val (.int k) (k.wrap (x * y)))
  | .quo => (guard_ (y != 0)).bind fun _ => .pure (.val (.int k) (k.wrap (x.tdiv y)))
  | .rem => (guard_ (y != 0)).bind fun _ => .pure (.val (.int k) (x.tmod y))
  | .and => .pure (.val (.int k) (bitsI .and k x y))
  | .or => .pure (.val (.int k) (bitsI .or k x y))
  | .xor => .pure (.val (.int k) (bitsI .xor k x y))
  | .andNot => .pure (.val (.int k) (bitsI .andNot k x y))
  | op => match cmpI op x y with
    | some b => .pure (.val .bool b)
    | none => .fail

def shl_ (k : IntKind) (x y : Int) : Int := k.wrap (x * 2 ^ (min y.toNat k.bits))
def shr_ (k : IntKind) (x y : Int) : Int := x.fdiv (2 ^ (min y.toNat k.bits))

def binS (op : BinOp) (x y : ByteArray) : AM V := match op with
  | .add => (guard_ (decide (((x.size + y.size : Nat) : Int) ≤ 4611686018427387904))).bind fun _ => .pure (.val .str (x ++ y))
  | .eql => .pure (.val .bool (x.toList == y.toList))
  | .neq => .pure (.val .bool (!(x.toList == y.toList)))
  | _ => .fail

/-- Is an operand written out? -/
def lit : Operand → Bool
  | .const _ => true
  | _ => false
def binV (k : Bool) (t : Option TI) (op : BinOp) : V → V → AM V
  | .val (.int k) x, .val (.int k') y => match op with
    | .shl => (guard_ (decide (0 ≤ (show Int from y)))).bind fun _ => .pure (.val (.int k) (shl_ k x y))
    | .shr => (guard_ (decide (0 ≤ (show Int from y)))).bind fun _ => .pure (.val (.int k) (shr_ k x y))
    | op => (must (decide (k = k'))).bind fun _ => binI op k x y
  | .val .bool x, .val .bool y => (must (match t with | some i => decide (i.ty = .bool) | none => false)).bind fun _ => match op with
    | .eql => .pure (.val .bool ((show Bool from x) == y))
    | .neq => .pure (.val .bool (!((show Bool from x) == y)))
    | _ => .fail
  | .val .str x, .val .str y => binS op x y
  | .val .err x, .val .err y => (must (k && (match t with | some i => decide (i.ty = .err) | none => false))).bind fun _ => (guard_ (!(show Bool from y))).bind fun _ => match op with
    | .eql => .pure (.val .bool (!(show Bool from x)))
    | .neq => .pure (.val .bool (show Bool from x))
    | _ => .fail
  | .val (.slc u) l, .nil => (must (match t with | some i => decide (i.ty = .slc u) | none => false)).bind fun _ => match op with
    | .eql => .pure (.tup (.val (.slc u) l))
    | .neq => (guard_ (decide ((show List u.I from l).length ≠ 0))).bind fun _ => .pure (.val .bool true)
    | _ => .fail
  | .val u x, .val u' y => (must (match t with | some i => decide (i.ty = u) && u.eqT | none => false)).bind fun _ => if h : u' = u then match op with
      | .eql => .pure (.val .bool (eqV u x (castI h y)))
      | .neq => .pure (.val .bool (!eqV u x (castI h y)))
      | _ => .fail
    else .fail
  | _, _ => .fail

def unV (op : UnOp) : V → AM V
  | .val .bool b => match op with
    | .not => .pure (.val .bool (!(show Bool from b)))
    | _ => .fail
  | .val (.int k) n => match op with
    | .neg => .pure (.val (.int k) (k.wrap (0 - (show Int from n))))
    | .xor => .pure (.val (.int k) (bitsI .xor k (if k.signed then -1 else k.max) n))
    | _ => .fail
  | _ => .fail

def tyOf (t : TypeId) : AM Ty := match T t with
  | some i => .pure i.ty
  | none => .fail

/-- How a strings.Builder lies in memory: a pointer (to itself, or none) and a slice of bytes. -/
def bldTy : Ty := .pair (.ptr .unit) (.pair (.slc (.int .u8)) .unit)
def elemNo (t : TypeId) : TypeId := match T t with
  | some i => i.elem
  | none => 0

def fieldPath : Nat → List PS
  | 0 => [.fst]
  | n + 1 => .snd :: fieldPath n

def tyAt (o : Option Obj) (p : List PS) : Option Ty := match o with
  | some (.box t _) => subTy t p
  | some (.row _ t _) => match p with
    | .elem _ :: q => subTy t q
    | _ => none
  | some (.opened t _ _ _ _ _) => match p with
    | .elem _ :: q => subTy t q
    | _ => none
  | _ => none

/-- A pointer to a variable of type t. -/
def ptrTo (t : Ty) (v : V) : AM Unit := match v with
  | .adr i p => .getO i fun o => must (match tyAt o p with | some u => decide (u = t) | none => false)
  | .val (.ptr u) _ => must (decide (u = t))
  | _ => .fail

/-- A pointer moved on to a part. -/
def along (v : V) (p : List PS) : AM V := match v with
  | .adr i q => .pure (.adr i (q ++ p))
  | .val (.ptr t) x => (getV (.val t x) p).bind fun y => match y with
    | .val u z => .pure (.val (.ptr u) z)
    | _ => .fail
  | _ => .fail

def idx {α : Type} (l : List α) (i : Int) : Option α := if 0 ≤ i then l[i.toNat]? else none

/-- The address of an element: of a slice of elements of type t, or of an array of n of them behind a pointer. -/
def elemS (t : Ty) (v : V) (j : Int) : AM V := match v with
  | .val u l => if h : u = .slc t then .ask t.I (idx (show List t.I from castI h l) j) fun y => .pure (.val (.ptr t) y) else .fail
  | .hdr i => .getO i fun o => match o with
    | some (.opened t' l _ _ _ _) => (must (decide (t' = t))).bind fun _ => (guard_ (decide (0 ≤ j ∧ j < (l.length : Int)))).bind fun _ => .pure (.adr i [.elem j.toNat])
    | o => withRow t o fun _ l => (guard_ (decide (0 ≤ j ∧ j < (l.length : Int)))).bind fun _ => .pure (.adr i [.elem j.toNat])
  | _ => .fail
def elemA (n : Nat) (t : Ty) (v : V) (j : Int) : AM V := match v with
  | .val u l => if h : u = .ptr (.arr n t) then .ask t.I (idx (show List t.I from castI h l) j) fun y => .pure (.val (.ptr t) y) else .fail
  | .adr i p => (ptrTo (.arr n t) v).bind fun _ => (guard_ (decide (0 ≤ j ∧ j < (n : Int)))).bind fun _ => .pure (.adr i (p ++ [.elem j.toNat]))
  | _ => .fail

def loadV (t : Ty) (v : V) : AM V := match v with
  | .pin i => match t with
    | .slc u => .getO i fun o => withRow u o fun _ _ => .pure (.hdr i)
    | _ => .fail
  | v => (ptrTo t v).bind fun _ => match v with
    | .val (.ptr u) x => .pure (.val u x)
    | .adr i p => .getO i fun o => match o with
      | some (.box _ c) => getV c p
      | some (.row d u l) => match p with
        | .elem k :: q => (must (!d || t.flat)).bind fun _ => inner k q u l
        | _ => .fail
      | _ => .fail
    | _ => .fail

/-- A path through fields alone. -/
def noElem : List PS → Bool
  | [] => true
  | .elem _ :: _ => false
  | _ :: p => noElem p
/-- A slice within a row of what is owned whole is taken out, to be written. -/
def openV (c : Nat) (t : Ty) (v : V) : AM V := (ptrTo t v).bind fun _ => match v with
  | .adr i (.elem k :: q) => match t with
    | .slc u => .getO i fun o => match o with
      | some (.row true t' l) => (must (noElem q)).bind fun _ => .ask t'.I (l[k]?) fun x => (getV (.val t' x) q).bind fun y => (castV (.slc u) y).bind fun y' => .putO i .gone ((newO c (.row (!u.flat) u y')).bind fun _ => .putO i (.opened t' l k q u c) (.pure (.hdr c)))
      | _ => .fail
    | _ => .fail
  | _ => .fail

def storeV (t : Ty) (v y : V) : AM Unit := (ptrTo t v).bind fun _ => match v with
  | .adr i p => .getO i fun o => match o with
    | some (.box u c) => (must (fits t y)).bind fun _ => (setV c p y).bind fun z => .putO i (.box u z) (.pure ())
    | some (.row d _ _) => match p with
      | .elem k :: q => (take d t y).bind fun y' => .getO i fun o => match o with
        | some (.row d u l) => .ask u.I (l[k]?) fun x => (setV (.val u x) q (.val t y')).bind fun z => (castV u z).bind fun z' => .putO i (.row d u (l.set k z')) (.pure ())
        | _ => .fail
      | _ => .fail
    | some (.opened _ _ _ _ u0 _) => match p with
      | .elem m :: q' => (must (decide (t = .slc u0))).bind fun _ => (take true (.slc u0) y).bind fun y' => .getO i fun o => match o with
        | some (.opened u l k q _ _) => (must (decide (q' = q))).bind fun _ => (guard_ (decide (m = k))).bind fun _ => .ask u.I (l[k]?) fun x => (setV (.val u x) q (.val (.slc u0) y')).bind fun z => (castV u z).bind fun z' => .putO i (.row true u (l.set k z')) (.pure ())
        | _ => .fail
      | _ => .fail
    | _ => .fail
  | _ => .fail

/-- Where the places of an operation's new objects begin. -/
def base (rid ix : Nat) : Nat := ((rid + 1) * 1000 + ix) * 64

def elemTy (t : TypeId) : AM (Ty × Nat) := match T t with
  | some i => match i.ty, T i.elem with
    | .slc e, some j => (must (decide (e = j.ty) && j.bytes != 0)).bind fun _ => .pure (e, j.bytes)
    | _, _ => .fail
  | none => .fail

def takes (d : Bool) (t : Ty) : List V → AM (List t.I)
  | [] => .pure []
  | v :: r => (take d t v).bind fun x => (takes d t r).bind fun l => .pure (x :: l)

/-- The path of a part of a struct or an array. -/
def partPath (t : Ty) (i : Nat) : List PS := match t with
  | .arr _ _ => [.elem i]
  | _ => fieldPath i

def built (t : Ty) (v : V) : List (Nat × V) → AM V
  | [] => .pure v
  | (i, y) :: r => (must (match subTy t (partPath t i) with | some u => fits u y | none => false)).bind fun _ => (setV v (partPath t i) y).bind fun z => built t z r

def lenV (v : V) : AM Int := match v with
  | .nil => .pure 0
  | .val (.slc t) l => .pure ((show List t.I from l).length : Int)
  | .val .str s => .pure ((show ByteArray from s).size : Int)
  | .val (.arr n _) _ => .pure (n : Int)
  | .hdr i => .getO i fun o => match o with
    | some (.row _ _ l) => .pure (l.length : Int)
    | some (.opened _ l _ _ _ _) => .pure (l.length : Int)
    | _ => .fail
  | _ => .fail

/-- A text of bytes. -/
def strOf (l : List Int) : ByteArray := l.foldl (fun r n => r.push (UInt8.ofNat n.toNat)) ByteArray.empty
def numsOf (s : ByteArray) : List Int := s.data.toList.map fun b => (b.toNat : Int)

/-- What is appended. -/
def tailOf (d : Bool) (t : Ty) (v : V) : AM (List t.I) := match v with
  | .val .str s => match t with
    | .int .u8 => .pure (numsOf s)
    | _ => .fail
  | v => match t.flat with
    | true => peek false t v
    | false => take d (.slc t) v

def maxV : V → V → AM V
  | .val (.int k) x, .val (.int k') y => (must (decide (k = k'))).bind fun _ => .pure (.val (.int k) (if (show Int from y) > x then y else x))
  | _, _ => .fail
def minV : V → V → AM V
  | .val (.int k) x, .val (.int k') y => (must (decide (k = k'))).bind fun _ => .pure (.val (.int k) (if (show Int from y) < x then y else x))
  | _, _ => .fail
def foldV (f : V → V → AM V) : V → List V → AM V
  | v, [] => .pure v
  | v, y :: r => (f v y).bind fun z => foldV f z r

def chain : V → List V
  | .pr a b => a :: chain b
  | _ => []

def mkchain : List V → V
  | [] => .nil
  | a :: r => .pr a (mkchain r)

def partV : V → Nat → Option V
  | .tup v, j => (chain v)[j]?
  | _, _ => none

/-- append(nil, make(.., n)...) -/
def isMake : V → V → Option Int
  | .nil, .val (.int _) n => some n
  | _, _ => none
def isInt : Ty → Bool
  | .int _ => true
  | _ => false
def builtinV (rid ix : Nat) (deep : Bool) (b : Builtin) (ts : List TypeId) (vs : List V) : AM V := match b, vs with
  | .len, [v] => match ts with
    | t :: _ => (tyOf T t).bind fun t => (must (fits t v)).bind fun _ => (lenV v).bind fun n => .pure (.val (.int .i64) n)
    | _ => .fail
  | .cap, [.nil] => match ts with
    | t :: _ => (tyOf T t).bind fun t => (must (match t with | .slc _ => true | _ => false)).bind fun _ => .pure (.val (.int .i64) (0 : Int))
    | _ => .fail
  | .max, v :: r => foldV maxV v r
  | .min, v :: r => foldV minV v r
  | .append, [v, x] => match ts with
    | [t, tx] => match isMake v x with
     | some n => (elemTy T t).bind fun e => (tyOf T tx).bind fun u => (must (isInt u && e.1.plain)).bind fun _ => (guard_ (decide (0 ≤ n ∧ n * e.2 ≤ 140737488355328))).bind fun _ => (newO (base rid ix) (.row (deep && !e.1.flat) e.1 (List.replicate n.toNat e.1.zero))).bind fun _ => .pure (.hdr (base rid ix))
     | none => (elemTy T t).bind fun e => (tyOf T tx).bind fun u => (must (match u, x with | .slc _, .nil => true | .slc _, .hdr _ => true | .slc _, .val (.slc _) _ => true | .str, .val .str _ => true | _, _ => false)).bind fun _ => match v with
      | .nil => (tailOf (deep && !e.1.flat) e.1 x).bind fun y => (guard_ (decide (y.length * e.2 ≤ 140737488355328))).bind fun _ => (newO (base rid ix) (.row (deep && !e.1.flat) e.1 y)).bind fun _ => .pure (.hdr (base rid ix))
      | .hdr i => .getO i fun o => withRow e.1 o fun d _ => (tailOf d e.1 x).bind fun y => .getO i fun o => withRow e.1 o fun _ l => (guard_ (decide ((l.length + y.length) * e.2 ≤ 140737488355328))).bind fun _ => .putO i .gone ((newO (base rid ix) (.row d e.1 (l ++ y))).bind fun _ => .pure (.hdr (base rid ix)))
      | _ => .fail
    | _ => .fail
  | .copy, [v, x] => match ts with
    | t :: _ => (elemTy T t).bind fun e => match v with
      | .hdr i => (must e.1.flat).bind fun _ => (peek false e.1 x).bind fun y => .getO i fun o => withRow e.1 o fun d l => .putO i (.row d e.1 (y.take l.length ++ l.drop y.length)) (.pure (.val (.int .i64) ((Nat.min y.length l.length : Nat) : Int)))
      | _ => .fail
    | _ => .fail
  | _, _ => .fail

def numV (o : Option V) (d : Int) : AM Int := match o with
  | none => .pure d
  | some (.val (.int _) n) => .pure n
  | _ => .fail

def sliceV (kp : Option Nat) (t : Ty) (v : V) (lo hi : Option V) : AM V := match t with
  | .str => match v with
    | .val .str s => (numV lo 0).bind fun a => (numV hi ((show ByteArray from s).size : Int)).bind fun b => (guard_ (decide (0 ≤ a ∧ a ≤ b ∧ b ≤ ((show ByteArray from s).size : Int)))).bind fun _ => .pure (.val .str ((show ByteArray from s).extract a.toNat b.toNat))
    | _ => .fail
  | .slc t => match v with
    | .nil => (numV lo 0).bind fun a => (numV hi 0).bind fun b => (guard_ (decide (a = 0 ∧ b = 0))).bind fun _ => .pure .nil
    | .val u l => if h : u = .slc t then (numV lo 0).bind fun a => (numV hi ((show List t.I from castI h l).length : Int)).bind fun b => (guard_ (decide (0 ≤ a ∧ a ≤ b ∧ b ≤ ((show List t.I from castI h l).length : Int)))).bind fun _ => .pure (.val (.slc t) (((show List t.I from castI h l).take b.toNat).drop a.toNat)) else .fail
    | .hdr i => match kp with
      | none => .getO i fun o => withRow t o fun _ l => (numV lo 0).bind fun a => (numV hi (l.length : Int)).bind fun b => (guard_ (decide (0 ≤ a ∧ a ≤ b ∧ b ≤ (l.length : Int)))).bind fun _ => .putO i .gone (.pure (.val (.slc t) ((l.take b.toNat).drop a.toNat)))
      | some c => match lo, hi with
        | none, some h => .getO i fun o => withRow t o fun d l => (must (!d)).bind fun _ => (numV (some h) 0).bind fun b => (guard_ (decide (0 ≤ b ∧ b ≤ (l.length : Int)))).bind fun _ => .putO i .gone ((newO c (.row false t (l.take b.toNat))).bind fun _ => .pure (.hdr c))
        | _, _ => .fail
    | _ => .fail
  | _ => .fail

def V.solid : V → Bool
  | .undef => false
  | .skip => false
  | .tup _ => false
  | _ => true

/-- Nothing that is read only lies inside of it, but for what is told whole. -/
def Sh.closed : Sh → Bool
  | .ro t => t.flat
  | .nl => true
  | .row d t => d || t.flat
  | .pin _ _ => false
  | .box s => s.closed
  | .pr a b => a.closed && b.closed
  | .clo _ _ _ => false
  | .bld _ _ => true

def Sh.isRo : Sh → Bool
  | .ro _ => true
  | _ => false

/-- What is handed over is taken; what is only read comes behind that. -/
def packs : (ps : List (Sh × Bool)) → List V → AM (argTy ps).I
  | [], [] => .pure ()
  | (s, _) :: r, v :: vs => (match s.isRo with | true => AM.pure s.ty.zero | false => pack s v).bind fun x => (packs r vs).bind fun y => .pure (x, y)
  | _, _ => .fail
def peeks (strict : Bool) : (ps : List (Sh × Bool)) → List V → (argTy ps).I → AM (argTy ps).I
  | [], _, _ => .pure ()
  | (s, _) :: r, v :: vs, x => (match s.isRo with | true => peekV strict s.ty v | false => AM.pure x.1).bind fun y => (peeks strict r vs x.2).bind fun z => .pure (y, z)
  | _ :: _, [], _ => .fail
def backs : (ps : List (Sh × Bool)) → List V → (outTy ps).I → Nat → AM Nat
  | [], _, _, c => .pure c
  | (s, true) :: r, v :: vs, x, c => (back s v x.1 c).bind fun c' => backs r vs x.2 c'
  | (_, false) :: r, _ :: vs, x, c => backs r vs x c
  | _ :: _, [], _, _ => .fail
def unpacks : (ps : List Sh) → (resTy ps).I → Nat → AM (List V × Nat)
  | [], _, c => .pure ([], c)
  | s :: r, x, c => (unpack s x.1 c).bind fun v => (unpacks r x.2 v.2).bind fun w => .pure (v.1 :: w.1, w.2)
def freeze (v : V) : AM V := match v with
  | .hdr i => .getO i fun o => match o with
    | some (.row _ t l) => .putO i .gone (.pure (.val (.slc t) l))
    | _ => .fail
  | v => .pure v
def iceMore (i : Nat) (y : V) : List Nat → AM Unit
  | [] => .pure ()
  | n :: r => .getT n fun v => match v with
    | .hdr j => match i == j with
      | true => .putT n y (iceMore i y r)
      | false => iceMore i y r
    | _ => iceMore i y r
/-- All rows of a struct are only read from now on. -/
def frz : V → AM V
  | .pr a b => (frz a).bind fun x => (frz b).bind fun y => .pure (mkpr x y)
  | .hdr i => freeze (.hdr i)
  | v => .pure v
/-- A row of which a part is taken out is made whole. -/
def shut (i : Nat) (t : Ty) : AM Unit := (pack (.row true t) (.hdr i)).bind fun l => .putO i (.row true t l) (.pure ())
/-- The row that a tmp holds is only read from now on, and so are the others that hold it; an opened one is shut. -/
def iceV : List Nat → AM Unit
  | [] => .pure ()
  | n :: r => .getT n fun v => match v with
    | .hdr i => .getO i fun o => match o with
      | some (.opened t _ _ _ _ _) => (shut i t).bind fun _ => iceV r
      | _ => (freeze (.hdr i)).bind fun y => .putT n y (iceMore i y r)
    | .pr a b => (frz (.pr a b)).bind fun y => .putT n y (iceV r)
    | _ => .pure ()
def freezes : List V → AM (List V)
  | [] => .pure []
  | v :: r => (freeze v).bind fun x => (freezes r).bind fun y => .pure (x :: y)

end

abbrev CallF (C : Nat → Inst) := (j : Nat) → (argTy (C j).params).I → Option ((resTy (C j).res).I × (outTy (C j).params).I)

section
variable (T : Nat → Option TI) (C : Nat → Inst) (F : CallF C) (I : Inst)

def callV (rid ix : Nat) (f : FuncId) (vs : List V) : AM V :=
  let j := I.callee rid ix
  (must (decide ((C j).f = f) && ((C j).strict || ((C j).res.all Sh.closed && (C j).params.all fun x => !x.2 || x.1.closed)))).bind fun _ => (packs (C j).params vs).bind fun x => (peeks (C j).strict (C j).params vs x).bind fun x => .ask _ (F j x) fun r => (backs (C j).params vs r.2 (base rid ix + 32)).bind fun _ => (unpacks (C j).res r.1 (base rid ix)).bind fun ys =>
    (match I.frz rid ix with | true => freezes ys.1 | false => .pure ys.1).bind fun ys => match ys with
      | [y] => .pure y
      | ys => .pure (.tup (mkchain ys))

def stepOp (rid ix : Nat) (o : Oper) : AM Unit := match o.op with
  | .move x => ev x fun v => ret I.nt I.pins o.dst v
  | .assign x => ev x fun v => ret I.nt I.pins o.dst v
  | .pick c a b => ev c fun vc => ev a fun va => ev b fun vb => match vc with
    | .val .bool p => match va, vb with
      | .val t x, .val u y => if h : u = t then ret I.nt I.pins o.dst (.val t (bif (show Bool from p) then x else castI h y)) else match (show Bool from p) with
        | true => ret I.nt I.pins o.dst va
        | false => ret I.nt I.pins o.dst vb
      | _, _ => match (show Bool from p) with
        | true => ret I.nt I.pins o.dst va
        | false => ret I.nt I.pins o.dst vb
    | _ => .fail
  | .alloc e => match I.frz rid ix with
    | false => (tyOf T e).bind fun t => (zeroV t).bind fun v => (newO (base rid ix) (.box t v)).bind fun _ => ret I.nt I.pins o.dst (.adr (base rid ix) [])
    | true => (tyOf T e).bind fun t => (must (decide (t = bldTy))).bind fun _ => (newO (base rid ix) (.bld e (elemNo T e) ⟨#[]⟩)).bind fun _ => ret I.nt I.pins o.dst (.adr (base rid ix) [])
  | .box e x => (tyOf T e).bind fun t => ev x fun v => (must (fits t v)).bind fun _ => (newO (base rid ix) (.box t v)).bind fun _ => match I.frz rid ix with
    | false => ret I.nt I.pins o.dst (.adr (base rid ix) [])
    | true => match v with
      | .hdr i => .putO (base rid ix) .gone (ret I.nt I.pins o.dst (.pin i))
      | _ => .fail
  | .build t ps => (tyOf T t).bind fun t => (must t.isAgg).bind fun _ => (zeroV t).bind fun v => (evs (ps.toList.map (·.2))).bind fun ys => (built t v ((ps.toList.map (·.1)).zip ys)).bind fun z => ret I.nt I.pins o.dst z
  | .buildSlice t n ps => (elemTy T t).bind fun e => (must (decide (ps.toList.map (·.1) = List.range n) && decide (n * e.1.size ≤ 16777216))).bind fun _ => (evs (ps.toList.map (·.2))).bind fun ys => (takes (I.deep rid ix && !e.1.flat) e.1 ys).bind fun l => (newO (base rid ix) (.row (I.deep rid ix && !e.1.flat) e.1 l)).bind fun _ => match I.frz rid ix with
    | true => (freeze (.hdr (base rid ix))).bind fun v => ret I.nt I.pins o.dst v
    | false => ret I.nt I.pins o.dst (.hdr (base rid ix))
  | .makeSlice t n c => (elemTy T t).bind fun e => ev n fun vn => ev c fun vc => (must e.1.plain).bind fun _ => match vn, vc with
    | .val (.int _) n, .val (.int _) c => (guard_ (decide ((show Int from n) = c ∧ 0 ≤ (show Int from n) ∧ (show Int from n) * e.2 ≤ 140737488355328))).bind fun _ => (newO (base rid ix) (.row (I.deep rid ix && !e.1.flat) e.1 (List.replicate (show Int from n).toNat e.1.zero))).bind fun _ => ret I.nt I.pins o.dst (.hdr (base rid ix))
    | _, _ => .fail
  | .load t a => (tyOf T t).bind fun t => ev a fun v => (match I.deep rid ix with | true => openV (base rid ix) t v | false => loadV t v).bind fun y => ret I.nt I.pins o.dst y
  | .store t a x => (tyOf T t).bind fun t => ev a fun v => ev x fun y => (storeV t v y).bind fun _ => ret I.nt I.pins o.dst .undef
  | .nilCheck x => ev x fun v => match v with
    | .adr _ _ => ret I.nt I.pins o.dst v
    | .val (.ptr _) _ => ret I.nt I.pins o.dst v
    | _ => .fail
  | .binOp op t x y _ => ev x fun a => ev y fun b => (binV (lit x || lit y) (T t) op a b).bind fun v => ret I.nt I.pins o.dst v
  | .unOp op _ x => ev x fun a => (unV op a).bind fun v => ret I.nt I.pins o.dst v
  | .convert s t x => (tyOf T s).bind fun _ => (tyOf T t).bind fun t => ev x fun v => match t, v with
    | .int k, .val (.int _) n => ret I.nt I.pins o.dst (.val (.int k) (k.wrap n))
    | .str, .val .str s => ret I.nt I.pins o.dst (.val .str s)
    | .str, .val (.slc (.int .u8)) l => (elemTy T s).bind fun e => (must (decide (e.1 = .int .u8))).bind fun _ => ret I.nt I.pins o.dst (.val .str (strOf l))
    | _, _ => .fail
  | .fieldAddr s x f => (tyOf T s).bind fun t => ev x fun v => (ptrTo t v).bind fun _ => (must (match subTy t (fieldPath f) with | some u => decide (u.size ≠ 0) | none => false)).bind fun _ => (along v (fieldPath f)).bind fun y => ret I.nt I.pins o.dst y
  | .field s x f => (tyOf T s).bind fun t => ev x fun v => (must (fits t v && (subTy t (fieldPath f)).isSome)).bind fun _ => (getV v (fieldPath f)).bind fun y => ret I.nt I.pins o.dst y
  | .indexAddr s x j => (tyOf T s).bind fun t => ev x fun v => ev j fun w => match t, w with
    | .slc t, .val (.int _) n => (elemS t v n).bind fun y => ret I.nt I.pins o.dst y
    | .arr m t, .val (.int _) n => (elemA m t v n).bind fun y => ret I.nt I.pins o.dst y
    | _, _ => .fail
  | .index s x j => (tyOf T s).bind fun t => ev x fun v => ev j fun w => match t, v, w with
    | .arr m t, .val u l, .val (.int _) n => if h : u = .arr m t then .ask t.I (idx (show List t.I from castI h l) n) fun y => ret I.nt I.pins o.dst (.val t y) else .fail
    | .str, .val .str s, .val (.int _) n => .ask Int (idx (numsOf s) n) fun y => ret I.nt I.pins o.dst (.val (.int .u8) y)
    | _, _, _ => .fail
  | .slice s x lo hi mx => match mx with
    | some m => match lo, hi, m with
      | none, some (.const (.int _ 0)), .const (.int _ 0) => (tyOf T s).bind fun t => match t with
        | .slc u => ev x fun v => (must (match v with | .val w _ => decide (w = .slc u) | _ => false)).bind fun _ => (newO (base rid ix) (.row false u [])).bind fun _ => ret I.nt I.pins o.dst (.hdr (base rid ix))
        | _ => .fail
      | _, _, _ => .fail
    | none => let kp := match I.deep rid ix with | true => some (base rid ix) | false => none
      (tyOf T s).bind fun t => ev x fun v => match lo, hi with
      | none, none => (sliceV kp t v none none).bind fun y => ret I.nt I.pins o.dst y
      | some a, none => ev a fun a => (sliceV kp t v (some a) none).bind fun y => ret I.nt I.pins o.dst y
      | none, some b => ev b fun b => (sliceV kp t v none (some b)).bind fun y => ret I.nt I.pins o.dst y
      | some a, some b => ev a fun a => ev b fun b => (sliceV kp t v (some a) (some b)).bind fun y => ret I.nt I.pins o.dst y
  | .extract x j => ev x fun v => match partV v j with
    | some y => ret I.nt I.pins o.dst y
    | none => .fail
  | .makeFunc g fs cs => match g with
    | .func g => (evs fs.toList).bind fun a => (evs cs.toList).bind fun b => (must (a.all V.solid && b.all V.solid)).bind fun _ => ret I.nt I.pins o.dst (.clo g (mkchain a) (mkchain b))
    | _ => .fail
  | .call c => match c.callee with
    | .builtin b => (evs c.args.toList).bind fun vs => (builtinV T rid ix (I.deep rid ix) b c.argTypes.toList vs).bind fun v => ret I.nt I.pins o.dst v
    | .value f => ev f fun g => (evs c.args.toList).bind fun vs => match g with
      | .clo g a b => (callV C F I rid ix g (chain a ++ vs ++ chain b)).bind fun v => ret I.nt I.pins o.dst v
      | _ => .fail
    | .invoke _ _ => .fail
  | _ => .fail

/-- An operation under its guard. -/
def stepG (rid ix : Nat) (ops : Array Oper) (o : Oper) : AM Unit := (iceV (I.ice rid ix)).bind fun _ => match o.guard with
  | none => stepOp T C F I rid ix o
  | some (j, want) => match ops[j]? with
    | some g => match g.dst with
      | some n => match want with
        | true => .test n (stepOp T C F I rid ix o) (ret I.nt I.pins o.dst .skip) (ret I.nt I.pins o.dst .skip)
        | false => .test n (ret I.nt I.pins o.dst .skip) (stepOp T C F I rid ix o) (ret I.nt I.pins o.dst .skip)
      | none => .fail
    | none => .fail

def meets (a b : List AM.Loc) : Bool := a.any fun x => b.contains x
/-- May two operations change places? -/
def apart (a b : AM.Log) : Bool := !(meets a.wr b.rd) && !(meets a.wr b.wr) && !(meets a.rd b.wr)

/-- Which operations an operation stands behind, as a number's bits. -/
def befores (ops : Array Oper) : List Nat := CheckFast.beforeL ops.toList 0 []

def logsOk1 (bs : List Nat) (j : Nat) (g : AM.Log) : Nat → List AM.Log → Bool
  | _, [] => true
  | i, h :: r => ((bs.getD i 0).testBit j || apart g h) && logsOk1 bs j g (i + 1) r
def logsOk (bs : List Nat) : Nat → List AM.Log → Bool
  | _, [] => true
  | j, g :: r => logsOk1 bs j g (j + 1) r && logsOk bs (j + 1) r

/-- The edges that bind lead back. -/
def edgesOk : List Oper → Nat → Bool
  | [], _ => true
  | o :: r, i => (o.after.toList.all fun e => !Region.binds .any e || decide (e.on < i)) && edgesOk r (i + 1)

def runOps {R : Type} (rid : Nat) (ops : Array Oper) : List Oper → Nat → St → List AM.Log → (St → List AM.Log → Option R) → Option R
  | [], _, s, gs, κ => κ s gs
  | o :: r, ix, s, gs, κ => (stepG T C F I rid ix ops o).runK s ⟨[], []⟩ fun _ s' g => runOps rid ops r (ix + 1) s' (g :: gs) κ

inductive X where
  | normal | exit (id : Nat) | ret

/-- The slots that are told as the same come first. -/
def sames : List Sl → AM Unit
  | [] => .pure ()
  | .same n m :: r => .getT n fun v => .getT m fun w => match v, w with
    | .hdr i, .hdr j => (must (i == j)).bind fun _ => sames r
    | .adr i [], .adr j [] => (must (i == j)).bind fun _ => sames r
    | _, _ => .fail
  | .own _ _ :: r => sames r
  | .elt n m t :: r => .getT n fun v => .getT m fun w => match v, w with
    | .adr i [.elem _], .hdr j => (must (i == j)).bind fun _ => .getO i fun o => withRow t o fun _ _ => sames r
    | _, _ => .fail
def packOwn : (l : List Sl) → AM (slTy l).I
  | [] => .pure ()
  | .own n s :: r => .getT n fun v => (pack s v).bind fun x => (packOwn r).bind fun y => .pure (x, y)
  | .same _ _ :: r => packOwn r
  | .elt n _ _ :: r => .getT n fun v => match v with
    | .adr _ [.elem k] => (packOwn r).bind fun y => .pure ((k : Int), y)
    | _ => .fail
def packLoop (l : List Sl) : AM (slTy l).I := (sames l).bind fun _ => packOwn l
def unpackOwn : (l : List Sl) → (slTy l).I → Nat → AM Unit
  | [], _, _ => .pure ()
  | .own n s :: r, x, c => (unpack s x.1 c).bind fun v => .putT n v.1 (unpackOwn r x.2 v.2)
  | .same _ _ :: r, x, c => unpackOwn r x c
  | .elt _ _ _ :: r, x, c => unpackOwn r x.2 c
def setSames : (l : List Sl) → (slTy l).I → AM Unit
  | [], _ => .pure ()
  | .same n m :: r, x => .getT m fun w => .putT n w (setSames r x)
  | .own _ _ :: r, x => setSames r x.2
  | .elt n m t :: r, x => .getT m fun w => match w with
    | .hdr i => .getO i fun o => withRow t o fun _ _ => .putT n (.adr i [.elem (Int.toNat x.1)]) (setSames r x.2)
    | _ => .fail
def unpackLoop (l : List Sl) (x : (slTy l).I) : AM Unit := (unpackOwn l x 1000000000).bind fun _ => setSames l x

def loopK {σ R : Type} (f : σ → (σ → Option R) → Option R) : Nat → σ → Option R
  | 0, _ => none
  | k + 1, x => f x (loopK f k)

/-- What two ways come to, if it is the same. -/
noncomputable def both {α : Type} (a b : Option α) : Option α := open Classical in if a = b then a else none
theorem both_some {α : Type} {a b : Option α} {y : α} (h : both a b = some y) : a = some y ∧ b = some y := by
  unfold both at h
  split at h
  · rename_i e; exact ⟨h, e ▸ h⟩
  · cases h
theorem both_same {α : Type} (a : Option α) : both a a = a := by
  unfold both
  rw [if_pos rfl]

def g0 : AM.Log := ⟨[], []⟩

noncomputable def runC {R : Type} (k : Nat) : Code → Nat → St → (X → St → Option R) → Option R
  | .skip, _, s, κ => κ .normal s
  | .region rid ops draw, _, s, κ => runOps T C F I rid ops ops.toList 0 s [] fun s' gs => match draw with
    | false => κ .normal s'
    | true => match edgesOk ops.toList 0 && logsOk (befores ops) 0 gs.reverse with
      | true => κ .normal s'
      | false => none
  | .seq a b, blk, s, κ => runC k a blk s fun e s' => match e with
    | .normal => runC k b blk s' κ
    | e => κ e s'
  | .cond c a b, blk, s, κ => match c with
    | .tmp n => match s.tm n with
      | .val .bool p => if p = true then runC k a blk (s.putT n (.val .bool true)) κ else runC k b blk (s.putT n (.val .bool false)) κ
      | .tup (.val (.slc u) l) => if decide ((show List u.I from l).length ≠ 0) = true then runC k b blk (s.putT n (.val .bool false)) κ else both (runC k a blk (s.putT n (.val .bool true)) κ) (runC k b blk (s.putT n (.val .bool false)) κ)
      | _ => none
    | .const (.bool true) => runC k a blk s κ
    | .const (.bool false) => runC k b blk s κ
    | _ => none
  | .block id c, _, s, κ => runC k c id s fun e s' => match e with
    | .exit j => match j == id with
      | true => κ .normal s'
      | false => κ (.exit j) s'
    | e => κ e s'
  | .loop c, blk, s, κ => (packLoop (I.loops blk)).runK s g0 fun x _ _ => loopK (fun x again => (unpackLoop (I.loops blk) x).runK St.empty g0 fun _ s' _ => runC k c blk s' fun e s'' => match e with
      | .normal => (packLoop (I.loops blk)).runK s'' g0 fun x' _ _ => again x'
      | e => κ e s'') k x
  | .exit id, _, s, κ => κ (.exit id) s
  | .ret, _, s, κ => κ .ret s
  | _, _, _, _ => none

def initAM : (ps : List (Sh × Bool)) → (argTy ps).I → Nat → Nat → AM Unit
  | [], _, _, _ => .pure ()
  | (s, _) :: r, x, n, c => (unpack s x.1 c).bind fun v => .putT n v.1 (initAM r x.2 (n + 1) v.2)
def packRes : (rs : List Sh) → List ResultVar → AM (resTy rs).I
  | [], [] => .pure ()
  | s :: r, .tmp n :: ns => .getT n fun v => (pack s v).bind fun x => (packRes r ns).bind fun y => .pure (x, y)
  | s :: r, .cell n t :: ns => (tyOf T t).bind fun t => .getT n fun v => (loadV t v).bind fun v => (pack s v).bind fun x => (packRes r ns).bind fun y => .pure (x, y)
  | _, _ => .fail
def packOut (pn : List Nat) : (ps : List (Sh × Bool)) → Nat → AM (outTy ps).I
  | [], _ => .pure ()
  | (s, true) :: r, n => (must (pn.contains n)).bind fun _ => .getT n fun v => (pack s v).bind fun x => (packOut pn r (n + 1)).bind fun y => .pure (x, y)
  | (_, false) :: r, n => packOut pn r (n + 1)

noncomputable def runCode (k : Nat) (x : (argTy I.params).I) : Option ((resTy I.res).I × (outTy I.params).I) :=
  (must (decide (I.params.length ≤ I.nt) && I.pins.all fun n => decide (n < I.params.length))).runK St.empty g0 fun _ _ _ => (initAM I.params x 0 2000000000).runK St.empty g0 fun _ s _ => runC T C F I k I.code 0 s fun e s' =>
    let fin := (packRes T I.res I.slots).runK s' g0 fun r s'' _ => (packOut I.pins I.params 0).runK s'' g0 fun o _ _ => some (r, o)
    match e with
    | .ret => fin
    | .normal => fin
    | .exit _ => none
noncomputable def runInst (k : Nat) (x : (argTy I.params).I) : Option ((resTy I.res).I × (outTy I.params).I) := match I.ext with
  | some f => f x
  | none => runCode T C F I k x
end

noncomputable def call (T : Nat → Option TI) (C : Nat → Inst) : Nat → CallF C
  | 0 => fun _ _ => none
  | n + 1 => fun j x => runInst T C (call T C n) (C j) n x
end Go.Fw

/- What the abstract values say of memory, and how that is kept. -/
namespace Go.Fw

/-! ### Lists of cells -/
def cellsAt (w : World) (a : Addr) (cs : List Value) : Prop := ∀ i v, cs[i]? = some v → w.cell? (a.add i) = some v

theorem add_add (a : Addr) (i j : Nat) : (a.add i).add j = a.add (i + j) := by
  unfold Addr.add
  by_cases hi : i = 0 <;> by_cases hj : j = 0 <;> simp [hi, hj, Nat.add_assoc]
theorem add_zero (a : Addr) : a.add 0 = a := by simp [Addr.add]
theorem block_add (a : Addr) (i : Nat) : (a.add i).block = a.block := by unfold Addr.add; split <;> rfl

theorem cellsAt_nil (w : World) (a : Addr) : cellsAt w a [] := by intro i v h; simp at h
theorem cellsAt_append {w : World} {a : Addr} {c d : List Value} (h : cellsAt w a (c ++ d)) : cellsAt w a c ∧ cellsAt w (a.add c.length) d := by
  constructor
  · intro i v hv
    exact h i v (by rw [List.getElem?_append_left]; exact hv; exact (List.getElem?_eq_some_iff.1 hv).1)
  · intro i v hv
    rw [add_add]
    exact h _ v (by rw [List.getElem?_append_right (by omega)]; simpa using hv)
theorem cellsAt_join {w : World} {a : Addr} {c d : List Value} (h : cellsAt w a c) (k : cellsAt w (a.add c.length) d) : cellsAt w a (c ++ d) := by
  intro i v hv
  by_cases hi : i < c.length
  · rw [List.getElem?_append_left hi] at hv; exact h i v hv
  · rw [List.getElem?_append_right (by omega)] at hv
    have := k _ v hv
    rwa [add_add, show c.length + (i - c.length) = i by omega] at this
theorem cellsAt_keep {w w' : World} {a : Addr} {cs : List Value} (h : cellsAt w a cs) (hk : w'.heap[a.block]? = w.heap[a.block]?) : cellsAt w' a cs := by
  intro i v hv
  have := h i v hv
  unfold World.cell? at this ⊢
  rw [block_add] at this ⊢
  rw [hk]; exact this

section
variable {α : Type}
def RepL (R : α → List Value → Prop) : List α → List Value → Prop
  | [], cs => cs = []
  | x :: l, cs => ∃ c d, cs = c ++ d ∧ R x c ∧ RepL R l d

variable {R R' : α → List Value → Prop}
theorem RepL.mono (h : ∀ x c, R x c → R' x c) : ∀ {l : List α} {cs : List Value}, RepL R l cs → RepL R' l cs
  | [], _, hl => hl
  | _ :: _, _, ⟨c, d, e, hx, hl⟩ => ⟨c, d, e, h _ _ hx, RepL.mono h hl⟩
theorem RepL.mono_mem : ∀ {l : List α} {cs : List Value}, (∀ x ∈ l, ∀ c, R x c → R' x c) → RepL R l cs → RepL R' l cs
  | [], _, _, hl => hl
  | _ :: _, _, h, ⟨c, d, e, hx, hl⟩ => ⟨c, d, e, h _ (by simp) _ hx, RepL.mono_mem (fun x hx => h x (by simp [hx])) hl⟩
theorem RepL.len {n : Nat} (h : ∀ x c, R x c → c.length = n) : ∀ {l : List α} {cs : List Value}, RepL R l cs → cs.length = l.length * n
  | [], _, hl => by rw [show _ = [] from hl]; simp
  | x :: l, cs, ⟨c, d, e, hx, hl⟩ => by
    have := RepL.len h hl
    have := h _ _ hx
    subst e
    simp [*, Nat.add_mul, Nat.add_comm]
theorem RepL.append : ∀ {l m : List α} {cs ds : List Value}, RepL R l cs → RepL R m ds → RepL R (l ++ m) (cs ++ ds)
  | [], _, _, _, hl, hm => by rw [show _ = [] from hl]; exact hm
  | x :: l, m, cs, ds, ⟨c, d, e, hx, hl⟩, hm => ⟨c, d ++ ds, by rw [e, List.append_assoc], hx, RepL.append hl hm⟩
theorem RepL.split : ∀ {l m : List α} {cs : List Value}, RepL R (l ++ m) cs → ∃ c d, cs = c ++ d ∧ RepL R l c ∧ RepL R m d
  | [], _, cs, h => ⟨[], cs, rfl, rfl, h⟩
  | x :: l, m, cs, ⟨c, d, e, hx, hl⟩ => by
    obtain ⟨c', d', e', h1, h2⟩ := RepL.split (l := l) hl
    exact ⟨c ++ c', d', by rw [e, e', List.append_assoc], ⟨c, c', rfl, hx, h1⟩, h2⟩
theorem RepL.one {x : α} {c : List Value} (h : R x c) : RepL R [x] c := ⟨c, [], by simp, h, rfl⟩
theorem RepL.of_one {x : α} {c : List Value} (h : RepL R [x] c) : R x c := by
  obtain ⟨c', d, e, hx, hd⟩ := h
  rw [show d = [] from hd] at e
  simpa [e] using hx
theorem RepL.replicate {x : α} {c : List Value} (h : R x c) : ∀ n, RepL R (List.replicate n x) (List.replicate n c).flatten
  | 0 => rfl
  | n + 1 => ⟨c, _, by simp [List.replicate_succ], h, RepL.replicate h n⟩
/-- An element's cells, and another element in its place. -/
theorem RepL.at {n : Nat} (hn : ∀ x c, R x c → c.length = n) {l : List α} {cs : List Value} (h : RepL R l cs) {k : Nat} {x : α} (hk : l[k]? = some x) :
    ∃ c₁ c c₂, cs = c₁ ++ (c ++ c₂) ∧ c₁.length = k * n ∧ c.length = n ∧ R x c ∧ ∀ y d, R y d → RepL R (l.set k y) (c₁ ++ (d ++ c₂)) := by
  obtain ⟨hlt, hx⟩ := List.getElem?_eq_some_iff.1 hk
  have hl : l = l.take k ++ x :: l.drop (k + 1) := by rw [← hx]; simp
  rw [hl] at h
  obtain ⟨c₁, d, e, h1, c, c₂, e', h2, h3⟩ := RepL.split h
  have l1 := RepL.len hn h1
  refine ⟨c₁, c, c₂, by rw [e, e'], ?_, hn _ _ h2, h2, fun y d hy => ?_⟩
  · rw [l1, List.length_take, Nat.min_eq_left (by omega)]
  · rw [List.set_eq_take_append_cons_drop, if_pos hlt]
    exact RepL.append h1 ⟨d, c₂, rfl, hy, h3⟩
theorem RepL.take_drop {n : Nat} (hn : ∀ x c, R x c → c.length = n) {l : List α} {cs : List Value} (h : RepL R l cs) (k : Nat) (hk : k ≤ l.length) :
    ∃ c d, cs = c ++ d ∧ c.length = k * n ∧ RepL R (l.take k) c ∧ RepL R (l.drop k) d := by
  rw [← List.take_append_drop k l] at h
  obtain ⟨c, d, e, h1, h2⟩ := RepL.split h
  refine ⟨c, d, e, ?_, h1, h2⟩
  rw [RepL.len hn h1, List.length_take, Nat.min_eq_left hk]

/-- Elements that own memory. -/
def OwnL (R : α → List Value → List Nat → Prop) : List α → List Value → List Nat → Prop
  | [], cs, F => cs = [] ∧ F = []
  | x :: l, cs, F => ∃ c d F1 F2, cs = c ++ d ∧ F = F1 ++ F2 ∧ R x c F1 ∧ OwnL R l d F2
variable {Q Q' : α → List Value → List Nat → Prop}
theorem OwnL.mono_mem : ∀ {l : List α} {cs : List Value} {F : List Nat}, (∀ x c G, (∀ b ∈ G, b ∈ F) → Q x c G → Q' x c G) → OwnL Q l cs F → OwnL Q' l cs F
  | [], _, _, _, hl => hl
  | _ :: _, _, _, h, ⟨c, d, F1, F2, e, eF, hx, hl⟩ => ⟨c, d, F1, F2, e, eF, h _ _ _ (fun b hb => by simp [eF, hb]) hx, OwnL.mono_mem (fun x c G hG => h x c G fun b hb => by simp [eF, hG b hb]) hl⟩
theorem OwnL.len {n : Nat} (h : ∀ x c F, Q x c F → c.length = n) : ∀ {l : List α} {cs : List Value} {F : List Nat}, OwnL Q l cs F → cs.length = l.length * n
  | [], _, _, hl => by rw [hl.1]; simp
  | x :: l, cs, _, ⟨c, d, F1, F2, e, _, hx, hl⟩ => by
    have := OwnL.len h hl
    have := h _ _ _ hx
    subst e
    simp [*, Nat.add_mul, Nat.add_comm]
theorem OwnL.append : ∀ {l m : List α} {cs ds : List Value} {F G : List Nat}, OwnL Q l cs F → OwnL Q m ds G → OwnL Q (l ++ m) (cs ++ ds) (F ++ G)
  | [], _, _, _, _, _, hl, hm => by rw [hl.1, hl.2]; exact hm
  | x :: l, m, cs, ds, F, G, ⟨c, d, F1, F2, e, eF, hx, hl⟩, hm => ⟨c, d ++ ds, F1, F2 ++ G, by rw [e, List.append_assoc], by rw [eF, List.append_assoc], hx, OwnL.append hl hm⟩
theorem OwnL.split : ∀ {l m : List α} {cs : List Value} {F : List Nat}, OwnL Q (l ++ m) cs F → ∃ c d F1 F2, cs = c ++ d ∧ F = F1 ++ F2 ∧ OwnL Q l c F1 ∧ OwnL Q m d F2
  | [], _, cs, F, h => ⟨[], cs, [], F, rfl, rfl, ⟨rfl, rfl⟩, h⟩
  | x :: l, m, cs, F, ⟨c, d, F1, F2, e, eF, hx, hl⟩ => by
    obtain ⟨c', d', G1, G2, e', eG, h1, h2⟩ := OwnL.split (l := l) hl
    exact ⟨c ++ c', d', F1 ++ G1, G2, by rw [e, e', List.append_assoc], by rw [eF, eG, List.append_assoc], ⟨c, c', F1, G1, rfl, rfl, hx, h1⟩, h2⟩
theorem OwnL.at {n : Nat} (hn : ∀ x c F, Q x c F → c.length = n) {l : List α} {cs : List Value} {F : List Nat} (h : OwnL Q l cs F) {k : Nat} {x : α} (hk : l[k]? = some x) :
    ∃ c₁ c c₂ F1 F0 F2, cs = c₁ ++ (c ++ c₂) ∧ F = F1 ++ (F0 ++ F2) ∧ c₁.length = k * n ∧ c.length = n ∧ Q x c F0 ∧ ∀ y d G, Q y d G → OwnL Q (l.set k y) (c₁ ++ (d ++ c₂)) (F1 ++ (G ++ F2)) := by
  obtain ⟨hlt, hx⟩ := List.getElem?_eq_some_iff.1 hk
  have hl : l = l.take k ++ x :: l.drop (k + 1) := by rw [← hx]; simp
  rw [hl] at h
  obtain ⟨c₁, d, F1, F', e, eF, h1, c, c₂, F0, F2, e', eF', h2, h3⟩ := OwnL.split h
  have l1 := OwnL.len hn h1
  refine ⟨c₁, c, c₂, F1, F0, F2, by rw [e, e'], by rw [eF, eF'], ?_, hn _ _ _ h2, h2, fun y d G hy => ?_⟩
  · rw [l1, List.length_take, Nat.min_eq_left (by omega)]
  · rw [List.set_eq_take_append_cons_drop, if_pos hlt]
    exact OwnL.append h1 ⟨d, c₂, G, F2, rfl, rfl, hy, h3⟩
end

/-! ### What is read only -/
def Rep (w : World) (ok : Nat → Prop) : (t : Ty) → t.I → List Value → Prop
  | .int k, x, cs => cs = [.int k x]
  | .bool, x, cs => cs = [.bool x]
  | .str, x, cs => cs = [.string x]
  | .err, x, cs => (x = false ∧ cs = [.nilIface]) ∨ (x = true ∧ ∃ t p, cs = [.iface t p])
  | .unit, _, cs => cs = []
  | .fn, _, _ => False
  | .pair a b, x, cs => ∃ c d, cs = c ++ d ∧ Rep w ok a x.1 c ∧ Rep w ok b x.2 d
  | .arr n t, l, cs => l.length = n ∧ RepL (Rep w ok t) l cs
  | .slc t, l, cs => ∃ A cap, cs = [.slice A l.length cap] ∧ l.length ≤ cap ∧ (l = [] ∨ ∃ a es, A = some a ∧ ok a.block ∧ a.block < w.heap.size ∧ cellsAt w a es ∧ RepL (Rep w ok t) l es)
  | .ptr t, x, cs => ∃ a es, cs = [.pointer (some a)] ∧ ok a.block ∧ a.block < w.heap.size ∧ cellsAt w a es ∧ Rep w ok t x es

theorem Rep.len {w : World} {ok : Nat → Prop} : ∀ (t : Ty) {x : t.I} {cs : List Value}, Rep w ok t x cs → cs.length = t.size
  | .int _, _, _, h => by rw [show _ = [_] from h]; rfl
  | .bool, _, _, h => by rw [show _ = [_] from h]; rfl
  | .str, _, _, h => by rw [show _ = [_] from h]; rfl
  | .err, _, _, h => by rcases h with ⟨_, e⟩ | ⟨_, _, _, e⟩ <;> (rw [e]; rfl)
  | .unit, _, _, h => by rw [show _ = [] from h]; rfl
  | .pair a b, _, _, ⟨c, d, e, h1, h2⟩ => by rw [e, List.length_append, Rep.len a h1, Rep.len b h2]; rfl
  | .arr n t, _, _, ⟨hl, h⟩ => by rw [RepL.len (fun _ _ h => Rep.len t h) h, hl]; rfl
  | .slc _, _, _, ⟨_, _, e, _⟩ => by rw [e]; rfl
  | .ptr _, _, _, ⟨_, _, e, _⟩ => by rw [e]; rfl

/-- What is read stays as it is where the blocks that it lies in stay as they are. -/
theorem Rep.keep {w w' : World} {ok ok' : Nat → Prop} (hk : ∀ b, ok b → b < w.heap.size → ok' b ∧ w'.heap[b]? = w.heap[b]?) (hz : w.heap.size ≤ w'.heap.size) :
    ∀ (t : Ty) {x : t.I} {cs : List Value}, Rep w ok t x cs → Rep w' ok' t x cs
  | .int _, _, _, h => h
  | .bool, _, _, h => h
  | .str, _, _, h => h
  | .err, _, _, h => h
  | .unit, _, _, h => h
  | .pair a b, _, _, ⟨c, d, e, h1, h2⟩ => ⟨c, d, e, Rep.keep hk hz a h1, Rep.keep hk hz b h2⟩
  | .arr n t, _, _, ⟨hl, h⟩ => ⟨hl, RepL.mono (fun _ _ h => Rep.keep hk hz t h) h⟩
  | .slc t, _, _, ⟨A, cap, e, hc, h⟩ => ⟨A, cap, e, hc, h.imp id fun ⟨a, es, hA, hok, hlt, hcs, hr⟩ => ⟨a, es, hA, (hk _ hok hlt).1, Nat.lt_of_lt_of_le hlt hz, cellsAt_keep hcs (hk _ hok hlt).2, RepL.mono (fun _ _ h => Rep.keep hk hz t h) hr⟩⟩
  | .ptr t, _, _, ⟨a, es, e, hok, hlt, hcs, hr⟩ => ⟨a, es, e, (hk _ hok hlt).1, Nat.lt_of_lt_of_le hlt hz, cellsAt_keep hcs (hk _ hok hlt).2, Rep.keep hk hz t hr⟩

theorem Rep.mono {w : World} {ok ok' : Nat → Prop} (hk : ∀ b, ok b → ok' b) {t : Ty} {x : t.I} {cs : List Value} (h : Rep w ok t x cs) : Rep w ok' t x cs :=
  Rep.keep (fun b hb _ => ⟨hk b hb, rfl⟩) (Nat.le_refl _) t h

theorem Rep.flat {w w' : World} {ok ok' : Nat → Prop} : ∀ (t : Ty), t.flat = true → ∀ {x : t.I} {cs : List Value}, Rep w ok t x cs → Rep w' ok' t x cs
  | .int _, _, _, _, h => h
  | .bool, _, _, _, h => h
  | .str, _, _, _, h => h
  | .err, _, _, _, h => h
  | .unit, _, _, _, h => h
  | .pair a b, hf, _, _, ⟨c, d, e, h1, h2⟩ => by
    simp [Ty.flat] at hf
    exact ⟨c, d, e, Rep.flat a hf.1 h1, Rep.flat b hf.2 h2⟩
  | .arr n t, hf, _, _, ⟨hl, h⟩ => ⟨hl, RepL.mono (fun _ _ h => Rep.flat t hf h) h⟩

/-! ### What is owned -/
/-- The header hd is one of n elements of sz cells, es their cells, in a block of its own (F), if it has any. -/
def RowOk (w : World) (hd : Value) (sz n : Nat) (es : List Value) (F : List Nat) : Prop :=
  ∃ A cap, hd = .slice A n cap ∧ n ≤ cap ∧ es.length = n * sz ∧
    ((cap = 0 ∧ F = []) ∨ ∃ g cur e, A = some ⟨g, 0, none⟩ ∧ F = [g] ∧ w.heap[g]? = some (.cells cur e (0, 0)) ∧ cur.size = cap * sz ∧ es = cur.toList.take (n * sz))

theorem RowOk.keep {w w' : World} {hd : Value} {sz n : Nat} {es : List Value} {F : List Nat} (h : RowOk w hd sz n es F) (hk : ∀ b ∈ F, w'.heap[b]? = w.heap[b]?) : RowOk w' hd sz n es F := by
  obtain ⟨A, cap, e, hn, hl, h⟩ := h
  refine ⟨A, cap, e, hn, hl, h.imp id ?_⟩
  rintro ⟨g, cur, ty, hA, hF, hb, hs, he⟩
  exact ⟨g, cur, ty, hA, hF, by rw [hk g (by simp [hF]), hb], hs, he⟩
theorem RowOk.len {w : World} {hd : Value} {sz n : Nat} {es : List Value} {F : List Nat} (h : RowOk w hd sz n es F) : es.length = n * sz := by
  obtain ⟨_, _, _, _, h, _⟩ := h; exact h

def Own (w : World) : (t : Ty) → t.I → List Value → List Nat → Prop
  | .int k, x, cs, F => cs = [.int k x] ∧ F = []
  | .bool, x, cs, F => cs = [.bool x] ∧ F = []
  | .str, x, cs, F => cs = [.string x] ∧ F = []
  | .err, x, cs, F => (((x = false ∧ cs = [.nilIface]) ∨ (x = true ∧ ∃ t p, cs = [.iface t p]))) ∧ F = []
  | .unit, _, cs, F => cs = [] ∧ F = []
  | .fn, _, _, _ => False
  | .ptr _, _, _, _ => False
  | .pair a b, x, cs, F => ∃ c d F1 F2, cs = c ++ d ∧ F = F1 ++ F2 ∧ Own w a x.1 c F1 ∧ Own w b x.2 d F2
  | .arr n t, l, cs, F => l.length = n ∧ OwnL (Own w t) l cs F
  | .slc t, l, cs, F => ∃ hd es F1 F2, cs = [hd] ∧ F = F1 ++ F2 ∧ RowOk w hd t.size l.length es F1 ∧ OwnL (Own w t) l es F2

theorem Own.len {w : World} : ∀ (t : Ty) {x : t.I} {cs : List Value} {F : List Nat}, Own w t x cs F → cs.length = t.size
  | .int _, _, _, _, h => by rw [h.1]; rfl
  | .bool, _, _, _, h => by rw [h.1]; rfl
  | .str, _, _, _, h => by rw [h.1]; rfl
  | .err, _, _, _, h => by rcases h.1 with ⟨_, e⟩ | ⟨_, _, _, e⟩ <;> (rw [e]; rfl)
  | .unit, _, _, _, h => by rw [h.1]; rfl
  | .pair a b, _, _, _, ⟨c, d, _, _, e, _, h1, h2⟩ => by rw [e, List.length_append, Own.len a h1, Own.len b h2]; rfl
  | .arr n t, _, _, _, ⟨hl, h⟩ => by rw [OwnL.len (fun _ _ _ h => Own.len t h) h, hl]; rfl
  | .slc _, _, _, _, ⟨_, _, _, _, e, _⟩ => by rw [e]; rfl

theorem Own.keep {w w' : World} : ∀ (t : Ty) {x : t.I} {cs : List Value} {F : List Nat}, (∀ b ∈ F, w'.heap[b]? = w.heap[b]?) → Own w t x cs F → Own w' t x cs F
  | .int _, _, _, _, _, h => h
  | .bool, _, _, _, _, h => h
  | .str, _, _, _, _, h => h
  | .err, _, _, _, _, h => h
  | .unit, _, _, _, _, h => h
  | .pair a b, _, _, _, hk, ⟨c, d, F1, F2, e, eF, h1, h2⟩ => ⟨c, d, F1, F2, e, eF, Own.keep a (fun b hb => hk b (by simp [eF, hb])) h1, Own.keep b (fun b hb => hk b (by simp [eF, hb])) h2⟩
  | .arr n t, _, _, _, hk, ⟨hl, h⟩ => ⟨hl, OwnL.mono_mem (fun _ _ _ hG h => Own.keep t (fun b hb => hk b (hG b hb)) h) h⟩
  | .slc t, _, _, _, hk, ⟨hd, es, F1, F2, e, eF, hr, h⟩ => ⟨hd, es, F1, F2, e, eF, hr.keep (fun b hb => hk b (by simp [eF, hb])), OwnL.mono_mem (fun _ _ _ hG h => Own.keep t (fun b hb => hk b (by simp [eF, hG b hb])) h) h⟩

theorem OwnL.flat {α : Type} {Q : α → List Value → List Nat → Prop} {R : α → List Value → Prop} (h : ∀ x c F, Q x c F → F = [] ∧ R x c) : ∀ {l : List α} {cs : List Value} {F : List Nat}, OwnL Q l cs F → F = [] ∧ RepL R l cs
  | [], _, _, hl => ⟨hl.2, hl.1⟩
  | _ :: _, _, _, ⟨c, d, F1, F2, e, eF, hx, hl⟩ => by
    obtain ⟨h1, h2⟩ := h _ _ _ hx
    obtain ⟨h3, h4⟩ := OwnL.flat h hl
    exact ⟨by simp [eF, h1, h3], c, d, e, h2, h4⟩
theorem OwnL.of_flat {α : Type} {Q : α → List Value → List Nat → Prop} {R : α → List Value → Prop} (h : ∀ x c, R x c → Q x c []) : ∀ {l : List α} {cs : List Value}, RepL R l cs → OwnL Q l cs []
  | [], _, hl => ⟨hl, rfl⟩
  | _ :: _, _, ⟨c, d, e, hx, hl⟩ => ⟨c, d, [], [], e, rfl, h _ _ hx, OwnL.of_flat h hl⟩

theorem Own.flat {w w' : World} {ok : Nat → Prop} : ∀ (t : Ty), t.flat = true → ∀ {x : t.I} {cs : List Value} {F : List Nat}, Own w t x cs F → F = [] ∧ Rep w' ok t x cs
  | .int _, _, _, _, _, h => ⟨h.2, h.1⟩
  | .bool, _, _, _, _, h => ⟨h.2, h.1⟩
  | .str, _, _, _, _, h => ⟨h.2, h.1⟩
  | .err, _, _, _, _, h => ⟨h.2, h.1⟩
  | .unit, _, _, _, _, h => ⟨h.2, h.1⟩
  | .pair a b, hf, _, _, _, ⟨c, d, F1, F2, e, eF, h1, h2⟩ => by
    simp [Ty.flat] at hf
    obtain ⟨h3, h4⟩ := Own.flat (w' := w') (ok := ok) a hf.1 h1
    obtain ⟨h5, h6⟩ := Own.flat (w' := w') (ok := ok) b hf.2 h2
    exact ⟨by simp [eF, h3, h5], c, d, e, h4, h6⟩
  | .arr n t, hf, _, _, _, ⟨hl, h⟩ => by
    obtain ⟨h3, h4⟩ := OwnL.flat (fun _ _ _ h => Own.flat (w' := w') (ok := ok) t hf h) h
    exact ⟨h3, hl, h4⟩
theorem Own.of_flat {w w' : World} {ok : Nat → Prop} : ∀ (t : Ty), t.flat = true → ∀ {x : t.I} {cs : List Value}, Rep w ok t x cs → Own w' t x cs []
  | .int _, _, _, _, h => ⟨h, rfl⟩
  | .bool, _, _, _, h => ⟨h, rfl⟩
  | .str, _, _, _, h => ⟨h, rfl⟩
  | .err, _, _, _, h => ⟨h, rfl⟩
  | .unit, _, _, _, h => ⟨h, rfl⟩
  | .pair a b, hf, _, _, ⟨c, d, e, h1, h2⟩ => by
    simp [Ty.flat] at hf
    exact ⟨c, d, [], [], e, rfl, Own.of_flat a hf.1 h1, Own.of_flat b hf.2 h2⟩
  | .arr n t, hf, _, _, ⟨hl, h⟩ => ⟨hl, OwnL.of_flat (fun _ _ h => Own.of_flat t hf h) h⟩

theorem cellsAt_block {w : World} {g : Nat} {cur : Array Value} {e : TypeId} {fr : Nat × Nat} (h : w.heap[g]? = some (.cells cur e fr)) (n : Nat) : cellsAt w ⟨g, 0, none⟩ (cur.toList.take n) := by
  intro i v hv
  rw [List.getElem?_take] at hv
  split at hv
  · have : cur[i]? = some v := by simpa using hv
    by_cases hi : i = 0 <;> simp [World.cell?, Addr.add, hi, h, ← this]
  · simp at hv

theorem lt_of_block {w : World} {g : Nat} {o : Go.Obj} (h : w.heap[g]? = some o) : g < w.heap.size := by
  exact (Array.getElem?_eq_some_iff.1 h).1

/-- What is owned can be read. -/
theorem Own.rep {w : World} : ∀ (t : Ty) {x : t.I} {cs : List Value} {F : List Nat} {ok : Nat → Prop}, (∀ b ∈ F, ok b) → Own w t x cs F → Rep w ok t x cs
  | .int _, _, _, _, _, _, h => h.1
  | .bool, _, _, _, _, _, h => h.1
  | .str, _, _, _, _, _, h => h.1
  | .err, _, _, _, _, _, h => h.1
  | .unit, _, _, _, _, _, h => h.1
  | .pair a b, _, _, _, _, hk, ⟨c, d, F1, F2, e, eF, h1, h2⟩ => ⟨c, d, e, Own.rep a (fun b hb => hk b (by simp [eF, hb])) h1, Own.rep b (fun b hb => hk b (by simp [eF, hb])) h2⟩
  | .arr n t, _, _, _, _, hk, ⟨hl, h⟩ => ⟨hl, repL t hk h⟩
  | .slc t, l, _, _, ok, hk, ⟨hd, es, F1, F2, e, eF, hr, h⟩ => by
    obtain ⟨A, cap, ehd, hn, hlen, hr⟩ := hr
    refine ⟨A, cap, by rw [e, ehd], hn, ?_⟩
    rcases hr with ⟨_, hc, _⟩ | ⟨g, cur, ty, hA, hF, hb, hs, he⟩
    · exact .inl (List.length_eq_zero_iff.1 (by omega))
    · refine .inr ⟨_, es, hA, hk g (by simp [eF, hF]), (Array.getElem?_eq_some_iff.1 hb).1, ?_, repL t (fun b hb => hk b (by simp [eF, hb])) h⟩
      rw [he]; exact cellsAt_block hb _
where
  repL {w : World} (t : Ty) {l : List t.I} {cs : List Value} {F : List Nat} {ok : Nat → Prop} (hk : ∀ b ∈ F, ok b) (h : OwnL (Own w t) l cs F) : RepL (Rep w ok t) l cs := by
    induction l generalizing cs F with
    | nil => exact h.1
    | cons x l ih =>
      obtain ⟨c, d, F1, F2, e, eF, hx, hl⟩ := h
      exact ⟨c, d, e, Own.rep t (fun b hb => hk b (by simp [eF, hb])) hx, ih (fun b hb => hk b (by simp [eF, hb])) hl⟩
end Go.Fw

/- What a function's values mean, and the parts of a value. -/
namespace Go.Fw

/-! ### Runs -/
namespace AM
variable {α β : Type}
theorem run_bind (m : AM α) (f : α → AM β) (s : St) : (m.bind f).run s = (m.run s).bind fun x => (f x.1).run x.2 := by
  induction m generalizing s with
  | pure a => rfl
  | fail => rfl
  | getT n k ih => exact ih _ _
  | putT n v k ih => exact ih _
  | getO i k ih => exact ih _ _
  | putO i o k ih => exact ih _
  | ask β x k ih =>
    simp only [bind, run]
    cases x with
    | none => rfl
    | some b => exact ih b s
  | test n x y z ihx ihy ihz =>
    simp only [bind, run]
    split
    · split
      · exact ihx s
      · exact ihy s
    · exact ihz s
    · rfl
theorem of_bind {m : AM α} {f : α → AM β} {s s' : St} {b : β} (h : (m.bind f).run s = some (b, s')) : ∃ a s1, m.run s = some (a, s1) ∧ (f a).run s1 = some (b, s') := by
  rw [run_bind] at h
  cases hm : m.run s with
  | none => rw [hm] at h; cases h
  | some x => rw [hm] at h; exact ⟨x.1, x.2, rfl, h⟩
theorem of_pure {a b : α} {s s' : St} (h : (AM.pure a).run s = some (b, s')) : b = a ∧ s' = s := by
  simp only [run, Option.some.injEq, Prod.mk.injEq] at h
  exact ⟨h.1.symm, h.2.symm⟩
theorem of_must {c : Bool} {s s' : St} {u : Unit} (h : (must c).run s = some (u, s')) : c = true ∧ s' = s := by
  cases c with
  | true => exact ⟨rfl, (of_pure h).2⟩
  | false => cases h
theorem of_guard {c : Bool} {s s' : St} {u : Unit} (h : (guard_ c).run s = some (u, s')) : c = true ∧ s' = s := by
  cases c with
  | true => exact ⟨rfl, (of_pure h).2⟩
  | false => cases h
theorem of_must_bind {c : Bool} {f : Unit → AM α} {s s' : St} {a : α} (h : ((must c).bind f).run s = some (a, s')) : c = true ∧ (f ()).run s = some (a, s') := by
  cases c with
  | true => exact ⟨rfl, h⟩
  | false => cases h
theorem of_guard_bind {c : Bool} {f : Unit → AM α} {s s' : St} {a : α} (h : ((guard_ c).bind f).run s = some (a, s')) : c = true ∧ (f ()).run s = some (a, s') := by
  cases c with
  | true => exact ⟨rfl, h⟩
  | false => cases h
theorem of_ask {γ : Type} {x : Option γ} {k : γ → AM α} {s s' : St} {a : α} (h : (AM.ask γ x k).run s = some (a, s')) : ∃ y, x = some y ∧ (k y).run s = some (a, s') := by
  cases x with
  | none => cases h
  | some y => exact ⟨y, rfl, h⟩
theorem of_withRow {t : Ty} {o : Option Obj} {k : Bool → List t.I → AM α} {s s' : St} {a : α} (h : (withRow t o k).run s = some (a, s')) : ∃ d l, o = some (.row d t l) ∧ (k d l).run s = some (a, s') := by
  unfold withRow at h
  split at h
  · split at h
    · rename_i hu
      subst hu
      exact ⟨_, _, rfl, h⟩
    · cases h
  · cases h
theorem of_castV {t : Ty} {v : V} {x : t.I} {s s' : St} (h : (castV t v).run s = some (x, s')) : v = .val t x ∧ s' = s := by
  unfold castV at h
  split at h
  · split at h
    · rename_i hu
      subst hu
      obtain ⟨rfl, rfl⟩ := of_pure h
      exact ⟨rfl, rfl⟩
    · cases h
  · cases h
theorem of_newO {i : Nat} {o : Obj} {s s' : St} {u : Unit} (h : (newO i o).run s = some (u, s')) : s.ob i = none ∧ s' = s.putO i o := by
  simp only [newO, run] at h
  split at h
  · exact ⟨by assumption, (of_pure h).2⟩
  · cases h
theorem of_againO {i : Nat} {o : Obj} {s s' : St} {u : Unit} (h : (againO i o).run s = some (u, s')) : s.ob i = some .gone ∧ s' = s.putO i o := by
  simp only [againO, run] at h
  split at h
  · exact ⟨by assumption, (of_pure h).2⟩
  · cases h
end AM

/-! ### Meaning -/
structure Gh where
  ok : Nat → Prop
  hd : Nat → Value
  bx : Nat → Bool
  ty : Nat → Ty
  fp : Nat → List Nat

def offT : Ty → List PS → Option Nat
  | _, [] => some 0
  | .pair a _, .fst :: p => offT a p
  | .pair a b, .snd :: p => (offT b p).map (a.size + ·)
  | .arr _ t, .elem k :: p => (offT t p).map (k * t.size + ·)
  | _, _ => none

def adrOf (G : Gh) (i : Nat) (p : List PS) : Option Addr :=
  match G.bx i, G.hd i, p with
  | true, .pointer (some a), p => (offT (G.ty i) p).map fun o => a.add o
  | false, .slice (some a) _ _, .elem k :: q => (offT (G.ty i) q).map fun o => a.add (k * (G.ty i).size + o)
  | _, _, _ => none

def V.agg : V → Bool
  | .val t _ => t.isAgg
  | .pr _ _ => true
  | _ => false

def ofCells (agg : Bool) (cs : List Value) : Value := match agg with
  | true => .agg cs.toArray
  | false => cs.headD undef

mutual
def VR (U : Nat → Prop) (G : Gh) (w : World) : V → List Value → Prop
  | .undef, _ => False
  | .skip, _ => False
  | .nil, cs => cs = [.slice none 0 0]
  | .val t x, cs => Rep w G.ok t x cs
  | .hdr i, cs => U i ∧ G.bx i = false ∧ cs = [G.hd i]
  | .adr i p, cs => U i ∧ ∃ a, adrOf G i p = some a ∧ cs = [.pointer (some a)]
  | .pin i, cs => U i ∧ G.bx i = false ∧ ∃ a, cs = [.pointer (some a)] ∧ G.ok a.block ∧ a.block < w.heap.size ∧ cellsAt w a [G.hd i]
  | .pr a b, cs => ∃ c d, cs = c ++ d ∧ VR U G w a c ∧ VR U G w b d
  | .clo g fs ps, cs => ∃ first caps, cs = [.func (.func g) first caps] ∧ CR U G w fs first.toList ∧ CR U G w ps caps.toList
  | .tup _, _ => False
def CR (U : Nat → Prop) (G : Gh) (w : World) : V → List Value → Prop
  | .pr a b, vs => ∃ c r, vs = ofCells a.agg c :: r ∧ VR U G w a c ∧ CR U G w b r
  | .nil, vs => vs = []
  | _, _ => False
end

/-- What is said of several values, or of a truth value that is not known. -/
def TR (U : Nat → Prop) (G : Gh) (w : World) (t : V) (x : Value) : Prop := match t with
  | .val (.slc u) l => ∃ b, x = .bool b ∧ ((show List u.I from l) ≠ [] → b = false)
  | t => ∃ vs, x = .tuple vs ∧ CR U G w t vs.toList
theorem TR.of {U : Nat → Prop} {G : Gh} {w : World} {t : V} {vs : Array Value} (h : CR U G w t vs.toList) : TR U G w t (.tuple vs) := by
  unfold TR
  split
  · simp [CR] at h
  · exact ⟨vs, rfl, h⟩
theorem TR.to {U : Nat → Prop} {G : Gh} {w : World} {t : V} {x : Value} (h : TR U G w t x) (hn : ∀ u l, t ≠ .val (.slc u) l) : ∃ vs, x = .tuple vs ∧ CR U G w t vs.toList := by
  unfold TR at h
  split at h
  · exact absurd rfl (hn _ _)
  · exact h
/-- What a tmp's abstract value says of its value. -/
def SR (U : Nat → Prop) (G : Gh) (w : World) (v : V) (x : Value) : Prop := match v with
  | .undef => True
  | .skip => x = undef
  | .tup t => TR U G w t x
  | v => ∃ c, VR U G w v c ∧ x = ofCells v.agg c

variable {U U' : Nat → Prop} {G G' : Gh} {w w' : World}

theorem SR.vr {v : V} {x : Value} (h : SR U G w v x) (hu : v ≠ .undef) (hk : v ≠ .skip) (ht : ∀ t, v ≠ .tup t) : ∃ c, VR U G w v c ∧ x = ofCells v.agg c := by
  unfold SR at h
  split at h
  · exact absurd rfl hu
  · exact absurd rfl hk
  · exact absurd rfl (ht _)
  · exact h
theorem VR.sr {v : V} {c : List Value} (h : VR U G w v c) : SR U G w v (ofCells v.agg c) := by
  cases v <;> first | exact ⟨c, h, rfl⟩ | exact absurd h (by simp [VR])

/-- What a value says is kept: names and blocks that it leans on are as they were. -/
structure Keeps (U U' : Nat → Prop) (G G' : Gh) (w w' : World) : Prop where
  used : ∀ i, U i → U' i
  hd : ∀ i, U i → G'.hd i = G.hd i
  bx : ∀ i, U i → G'.bx i = G.bx i
  ty : ∀ i, U i → G'.ty i = G.ty i
  ok : ∀ b, G.ok b → b < w.heap.size → G'.ok b ∧ w'.heap[b]? = w.heap[b]?
  size : w.heap.size ≤ w'.heap.size

theorem Keeps.adr (h : Keeps U U' G G' w w') {i : Nat} (hi : U i) (p : List PS) : adrOf G' i p = adrOf G i p := by
  unfold adrOf; rw [h.hd i hi, h.bx i hi, h.ty i hi]

mutual
theorem VR.keep (h : Keeps U U' G G' w w') : ∀ {v : V} {cs : List Value}, VR U G w v cs → VR U' G' w' v cs
  | .undef, _, hv => by simp [VR] at hv
  | .skip, _, hv => by simp [VR] at hv
  | .nil, _, hv => by simpa [VR] using hv
  | .val t x, _, hv => by
    simp only [VR] at hv ⊢
    exact Rep.keep h.ok h.size t hv
  | .hdr i, _, hv => by
    simp only [VR] at hv ⊢
    exact ⟨h.used i hv.1, by rw [h.bx i hv.1]; exact hv.2.1, by rw [h.hd i hv.1]; exact hv.2.2⟩
  | .adr i p, _, hv => by
    simp only [VR] at hv ⊢
    exact ⟨h.used i hv.1, by rw [h.adr hv.1]; exact hv.2⟩
  | .pin i, _, hv => by
    simp only [VR] at hv ⊢
    obtain ⟨hu, hb, a, e, hok, hlt, hc⟩ := hv
    exact ⟨h.used i hu, by rw [h.bx i hu]; exact hb, a, e, (h.ok _ hok hlt).1, Nat.lt_of_lt_of_le hlt h.size, by rw [h.hd i hu]; exact cellsAt_keep hc (h.ok _ hok hlt).2⟩
  | .pr a b, _, hv => by
    simp only [VR] at hv ⊢
    obtain ⟨c, d, e, h1, h2⟩ := hv
    exact ⟨c, d, e, VR.keep h h1, VR.keep h h2⟩
  | .clo g fs ps, _, hv => by
    simp only [VR] at hv ⊢
    obtain ⟨c, d, e, h1, h2⟩ := hv
    exact ⟨c, d, e, CR.keep h h1, CR.keep h h2⟩
  | .tup _, _, hv => by simp [VR] at hv
theorem CR.keep (h : Keeps U U' G G' w w') : ∀ {v : V} {vs : List Value}, CR U G w v vs → CR U' G' w' v vs
  | .pr a b, _, hv => by
    simp only [CR] at hv ⊢
    obtain ⟨c, r, e, h1, h2⟩ := hv
    exact ⟨c, r, e, VR.keep h h1, CR.keep h h2⟩
  | .nil, _, hv => by simpa [CR] using hv
  | .undef, _, hv => by simp [CR] at hv
  | .skip, _, hv => by simp [CR] at hv
  | .val _ _, _, hv => by simp [CR] at hv
  | .hdr _, _, hv => by simp [CR] at hv
  | .adr _ _, _, hv => by simp [CR] at hv
  | .pin _, _, hv => by simp [CR] at hv
  | .clo _ _ _, _, hv => by simp [CR] at hv
  | .tup _, _, hv => by simp [CR] at hv
end
theorem SR.keep (h : Keeps U U' G G' w w') {v : V} {x : Value} (hv : SR U G w v x) : SR U' G' w' v x := by
  cases v
  case undef => trivial
  case skip => exact hv
  case tup t =>
    have hv : TR U G w t x := hv
    show TR U' G' w' t x
    unfold TR at hv ⊢
    split at hv
    · exact hv
    · rename_i hn
      obtain ⟨vs, e, hc⟩ := hv
      exact ⟨vs, e, hc.keep h⟩
  all_goals (obtain ⟨c, hc, e⟩ := hv; exact ⟨c, hc.keep h, e⟩)

/-! ### Parts -/
theorem VR.len : ∀ {t : Ty} {v : V} {cs : List Value}, fits t v = true → VR U G w v cs → cs.length = t.size ∧ v.agg = t.isAgg := by
  intro t v
  induction v generalizing t with
  | undef => intro cs hf hv; simp [VR] at hv
  | skip => intro cs hf hv; simp [VR] at hv
  | nil =>
    intro cs hf hv
    cases t <;> simp [fits] at hf
    simp only [VR] at hv
    exact ⟨by rw [hv]; rfl, rfl⟩
  | val u x =>
    intro cs hf hv
    have hu : t = u := by cases t <;> simpa [fits] using hf
    subst hu
    simp only [VR] at hv
    exact ⟨Rep.len _ hv, rfl⟩
  | hdr i =>
    intro cs hf hv
    cases t <;> simp [fits] at hf
    simp only [VR] at hv
    exact ⟨by rw [hv.2.2]; rfl, rfl⟩
  | adr i p =>
    intro cs hf hv
    cases t <;> simp [fits] at hf
    simp only [VR] at hv
    obtain ⟨_, a, _, e⟩ := hv
    exact ⟨by rw [e]; rfl, rfl⟩
  | pin i =>
    intro cs hf hv
    cases t <;> simp [fits] at hf
  | pr a b iha ihb =>
    intro cs hf hv
    cases t <;> simp [fits] at hf
    simp only [VR] at hv
    obtain ⟨c, d, e, h1, h2⟩ := hv
    exact ⟨by rw [e, List.length_append, (iha hf.1 h1).1, (ihb hf.2 h2).1]; rfl, rfl⟩
  | clo g fs ps _ _ =>
    intro cs hf hv
    cases t <;> simp [fits] at hf
    simp only [VR] at hv
    obtain ⟨_, _, e, _⟩ := hv
    exact ⟨by rw [e]; rfl, rfl⟩
  | tup _ _ => intro cs hf hv; simp [VR] at hv

theorem fits_val {t u : Ty} {x : u.I} (h : fits t (.val u x) = true) : t = u := by cases t <;> simpa [fits] using h
theorem fits_self (t : Ty) (x : t.I) : fits t (.val t x) = true := by cases t <;> simp [fits]

theorem fits_mkpr {a b : Ty} {x y : V} (hx : fits a x = true) (hy : fits b y = true) : fits (.pair a b) (mkpr x y) = true := by
  unfold mkpr
  split
  · rw [fits_val hx, fits_val hy]; exact fits_self _ _
  · simp [fits, hx, hy]
theorem VR_mkpr {x y : V} {c d : List Value} (hx : VR U G w x c) (hy : VR U G w y d) : VR U G w (mkpr x y) (c ++ d) := by
  unfold mkpr
  split
  · simp only [VR] at hx hy ⊢
    exact ⟨c, d, rfl, hx, hy⟩
  · simp only [VR]
    exact ⟨c, d, rfl, hx, hy⟩

theorem VR.parts {a b : Ty} {v : V} {cs : List Value} (hf : fits (.pair a b) v = true) (hv : VR U G w v cs) :
    ∃ x y c d, v.fst = some x ∧ v.snd = some y ∧ fits a x = true ∧ fits b y = true ∧ cs = c ++ d ∧ VR U G w x c ∧ VR U G w y d := by
  cases v <;> simp [fits] at hf
  case val u z =>
    subst hf
    simp only [VR, Rep] at hv
    obtain ⟨c, d, e, h1, h2⟩ := hv
    exact ⟨_, _, c, d, rfl, rfl, fits_self _ _, fits_self _ _, e, by simpa [VR] using h1, by simpa [VR] using h2⟩
  case pr x y =>
    simp only [VR] at hv
    obtain ⟨c, d, e, h1, h2⟩ := hv
    exact ⟨x, y, c, d, rfl, rfl, hf.1, hf.2, e, h1, h2⟩

/-- The part at a path, and another part in its place. -/
theorem part_sound : ∀ (p : List PS) {t u : Ty} {v : V} {cs : List Value} {s s' : St} {y : V}, fits t v = true → VR U G w v cs → subTy t p = some u → (getV v p).run s = some (y, s') →
    s' = s ∧ fits u y = true ∧ ∃ off c₁ c c₂, offT t p = some off ∧ cs = c₁ ++ (c ++ c₂) ∧ c₁.length = off ∧ c.length = u.size ∧ VR U G w y c
  | [], t, u, v, cs, s, s', y, hf, hv, hu, hr => by
    simp only [subTy, Option.some.injEq] at hu
    subst hu
    obtain ⟨rfl, rfl⟩ := AM.of_pure hr
    exact ⟨rfl, hf, 0, [], cs, [], by simp [offT], by simp, rfl, (VR.len hf hv).1, hv⟩
  | .fst :: p, t, u, v, cs, s, s', y, hf, hv, hu, hr => by
    cases t <;> simp [subTy] at hu
    case pair a b =>
    obtain ⟨x, z, c, d, h1, h2, fa, fb, e, va, vb⟩ := VR.parts hf hv
    rw [getV, h1] at hr
    obtain ⟨rfl, fu, off, c₁, c', c₂, ho, e', l1, l2, hy⟩ := part_sound p fa va hu hr
    exact ⟨rfl, fu, off, c₁, c', c₂ ++ d, ho, by rw [e, e']; simp, l1, l2, hy⟩
  | .snd :: p, t, u, v, cs, s, s', y, hf, hv, hu, hr => by
    cases t <;> simp [subTy] at hu
    case pair a b =>
    obtain ⟨x, z, c, d, h1, h2, fa, fb, e, va, vb⟩ := VR.parts hf hv
    rw [getV, h2] at hr
    obtain ⟨rfl, fu, off, c₁, c', c₂, ho, e', l1, l2, hy⟩ := part_sound p fb vb hu hr
    exact ⟨rfl, fu, a.size + off, c ++ c₁, c', c₂, by simp [offT, ho], by rw [e, e']; simp, by rw [List.length_append, l1, (VR.len fa va).1], l2, hy⟩
  | .elem k :: p, t, u, v, cs, s, s', y, hf, hv, hu, hr => by
    cases t <;> simp [subTy] at hu
    case arr n t =>
    unfold getV at hr
    split at hr
    · rename_i m t' l
      have := fits_val hf
      injection this with e1 e2
      subst e1; subst e2
      obtain ⟨x, hx, hr⟩ := AM.of_ask hr
      simp only [VR, Rep] at hv
      obtain ⟨c₁, c, c₂, e, l1, l2, hxr, _⟩ := RepL.at (fun _ _ h => Rep.len t h) hv.2 hx
      obtain ⟨rfl, fu, off, d₁, d, d₂, ho, e', l3, l4, hy⟩ := part_sound p (fits_self t x) (cs := c) (by simpa [VR] using hxr) hu hr
      exact ⟨rfl, fu, k * t.size + off, c₁ ++ d₁, d, d₂ ++ c₂, by simp [offT, ho], by rw [e, e']; simp, by rw [List.length_append, l1, l3], l4, hy⟩
    · cases hr

theorem put_sound : ∀ (p : List PS) {t u : Ty} {v y z : V} {cs d : List Value} {s s' : St}, fits t v = true → VR U G w v cs → subTy t p = some u → fits u y = true → VR U G w y d → (setV v p y).run s = some (z, s') →
    s' = s ∧ fits t z = true ∧ ∃ off c₁ c c₂, offT t p = some off ∧ cs = c₁ ++ (c ++ c₂) ∧ c₁.length = off ∧ c.length = u.size ∧ VR U G w z (c₁ ++ (d ++ c₂))
  | [], t, u, v, y, z, cs, d, s, s', hf, hv, hu, fy, hy, hr => by
    simp only [subTy, Option.some.injEq] at hu
    subst hu
    obtain ⟨rfl, rfl⟩ := AM.of_pure hr
    exact ⟨rfl, fy, 0, [], cs, [], by simp [offT], by simp, rfl, (VR.len hf hv).1, by simpa using hy⟩
  | .fst :: p, t, u, v, y, z, cs, d, s, s', hf, hv, hu, fy, hy, hr => by
    cases t <;> simp [subTy] at hu
    case pair a b =>
    obtain ⟨x, x', c, c', h1, h2, fa, fb, e, va, vb⟩ := VR.parts hf hv
    rw [setV, h1, h2] at hr
    obtain ⟨q, s1, hq, hr⟩ := AM.of_bind hr
    obtain ⟨rfl, rfl⟩ := AM.of_pure hr
    obtain ⟨rfl, fz, off, c₁, c0, c₂, ho, e', l1, l2, hz⟩ := put_sound p fa va hu fy hy hq
    exact ⟨rfl, fits_mkpr fz fb, off, c₁, c0, c₂ ++ c', ho, by rw [e, e']; simp, l1, l2, by simpa using VR_mkpr hz vb⟩
  | .snd :: p, t, u, v, y, z, cs, d, s, s', hf, hv, hu, fy, hy, hr => by
    cases t <;> simp [subTy] at hu
    case pair a b =>
    obtain ⟨x, x', c, c', h1, h2, fa, fb, e, va, vb⟩ := VR.parts hf hv
    rw [setV, h1, h2] at hr
    obtain ⟨q, s1, hq, hr⟩ := AM.of_bind hr
    obtain ⟨rfl, rfl⟩ := AM.of_pure hr
    obtain ⟨rfl, fz, off, c₁, c0, c₂, ho, e', l1, l2, hz⟩ := put_sound p fb vb hu fy hy hq
    exact ⟨rfl, fits_mkpr fa fz, a.size + off, c ++ c₁, c0, c₂, by simp [offT, ho], by rw [e, e']; simp, by rw [List.length_append, l1, (VR.len fa va).1], l2, by simpa using VR_mkpr va hz⟩
  | .elem k :: p, t, u, v, y, z, cs, d, s, s', hf, hv, hu, fy, hy, hr => by
    cases t <;> simp [subTy] at hu
    case arr n t =>
    unfold setV at hr
    split at hr
    · rename_i m t' l
      have := fits_val hf
      injection this with e1 e2
      subst e1; subst e2
      obtain ⟨x, hx, hr⟩ := AM.of_ask hr
      obtain ⟨q, s1, hq, hr⟩ := AM.of_bind hr
      obtain ⟨q', s2, hq', hr⟩ := AM.of_bind hr
      obtain ⟨rfl, rfl⟩ := AM.of_pure hr
      obtain ⟨rfl, rfl⟩ := AM.of_castV hq'
      simp only [VR, Rep] at hv
      obtain ⟨c₁, c, c₂, e, l1, l2, hxr, hset⟩ := RepL.at (fun _ _ h => Rep.len t h) hv.2 hx
      obtain ⟨rfl, fz, off, d₁, d0, d₂, ho, e', l3, l4, hz⟩ := put_sound p (fits_self t x) (cs := c) (by simpa [VR] using hxr) hu fy hy hq
      simp only [VR] at hz
      refine ⟨rfl, fits_self _ _, k * t.size + off, c₁ ++ d₁, d0, d₂ ++ c₂, by simp [offT, ho], by rw [e, e']; simp, by rw [List.length_append, l1, l3], l4, ?_⟩
      simp only [VR, Rep]
      exact ⟨by rw [List.length_set]; exact hv.1, by simpa using hset _ _ hz⟩
    · cases hr
end Go.Fw

/- Memory as the abstract objects tell it, and the steps that keep this. -/
namespace Go.Fw


/-- Nothing but the blocks of Ch, and new ones, has turned. -/
structure KeptBut (Ch : Nat → Prop) (w w' : World) : Prop where
  os : w'.os = w.os
  tape : w'.tape = w.tape
  output : w'.output = w.output
  size : w.heap.size ≤ w'.heap.size
  heap : ∀ b, b < w.heap.size → ¬ Ch b → w'.heap[b]? = w.heap[b]?

theorem KeptBut.refl (Ch : Nat → Prop) (w : World) : KeptBut Ch w w := ⟨rfl, rfl, rfl, Nat.le_refl _, fun _ _ _ => rfl⟩
theorem KeptBut.trans {Ch Ch' Ch'' : Nat → Prop} {a b c : World} (h : KeptBut Ch a b) (k : KeptBut Ch' b c) (h1 : ∀ x, Ch x → Ch'' x) (h2 : ∀ x, x < a.heap.size → Ch' x → Ch'' x) : KeptBut Ch'' a c :=
  ⟨k.os.trans h.os, k.tape.trans h.tape, k.output.trans h.output, Nat.le_trans h.size k.size, fun x hx hn => (k.heap x (Nat.lt_of_lt_of_le hx h.size) fun hc => hn (h2 x hx hc)).trans (h.heap x hx fun hc => hn (h1 x hc))⟩
theorem KeptBut.mono {Ch Ch' : Nat → Prop} {a b : World} (h : KeptBut Ch a b) (h1 : ∀ x, x < a.heap.size → Ch x → Ch' x) : KeptBut Ch' a b :=
  ⟨h.os, h.tape, h.output, h.size, fun x hx hn => h.heap x hx fun hc => hn (h1 x hx hc)⟩

/-- A world that was, and the blocks of it that stay as they are. -/
structure Laid where
  w : World
  bl : Nat → Prop
def Laid.on (L : Laid) (w : World) : Prop := KeptBut (fun b => ¬ L.bl b) L.w w ∧ ∀ b, L.bl b → b < L.w.heap.size
theorem Laid.on_kept {L : Laid} {md : List Nat} {w w' : World} (h : L.on w) (k : KeptBut (· ∈ md) w w') (hm : ∀ b ∈ md, ¬ L.bl b) : L.on w' :=
  ⟨h.1.trans k (fun _ h => h) (fun b _ hb => hm b hb), h.2⟩
theorem Laid.lt {L : Laid} {w : World} (h : L.on w) {b : Nat} (hb : L.bl b) : b < w.heap.size := Nat.lt_of_lt_of_le (h.2 b hb) h.1.size

structure Env where
  nt : Nat
  w0 : World
  okc : Nat → Prop
  md : List Nat
  pins : List (Nat × Value) := []
  L : Laid
  on : L.on w0
  md_bl : ∀ b ∈ md, ¬ L.bl b

def used (S : St) (i : Nat) : Prop := S.ob i ≠ none
def live (S : St) (i : Nat) : Prop := ∃ o, S.ob i = some o ∧ o ≠ .gone

/-- A part of what is owned is taken out, and another comes in. -/
theorem own_hole {w : World} : ∀ (q : List PS) {t u : Ty} {x : t.I} {y : u.I} {cs : List Value} {F : List Nat} {s s' : St}, noElem q = true → Own w t x cs F → (getV (.val t x) q).run s = some (.val u y, s') →
    s' = s ∧ ∃ c₁ c c₂ F1 F0 F2, offT t q = some c₁.length ∧ c.length = u.size ∧ cs = c₁ ++ (c ++ c₂) ∧ F = F1 ++ (F0 ++ F2) ∧ Own w u y c F0 ∧
      ∀ (w' : World) (y' : u.I) (cy : List Value) (Fy : List Nat), (∀ b ∈ F1 ++ F2, w'.heap[b]? = w.heap[b]?) → Own w' u y' cy Fy → ∀ z r r', (setV (.val t x) q (.val u y')).run r = some (z, r') → r' = r ∧ ∃ z0, z = .val t z0 ∧ Own w' t z0 (c₁ ++ (cy ++ c₂)) (F1 ++ (Fy ++ F2))
  | [], t, u, x, y, cs, F, s, s', _, hx, hr => by
    obtain ⟨e, rfl⟩ := AM.of_pure hr
    injection e with e1 e2
    subst e1
    have e2 := eq_of_heq e2
    subst e2
    refine ⟨rfl, [], cs, [], [], F, [], by simp [offT], Own.len _ hx, by simp, by simp, hx, fun w' y' cy Fy _ hy z r r' hz => ?_⟩
    obtain ⟨rfl, rfl⟩ := AM.of_pure hz
    exact ⟨rfl, y', rfl, by simpa using hy⟩
  | .fst :: q, t, u, x, y, cs, F, s, s', hq, hx, hr => by
    cases t
    case pair a b =>
      obtain ⟨c, c', F1, F2, ec, eF, h1, h2⟩ := hx
      simp only [getV, V.fst] at hr
      obtain ⟨e, c₁, c0, c₂, G1, G0, G2, ho, hl, e1, e2, h3, h4⟩ := own_hole q hq h1 hr
      refine ⟨e, c₁, c0, c₂ ++ c', G1, G0, G2 ++ F2, ho, hl, by rw [ec, e1]; simp, by rw [eF, e2]; simp, h3, fun w' y' cy Fy hk hy z r r' hz => ?_⟩
      simp only [setV, V.fst, V.snd] at hz
      obtain ⟨z1, s1, hz1, hz⟩ := AM.of_bind hz
      obtain ⟨rfl, rfl⟩ := AM.of_pure hz
      obtain ⟨e3, z0, rfl, h5⟩ := h4 w' y' cy Fy (fun b hb => hk b (by simp only [List.mem_append] at hb ⊢; rcases hb with hb | hb <;> simp [hb])) hy _ _ _ hz1
      exact ⟨e3, (z0, x.2), rfl, c₁ ++ (cy ++ c₂), c', _, F2, by simp, by simp, h5, h2.keep b fun b hb => hk b (by simp [hb])⟩
    all_goals (simp only [getV, V.fst] at hr; cases hr)
  | .snd :: q, t, u, x, y, cs, F, s, s', hq, hx, hr => by
    cases t
    case pair a b =>
      obtain ⟨c, c', F1, F2, ec, eF, h1, h2⟩ := hx
      simp only [getV, V.snd] at hr
      obtain ⟨e, c₁, c0, c₂, G1, G0, G2, ho, hl, e1, e2, h3, h4⟩ := own_hole q hq h2 hr
      refine ⟨e, c ++ c₁, c0, c₂, F1 ++ G1, G0, G2, by simp [offT, ho, Own.len a h1], hl, by rw [ec, e1]; simp, by rw [eF, e2]; simp, h3, fun w' y' cy Fy hk hy z r r' hz => ?_⟩
      simp only [setV, V.fst, V.snd] at hz
      obtain ⟨z1, s1, hz1, hz⟩ := AM.of_bind hz
      obtain ⟨rfl, rfl⟩ := AM.of_pure hz
      obtain ⟨e3, z0, rfl, h5⟩ := h4 w' y' cy Fy (fun b hb => hk b (by simp only [List.mem_append] at hb ⊢; rcases hb with hb | hb <;> simp [hb])) hy _ _ _ hz1
      exact ⟨e3, (x.1, z0), rfl, c, c₁ ++ (cy ++ c₂), F1, _, by simp, by simp, h1.keep a fun b hb => hk b (by simp [hb]), h5⟩
    all_goals (simp only [getV, V.snd] at hr; cases hr)
  | .elem _ :: _, _, _, _, _, _, _, _, _, hq, _, _ => by cases hq
theorem ownL_hole {w : World} {t : Ty} : ∀ {l : List t.I} {k : Nat} {x : t.I} {es : List Value} {F : List Nat}, OwnL (Own w t) l es F → l[k]? = some x →
    ∃ c₁ c c₂ F1 F0 F2, c₁.length = k * t.size ∧ es = c₁ ++ (c ++ c₂) ∧ F = F1 ++ (F0 ++ F2) ∧ Own w t x c F0 ∧ ∀ (w' : World) (z : t.I) (cz : List Value) (Fz : List Nat), (∀ b ∈ F1 ++ F2, w'.heap[b]? = w.heap[b]?) → Own w' t z cz Fz → OwnL (Own w' t) (l.set k z) (c₁ ++ (cz ++ c₂)) (F1 ++ (Fz ++ F2))
  | [], _, _, _, _, _, h => by simp at h
  | a :: l, 0, x, es, F, ⟨c, d, F1, F2, e, eF, ha, hl⟩, h => by
    simp at h
    subst h
    exact ⟨[], c, d, [], F1, F2, by simp, by simpa using e, by simpa using eF, ha, fun w' z cz Fz hk hz => ⟨cz, d, Fz, F2, by simp, by simp, hz, OwnL.mono_mem (fun _ _ _ hG h => Own.keep t (fun b hb => hk b (by simp [hG b hb])) h) hl⟩⟩
  | a :: l, k + 1, x, es, F, ⟨c, d, F1, F2, e, eF, ha, hl⟩, h => by
    simp at h
    obtain ⟨c₁, c0, c₂, G1, G0, G2, l1, e1, e2, h1, h2⟩ := ownL_hole hl h
    refine ⟨c ++ c₁, c0, c₂, F1 ++ G1, G0, G2, by rw [List.length_append, l1, Own.len t ha, Nat.add_mul, Nat.one_mul, Nat.add_comm], by rw [e, e1]; simp, by rw [eF, e2]; simp, h1, fun w' z cz Fz hk hz => ⟨c, c₁ ++ (cz ++ c₂), F1, _, by simp, by simp, ha.keep t fun b hb => hk b (by simp [hb]), h2 w' z cz Fz (fun b hb => hk b (by simp only [List.mem_append] at hb ⊢; rcases hb with hb | hb <;> simp [hb])) hz⟩⟩

/-- A strings.Builder in a block of its own (g), of type t, which holds the text x; its buffer, if it has one, is a row of bytes (e) of its own (F). -/
def BldOk (w : World) (t e : TypeId) (g : Nat) (x : ByteArray) (F : List Nat) : Prop :=
  ∃ p v, w.heap[g]? = some (.cells #[p, v] t (0, 0)) ∧ (p = .pointer none ∨ p = .pointer (some ⟨g, 0, none⟩)) ∧
    ((v = .slice none 0 0 ∧ x.size = 0 ∧ F = []) ∨ ∃ b cap cur, 0 < x.size ∧ v = .slice (some ⟨b, 0, none⟩) x.size cap ∧ F = [b] ∧ b ≠ g ∧ w.heap[b]? = some (.cells cur e (0, 0)) ∧ x.size ≤ cap ∧ cap ≤ maxLen ∧ cur.size = cap ∧ cur.toList.take x.size = x.data.toList.map (fun c => Value.int .u8 c.toNat))
theorem BldOk.keep {w w' : World} {t e : TypeId} {g : Nat} {x : ByteArray} {F : List Nat} (h : BldOk w t e g x F) (hk : ∀ b ∈ g :: F, w'.heap[b]? = w.heap[b]?) : BldOk w' t e g x F := by
  obtain ⟨p, v, hb, hp, h⟩ := h
  refine ⟨p, v, by rw [hk g (by simp), hb], hp, h.imp id ?_⟩
  rintro ⟨b, cap, cur, e0, e1, e2, hne, hc, h1, h2, h3, h4⟩
  exact ⟨b, cap, cur, e0, e1, e2, hne, by rw [hk b (by simp [e2]), hc], h1, h2, h3, h4⟩
theorem BldOk.lt {w : World} {t e : TypeId} {g : Nat} {x : ByteArray} {F : List Nat} (h : BldOk w t e g x F) : ∀ b ∈ g :: F, b < w.heap.size := by
  obtain ⟨p, v, hb, hp, h⟩ := h
  intro b hb'
  rcases List.mem_cons.1 hb' with rfl | hb'
  · exact lt_of_block hb
  · rcases h with ⟨_, _, rfl⟩ | ⟨b1, cap, cur, _, e1, rfl, hne, hc, _⟩
    · cases hb'
    · rw [List.mem_singleton.1 hb']; exact lt_of_block hc
theorem BldOk.nd {w : World} {t e : TypeId} {g : Nat} {x : ByteArray} {F : List Nat} (h : BldOk w t e g x F) : (g :: F).Nodup := by
  obtain ⟨p, v, hb, hp, h⟩ := h
  rcases h with ⟨_, _, rfl⟩ | ⟨b1, cap, cur, _, e1, rfl, hne, hc, _⟩
  · simp
  · simp [hne.symm]

def ObjR (U : Nat → Prop) (G : Gh) (w : World) (i : Nat) : Obj → Prop
  | .gone => True
  | .box t v => G.bx i = true ∧ G.ty i = t ∧ fits t v = true ∧ ∃ g cs e, G.hd i = .pointer (some ⟨g, 0, none⟩) ∧ G.fp i = [g] ∧ w.heap[g]? = some (.cells cs e (0, 0)) ∧ VR U G w v cs.toList
  | .row d t l => G.bx i = false ∧ G.ty i = t ∧ ∃ es F1 F2, RowOk w (G.hd i) t.size l.length es F1 ∧ G.fp i = F1 ++ F2 ∧
      match d with
      | true => OwnL (Own w t) l es F2
      | false => F2 = [] ∧ RepL (Rep w G.ok t) l es
  | .bld t e x => G.bx i = true ∧ ∃ g F, G.hd i = .pointer (some ⟨g, 0, none⟩) ∧ G.fp i = g :: F ∧ BldOk w t e g x F
  | .opened t l k q u c => G.bx i = false ∧ G.ty i = t ∧ G.bx c = false ∧ U c ∧ ∃ e1 e2 off F1 F2, offT t q = some off ∧ e1.length = k * t.size + off ∧ RowOk w (G.hd i) t.size l.length (e1 ++ ([G.hd c] ++ e2)) F1 ∧ G.fp i = F1 ++ F2 ∧
      ∀ (w' : World) (y : List u.I) (h : Value) (F0 : List Nat), (∀ b ∈ F2, w'.heap[b]? = w.heap[b]?) → Own w' (.slc u) y [h] F0 → ∀ x z s s', l[k]? = some x → (setV (.val t x) q (.val (.slc u) y)).run s = some (z, s') → s' = s ∧ ∃ z0 F', z = .val t z0 ∧ OwnL (Own w' t) (l.set k z0) (e1 ++ ([h] ++ e2)) F' ∧ F'.Perm (F2 ++ F0)

structure Mem (E : Env) (S : St) (G : Gh) (w : World) : Prop where
  obj : ∀ i o, S.ob i = some o → ObjR (used S) G w i o
  dj : ∀ i j, i ≠ j → live S i → live S j → ∀ b ∈ G.fp i, b ∉ G.fp j
  nd : ∀ i, live S i → (G.fp i).Nodup
  own : ∀ i, live S i → ∀ b ∈ G.fp i, b < w.heap.size ∧ (E.w0.heap.size ≤ b ∨ b ∈ E.md)
  okl : ∀ b, G.ok b → b < w.heap.size ∧ (E.okc b ∨ E.w0.heap.size ≤ b ∨ b ∈ E.md) ∧ ∀ i, live S i → b ∉ G.fp i
  fr : KeptBut (· ∈ E.md) E.w0 w
  hds : ∀ i, used S i → G.bx i = false → ∃ A n c, G.hd i = .slice A n c

structure Inv (E : Env) (S : St) (G : Gh) (a : Act) (w : World) : Prop where
  mem : Mem E S G w
  slot : ∀ n, SR (used S) G w (S.tm n) (a.tmps.getD n undef)
  df : a.defers = []
  tn : a.tmps.size = E.nt
  pin : ∀ p ∈ E.pins, a.tmps.getD p.1 undef = p.2

variable {E : Env} {S S' : St} {G G' : Gh} {w w' : World}

theorem Keeps.refl (U : Nat → Prop) (G : Gh) (w : World) : Keeps U U G G w w := ⟨fun _ h => h, fun _ _ => rfl, fun _ _ => rfl, fun _ _ => rfl, fun _ h _ => ⟨h, rfl⟩, Nat.le_refl _⟩
theorem Keeps.trans {U U' U'' : Nat → Prop} {G'' : Gh} {w'' : World} (h : Keeps U U' G G' w w') (k : Keeps U' U'' G' G'' w' w'') : Keeps U U'' G G'' w w'' :=
  ⟨fun i hi => k.used i (h.used i hi), fun i hi => (k.hd i (h.used i hi)).trans (h.hd i hi), fun i hi => (k.bx i (h.used i hi)).trans (h.bx i hi), fun i hi => (k.ty i (h.used i hi)).trans (h.ty i hi),
    fun b hb hl => ⟨(k.ok b (h.ok b hb hl).1 (Nat.lt_of_lt_of_le hl h.size)).1, (k.ok b (h.ok b hb hl).1 (Nat.lt_of_lt_of_le hl h.size)).2.trans (h.ok b hb hl).2⟩, Nat.le_trans h.size k.size⟩

def upd {α : Type} (f : Nat → α) (i : Nat) (x : α) : Nat → α := fun j => if j = i then x else f j
theorem upd_same {α : Type} (f : Nat → α) (i : Nat) (x : α) : upd f i x i = x := by simp [upd]
theorem upd_ne {α : Type} (f : Nat → α) {i j : Nat} (x : α) (h : j ≠ i) : upd f i x j = f j := by simp [upd, h]

def Gh.set (G : Gh) (i : Nat) (hd : Value) (bx : Bool) (ty : Ty) (fp : List Nat) : Gh := { G with hd := upd G.hd i hd, bx := upd G.bx i bx, ty := upd G.ty i ty, fp := upd G.fp i fp }

theorem St.ob_putO (S : St) (i : Nat) (o : Obj) (j : Nat) : (S.putO i o).ob j = if j = i then some o else S.ob j := by
  by_cases h : j = i
  · simp [St.putO, h]
  · have : (j == i) = false := by simpa using h
    simp [St.putO, h, this]
theorem St.tm_putO (S : St) (i : Nat) (o : Obj) : (S.putO i o).tm = S.tm := rfl
theorem St.ob_putT (S : St) (n : Nat) (v : V) : (S.putT n v).ob = S.ob := rfl
theorem St.tm_putT (S : St) (n : Nat) (v : V) (m : Nat) : (S.putT n v).tm m = if m = n then v else S.tm m := by
  by_cases h : m = n
  · simp [St.putT, h]
  · have : (m == n) = false := by simpa using h
    simp [St.putT, h, this]

theorem used_putO {i : Nat} {o : Obj} {j : Nat} : used (S.putO i o) j ↔ j = i ∨ used S j := by
  unfold used; rw [St.ob_putO]; by_cases h : j = i <;> simp [h]
theorem live_putO {i : Nat} {o : Obj} {j : Nat} (h : j ≠ i) : live (S.putO i o) j ↔ live S j := by
  unfold live; rw [St.ob_putO]; simp [h]
theorem live_putO_same {i : Nat} {o : Obj} : live (S.putO i o) i ↔ o ≠ .gone := by
  unfold live; rw [St.ob_putO]; simp
theorem live.used {i : Nat} (h : live S i) : used S i := by obtain ⟨o, h, _⟩ := h; unfold Fw.used; rw [h]; simp

theorem ObjR.keep {U U' : Nat → Prop} (h : Keeps U U' G G' w w') {i : Nat} (hi : U i) {o : Obj} (hfp : G'.fp i = G.fp i) (hk : ∀ b ∈ G.fp i, w'.heap[b]? = w.heap[b]?) (ho : ObjR U G w i o) : ObjR U' G' w' i o := by
  cases o with
  | gone => trivial
  | box t v =>
    obtain ⟨h1, h2, h3, g, cs, e, h4, h5, h6, h7⟩ := ho
    exact ⟨by rw [h.bx i hi, h1], by rw [h.ty i hi, h2], h3, g, cs, e, by rw [h.hd i hi, h4], by rw [hfp, h5], by rw [hk g (by simp [h5]), h6], h7.keep h⟩
  | row d t l =>
    obtain ⟨h1, h2, es, F1, F2, h3, h4, h5⟩ := ho
    refine ⟨by rw [h.bx i hi, h1], by rw [h.ty i hi, h2], es, F1, F2, by rw [h.hd i hi]; exact h3.keep (fun b hb => hk b (by simp [h4, hb])), by rw [hfp, h4], ?_⟩
    cases d with
    | true => exact OwnL.mono_mem (fun _ _ _ hG h => Own.keep t (fun b hb => hk b (by simp [h4, hG b hb])) h) h5
    | false => exact ⟨h5.1, RepL.mono (fun _ _ hr => Rep.keep h.ok h.size t hr) h5.2⟩
  | bld t e x =>
    obtain ⟨h1, g, F, h2, h3, h4⟩ := ho
    exact ⟨by rw [h.bx i hi, h1], g, F, by rw [h.hd i hi, h2], by rw [hfp, h3], h4.keep fun b hb => hk b (by rw [h3]; exact hb)⟩
  | opened t l k q u c =>
    obtain ⟨h1, h2, h3, h4, e1, e2, off, F1, F2, h8, h9, h5, h6, h7⟩ := ho
    exact ⟨by rw [h.bx i hi, h1], by rw [h.ty i hi, h2], by rw [h.bx c h4, h3], h.used c h4, e1, e2, off, F1, F2, h8, h9, by rw [h.hd i hi, h.hd c h4]; exact h5.keep (fun b hb => hk b (by simp [h6, hb])), by rw [hfp, h6], fun w'' y h0 F0 hw hy => h7 w'' y h0 F0 (fun b hb => (hw b hb).trans (hk b (by simp [h6, hb]))) hy⟩
/-- An object is put, where none was or where it was, and memory turns in blocks that no other live one has and none reads. -/
theorem Mem.put (M : Mem E S G w) {i : Nat} {o : Obj} {hd : Value} {bx : Bool} {ty : Ty} {fp : List Nat} {Ch : Nat → Prop}
    (hi : S.ob i = none ∨ (hd = G.hd i ∧ bx = G.bx i ∧ ty = G.ty i)) (hh : bx = false → ∃ A n c, hd = .slice A n c) (hk : KeptBut Ch w w') (hch : ∀ b, b < w.heap.size → Ch b → E.w0.heap.size ≤ b ∨ b ∈ E.md)
    (hlive : ∀ j, j ≠ i → live S j → ∀ b ∈ G.fp j, ¬ Ch b ∧ (o ≠ .gone → b ∉ fp)) (hok : ∀ b, G.ok b → ¬ Ch b ∧ (o ≠ .gone → b ∉ fp)) (hn : o ≠ .gone → fp.Nodup) (hown : o ≠ .gone → ∀ b ∈ fp, b < w'.heap.size ∧ (E.w0.heap.size ≤ b ∨ b ∈ E.md))
    (ho : Keeps (used S) (used (S.putO i o)) G (G.set i hd bx ty fp) w w' → ObjR (used (S.putO i o)) (G.set i hd bx ty fp) w' i o) :
    Mem E (S.putO i o) (G.set i hd bx ty fp) w' ∧ Keeps (used S) (used (S.putO i o)) G (G.set i hd bx ty fp) w w' := by
  have K : Keeps (used S) (used (S.putO i o)) G (G.set i hd bx ty fp) w w' := by
    refine ⟨fun j hj => used_putO.2 (.inr hj), ?_, ?_, ?_, fun b hb hl => ⟨hb, hk.heap b hl (hok b hb).1⟩, hk.size⟩ <;>
    · intro j hj
      by_cases hji : j = i
      · subst hji
        rcases hi with hi | hi
        · exact absurd hi hj
        · simp [Gh.set, upd, hi]
      · simp [Gh.set, upd, hji]
  have hne : ∀ j, j ≠ i → (G.set i hd bx ty fp).fp j = G.fp j := fun j hj => upd_ne _ _ hj
  have hsame : (G.set i hd bx ty fp).fp i = fp := upd_same _ _ _
  refine ⟨⟨?_, ?_, ?_, ?_, ?_, ?_, ?_⟩, K⟩
  · intro j o' hj
    rw [St.ob_putO] at hj
    by_cases hji : j = i
    · subst hji
      rw [if_pos rfl] at hj
      injection hj with hj
      subst hj
      exact ho K
    · rw [if_neg hji] at hj
      cases o' with
      | gone => trivial
      | _ =>
        refine ObjR.keep K (by unfold used; rw [hj]; simp) (hne j hji) (fun b hb => ?_) (M.obj j _ hj)
        have hl : live S j := ⟨_, hj, by simp⟩
        exact hk.heap b (M.own j hl b hb).1 (hlive j hji hl b hb).1
  · intro j k hjk hj hk' b hb
    by_cases hji : j = i
    · subst hji
      rw [hsame] at hb
      have hki : k ≠ j := Ne.symm hjk
      rw [hne k hki]
      intro hb'
      exact (hlive k hki ((live_putO hki).1 hk') b hb').2 (live_putO_same.1 hj) hb
    · rw [hne j hji] at hb
      by_cases hki : k = i
      · subst hki
        rw [hsame]
        exact (hlive j hji ((live_putO hji).1 hj) b hb).2 (live_putO_same.1 hk')
      · rw [hne k hki]
        exact M.dj j k hjk ((live_putO hji).1 hj) ((live_putO hki).1 hk') b hb
  · intro j hj
    by_cases hji : j = i
    · subst hji; rw [hsame]; exact hn (live_putO_same.1 hj)
    · rw [hne j hji]; exact M.nd j ((live_putO hji).1 hj)
  · intro j hj b hb
    by_cases hji : j = i
    · subst hji; rw [hsame] at hb; exact hown (live_putO_same.1 hj) b hb
    · rw [hne j hji] at hb
      have := M.own j ((live_putO hji).1 hj) b hb
      exact ⟨Nat.lt_of_lt_of_le this.1 hk.size, this.2⟩
  · intro b hb
    have hb' : G.ok b := hb
    obtain ⟨h1, h2, h3⟩ := M.okl b hb'
    refine ⟨Nat.lt_of_lt_of_le h1 hk.size, h2, fun j hj => ?_⟩
    by_cases hji : j = i
    · subst hji; rw [hsame]; exact (hok b hb').2 (live_putO_same.1 hj)
    · rw [hne j hji]; exact h3 j ((live_putO hji).1 hj)
  · refine M.fr.trans hk (fun _ h => h) fun b hb hc => ?_
    rcases hch b (Nat.lt_of_lt_of_le hb M.fr.size) hc with h | h
    · omega
    · exact h
  · intro j hj hb
    by_cases hji : j = i
    · subst hji
      simp only [Gh.set, upd_same] at hb ⊢
      exact hh hb
    · simp only [Gh.set, upd_ne _ _ hji] at hb ⊢
      exact M.hds j ((used_putO.1 hj).resolve_left hji) hb

theorem Gh.set_self (G : Gh) (i : Nat) : G.set i (G.hd i) (G.bx i) (G.ty i) (G.fp i) = G := by
  have h : ∀ {α : Type} (f : Nat → α), upd f i (f i) = f := fun f => funext fun j => by unfold upd; split <;> simp_all
  cases G
  simp [Gh.set, h]

/-- An object goes. -/
theorem Mem.gone (M : Mem E S G w) {i : Nat} (hi : used S i) : Mem E (S.putO i .gone) G w ∧ Keeps (used S) (used (S.putO i .gone)) G G w w := by
  have := Mem.put (o := .gone) (hd := G.hd i) (bx := G.bx i) (ty := G.ty i) (fp := G.fp i) (Ch := fun _ => False) M (.inr ⟨rfl, rfl, rfl⟩) (M.hds i hi) (KeptBut.refl _ w) (fun _ _ h => h.elim)
    (fun j _ _ b _ => ⟨id, fun h => absurd rfl h⟩) (fun b _ => ⟨id, fun h => absurd rfl h⟩) (fun h => absurd rfl h) (fun h => absurd rfl h) (fun _ => trivial)
  rwa [Gh.set_self] at this

def Gh.more (G : Gh) (F : List Nat) : Gh := { G with ok := fun b => G.ok b ∨ b ∈ F }

/-- Blocks that nobody owns any more can be read. -/
theorem Mem.thaw (M : Mem E S G w) {F : List Nat} (h1 : ∀ b ∈ F, b < w.heap.size ∧ (E.w0.heap.size ≤ b ∨ b ∈ E.md)) (h2 : ∀ i, live S i → ∀ b ∈ G.fp i, b ∉ F) :
    Mem E S (G.more F) w ∧ Keeps (used S) (used S) G (G.more F) w w := by
  have K : Keeps (used S) (used S) G (G.more F) w w := ⟨fun _ h => h, fun _ _ => rfl, fun _ _ => rfl, fun _ _ => rfl, fun b hb _ => ⟨.inl hb, rfl⟩, Nat.le_refl _⟩
  refine ⟨⟨fun i o hi => ObjR.keep K (by unfold used; rw [hi]; simp) rfl (fun _ _ => rfl) (M.obj i o hi), M.dj, M.nd, M.own, ?_, M.fr, M.hds⟩, K⟩
  rintro b (hb | hb)
  · exact M.okl b hb
  · exact ⟨(h1 b hb).1, .inr (h1 b hb).2, fun i hi hb' => h2 i hi b hb' hb⟩

/-- A draw. -/
theorem Keeps.drawn (U : Nat → Prop) (G : Gh) (w : World) (n : Nat) : Keeps U U G G w { w with drawn := n } := ⟨fun _ h => h, fun _ _ => rfl, fun _ _ => rfl, fun _ _ => rfl, fun _ h _ => ⟨h, rfl⟩, Nat.le_refl _⟩
theorem Mem.drawn (M : Mem E S G w) (n : Nat) : Mem E S G { w with drawn := n } :=
  ⟨fun i o hi => ObjR.keep (Keeps.drawn _ G w n) (by unfold used; rw [hi]; simp) rfl (fun _ _ => rfl) (M.obj i o hi), M.dj, M.nd, M.own, M.okl, ⟨M.fr.os, M.fr.tape, M.fr.output, M.fr.size, M.fr.heap⟩, M.hds⟩
end Go.Fw

/- What is read, taken, handed over and given back. -/
namespace Go.Fw
variable {E : Env} {S S' S1 S2 : St} {G G' G1 G2 : Gh} {w w' : World}

theorem offT_sub : ∀ (p : List PS) {t : Ty} {o : Nat}, offT t p = some o → ∃ u, subTy t p = some u
  | [], t, o, _ => ⟨t, by simp [subTy]⟩
  | .fst :: p, t, o, h => by
    cases t <;> simp [offT] at h
    obtain ⟨u, hu⟩ := offT_sub p h
    exact ⟨u, by simp [subTy, hu]⟩
  | .snd :: p, t, o, h => by
    cases t <;> simp [offT] at h
    obtain ⟨o', h, _⟩ := h
    obtain ⟨u, hu⟩ := offT_sub p h
    exact ⟨u, by simp [subTy, hu]⟩
  | .elem k :: p, t, o, h => by
    cases t <;> simp [offT] at h
    obtain ⟨o', h, _⟩ := h
    obtain ⟨u, hu⟩ := offT_sub p h
    exact ⟨u, by simp [subTy, hu]⟩

theorem cellsAt_whole {w : World} {g : Nat} {cur : Array Value} {e : TypeId} {fr : Nat × Nat} (h : w.heap[g]? = some (.cells cur e fr)) : cellsAt w ⟨g, 0, none⟩ cur.toList := by
  have := cellsAt_block h cur.toList.length
  rwa [List.take_length] at this

theorem adr_box {i : Nat} {p : List PS} {a : Addr} (hb : G.bx i = true) (ha : adrOf G i p = some a) : ∃ u, subTy (G.ty i) p = some u := by
  unfold adrOf at ha
  split at ha
  · obtain ⟨o, h, _⟩ := Option.map_eq_some_iff.1 ha
    exact offT_sub _ h
  · rename_i h _; rw [hb] at h; cases h
  · cases ha
theorem adr_row {i k : Nat} {q : List PS} {a : Addr} (hb : G.bx i = false) (ha : adrOf G i (.elem k :: q) = some a) : ∃ u, subTy (G.ty i) q = some u := by
  unfold adrOf at ha
  rw [hb] at ha
  cases hh : G.hd i <;> rw [hh] at ha <;> try cases ha
  case slice A n c =>
  cases A with
  | none => cases ha
  | some a0 =>
    obtain ⟨o, h, _⟩ := Option.map_eq_some_iff.1 ha
    exact offT_sub _ h

/-- The part of a box at an address. -/
theorem box_part (M : Mem E S G w) {i : Nat} {p : List PS} {a : Addr} {t u : Ty} {v y : V} {s s' : St} (ho : S.ob i = some (.box t v)) (ha : adrOf G i p = some a) (hu : subTy t p = some u) (hr : (getV v p).run s = some (y, s')) :
    s' = s ∧ fits u y = true ∧ ∃ c, a.block < w.heap.size ∧ a.block ∈ G.fp i ∧ c.length = u.size ∧ VR (used S) G w y c ∧ cellsAt w a c := by
  obtain ⟨hbx, hty, hf, g, cs, e, hhd, hfp, hb, hv⟩ := M.obj i _ ho
  obtain ⟨rfl, fu, off, c₁, c, c₂, hoff, hcs, l1, l2, hy⟩ := part_sound p hf hv hu hr
  simp only [adrOf, hbx, hhd, hty, hoff, Option.map_some, Option.some.injEq] at ha
  subst ha
  refine ⟨rfl, fu, c, ?_, ?_, l2, hy, ?_⟩
  · rw [block_add]; exact (Array.getElem?_eq_some_iff.1 hb).1
  · rw [block_add, hfp]; simp
  · have := cellsAt_whole hb
    rw [hcs] at this
    have := (cellsAt_append this).2
    rw [l1] at this
    exact (cellsAt_append this).1

theorem RowOk.cells {hd : Value} {sz n : Nat} {es : List Value} {F : List Nat} (h : RowOk w hd sz n es F) {a : Addr} {m c : Nat} (ha : hd = .slice (some a) m c) (h0 : 0 < n) : ∃ g, a = ⟨g, 0, none⟩ ∧ F = [g] ∧ g < w.heap.size ∧ cellsAt w a es := by
  obtain ⟨A, cap, e, hle, _, h⟩ := h
  rw [ha] at e
  injection e with e1 e2 e3
  rcases h with ⟨h, _⟩ | ⟨g, cur, ty, hA, hF, hb, _, he⟩
  · omega
  · rw [hA] at e1
    injection e1 with e1
    subst e1
    exact ⟨g, rfl, hF, (Array.getElem?_eq_some_iff.1 hb).1, by rw [he]; exact cellsAt_block hb _⟩

/-- All that an object can reach can be read. -/
def okL (S : St) (G : Gh) (strict : Bool) (b : Nat) : Prop := G.ok b ∨ (strict = false ∧ ∃ i, live S i ∧ b ∈ G.fp i)

theorem ObjR.row_rep (M : Mem E S G w) {i : Nat} {d : Bool} {t : Ty} {l : List t.I} (ho : S.ob i = some (.row d t l)) :
    ∃ es F1, RowOk w (G.hd i) t.size l.length es F1 ∧ (∀ b ∈ F1, b ∈ G.fp i) ∧ RepL (Rep w (okL S G false) t) l es ∧ (d = false → RepL (Rep w G.ok t) l es) := by
  obtain ⟨_, _, es, F1, F2, hr, hfp, hd⟩ := M.obj i _ ho
  have hlive : live S i := ⟨_, ho, by simp⟩
  refine ⟨es, F1, hr, fun b hb => by simp [hfp, hb], ?_, fun hd' => by subst hd'; exact hd.2⟩
  cases d with
  | false => exact RepL.mono (fun _ _ h => h.mono fun b hb => .inl hb) hd.2
  | true => exact Own.rep.repL t (fun b hb => .inr ⟨rfl, i, hlive, by simp [hfp, hb]⟩) hd

/-- The part of a row at an address. -/
theorem row_part (M : Mem E S G w) {i k : Nat} {q : List PS} {a : Addr} {d : Bool} {t u : Ty} {l : List t.I} {y : V} {s s' : St} (ho : S.ob i = some (.row d t l)) (ha : adrOf G i (.elem k :: q) = some a) (hu : subTy t q = some u) (hr : (inner k q t l).run s = some (y, s')) :
    s' = s ∧ ∃ z, y = .val u z ∧ ∃ c, a.block < w.heap.size ∧ a.block ∈ G.fp i ∧ c.length = u.size ∧ Rep w (okL S G false) u z c ∧ (d = false → Rep w G.ok u z c) ∧ cellsAt w a c := by
  obtain ⟨hbx, hty, _⟩ := M.obj i _ ho
  obtain ⟨es, F1, hrow, hF, hrep, hrep'⟩ := ObjR.row_rep M ho
  obtain ⟨x, hx, hr⟩ := AM.of_ask hr
  obtain ⟨A, cap, ehd, _⟩ := id hrow
  simp only [adrOf, hbx, hty] at ha
  rw [ehd] at ha
  cases A with
  | none => cases ha
  | some a0 =>
  obtain ⟨off, hoff, ha⟩ := Option.map_eq_some_iff.1 ha
  obtain ⟨g, ea, eF, hg, hcells⟩ := hrow.cells ehd (by have := (List.getElem?_eq_some_iff.1 hx).1; omega)
  have part : ∀ (G' : Gh), RepL (Rep w G'.ok t) l es → s' = s ∧ ∃ z, y = .val u z ∧ ∃ c, c.length = u.size ∧ Rep w G'.ok u z c ∧ cellsAt w a c := by
    intro G' hrep
    obtain ⟨c₁, c, c₂, e, l1, l2, hxr, _⟩ := RepL.at (fun _ _ h => Rep.len t h) hrep hx
    obtain ⟨rfl, fu, off, d₁, d0, d₂, ho2, e', l3, l4, hy⟩ := part_sound (U := used S) (G := G') (w := w) q (fits_self t x) (cs := c) (by simpa [VR] using hxr) hu hr
    rw [hoff] at ho2
    injection ho2 with ho2
    subst ho2
    have hval : ∃ z, y = .val u z := getV_val q hu hr
    obtain ⟨z, rfl⟩ := hval
    refine ⟨rfl, z, rfl, d0, l4, by simpa [VR] using hy, ?_⟩
    rw [e, e'] at hcells
    have := (cellsAt_append hcells).2
    rw [l1, List.append_assoc] at this
    have := (cellsAt_append this).2
    rw [l3, add_add] at this
    rw [← ha]
    rw [List.append_assoc] at this
    exact (cellsAt_append this).1
  obtain ⟨rfl, z, rfl, c, l1, h1, h2⟩ := part { G with ok := okL S G false } hrep
  refine ⟨rfl, z, rfl, c, ?_, ?_, l1, h1, ?_, h2⟩
  · rw [← ha, block_add, ea]; exact hg
  · rw [← ha, block_add, ea]; exact hF _ (by simp [eF])
  · intro hd
    obtain ⟨_, z', ez, c', l2, h3, h4⟩ := part G (hrep' hd)
    injection ez with _ ez
    subst ez
    have : c' = c := by
      apply List.ext_getElem?
      intro j
      by_cases hj : j < c.length
      · have e1 := h2 j _ (List.getElem?_eq_getElem hj)
        have hj' : j < c'.length := by rw [l2, ← l1]; exact hj
        have e2 := h4 j _ (List.getElem?_eq_getElem hj')
        rw [e1] at e2
        rw [List.getElem?_eq_getElem hj, List.getElem?_eq_getElem hj']
        exact e2.symm
      · rw [List.getElem?_eq_none (by omega), List.getElem?_eq_none (by omega)]
    rw [← this]; exact h3
where
  getV_val {s s' : St} {y : V} : ∀ (q : List PS) {t u : Ty} {x : t.I}, subTy t q = some u → (getV (.val t x) q).run s = some (y, s') → ∃ z, y = .val u z
    | [], t, u, x, hu, hr => by
      simp only [subTy, Option.some.injEq] at hu
      subst hu
      obtain ⟨rfl, _⟩ := AM.of_pure hr
      exact ⟨x, rfl⟩
    | .fst :: q, t, u, x, hu, hr => by
      cases t <;> simp [subTy] at hu
      exact getV_val q hu hr
    | .snd :: q, t, u, x, hu, hr => by
      cases t <;> simp [subTy] at hu
      exact getV_val q hu hr
    | .elem k :: q, t, u, x, hu, hr => by
      cases t <;> simp [subTy] at hu
      obtain ⟨z, _, hr⟩ := AM.of_ask hr
      exact getV_val q hu hr

theorem VR.rep {t : Ty} {x : t.I} {cs : List Value} (h : VR (used S) G w (.val t x) cs) : Rep w G.ok t x cs := by simpa [VR] using h

theorem repL_nil {w : World} {ok : Nat → Prop} (t : Ty) : Rep w ok (.slc t) ([] : List t.I) [.slice none 0 0] := ⟨none, 0, rfl, Nat.le_refl _, .inl rfl⟩

theorem rep_of_row {hd : Value} {t : Ty} {l : List t.I} {es : List Value} {F : List Nat} {ok : Nat → Prop} (h : RowOk w hd t.size l.length es F) (hF : ∀ b ∈ F, ok b) (hr : RepL (Rep w ok t) l es) : Rep w ok (.slc t) l [hd] := by
  obtain ⟨A, cap, e, hn, _, _⟩ := id h
  refine ⟨A, cap, by rw [e], hn, ?_⟩
  by_cases h0 : l.length = 0
  · exact .inl (List.length_eq_zero_iff.1 h0)
  cases A with
  | none =>
    obtain ⟨A', cap', e', hn', _, h⟩ := h
    rw [e] at e'
    injection e' with e1 e2 e3
    rcases h with ⟨hc, _⟩ | ⟨g, _, _, hA, _⟩
    · exact .inl (List.length_eq_zero_iff.1 (by omega))
    · rw [← e1] at hA; cases hA
  | some a =>
    obtain ⟨g, ea, eF, hg, hc⟩ := h.cells e (by omega)
    exact .inr ⟨a, es, rfl, by rw [ea]; exact hF g (by simp [eF]), by rw [ea]; exact hg, hc, hr⟩

theorem peek_sound (M : Mem E S G w) {st : Bool} {t : Ty} {v : V} {cs : List Value} {l : List t.I} (hv : VR (used S) G w v cs) (hr : (peek st t v).run S = some (l, S')) : S' = S ∧ Rep w (okL S G st) (.slc t) l cs := by
  unfold peek at hr
  split at hr
  · obtain ⟨rfl, rfl⟩ := AM.of_pure hr
    simp only [VR] at hv
    exact ⟨rfl, by rw [hv]; exact repL_nil t⟩
  · split at hr
    · rename_i hu
      subst hu
      obtain ⟨rfl, rfl⟩ := AM.of_pure hr
      exact ⟨rfl, Rep.mono (fun b hb => .inl hb) hv.rep⟩
    · cases hr
  · obtain ⟨hst, hr⟩ := AM.of_must_bind hr
    simp only [AM.run] at hr
    obtain ⟨d, l', ho, hr⟩ := AM.of_withRow hr
    obtain ⟨rfl, rfl⟩ := AM.of_pure hr
    simp only [VR] at hv
    obtain ⟨es, F1, h1, h2, h3, _⟩ := ObjR.row_rep M ho
    have hst' : st = false := by cases st <;> simp at hst ⊢
    subst hst'
    refine ⟨rfl, ?_⟩
    rw [hv.2.2]
    exact rep_of_row h1 (fun b hb => .inr ⟨rfl, _, ⟨_, ho, by simp⟩, h2 b hb⟩) h3
  · cases hr

theorem cast_sound {st : Bool} {t : Ty} {v : V} {cs : List Value} {x : t.I} (hv : VR (used S) G w v cs) (hr : (castV t v).run S = some (x, S')) : S' = S ∧ Rep w (okL S G st) t x cs := by
  obtain ⟨rfl, rfl⟩ := AM.of_castV hr
  exact ⟨rfl, Rep.mono (fun b hb => .inl hb) hv.rep⟩

theorem peekV_sound (M : Mem E S G w) {st : Bool} : ∀ {t : Ty} {v : V} {cs : List Value} {x : t.I}, VR (used S) G w v cs → (peekV st t v).run S = some (x, S') → S' = S ∧ Rep w (okL S G st) t x cs := by
  intro t
  induction t generalizing S' with
  | slc t ih => intro v cs x hv hr; exact peek_sound M hv hr
  | pair a b iha ihb =>
    intro v cs x hv hr
    unfold peekV at hr
    split at hr
    · split at hr
      · rename_i hu
        subst hu
        obtain ⟨rfl, rfl⟩ := AM.of_pure hr
        exact ⟨rfl, Rep.mono (fun b hb => .inl hb) hv.rep⟩
      · cases hr
    · obtain ⟨x1, s1, h1, hr⟩ := AM.of_bind hr
      obtain ⟨x2, s2, h2, hr⟩ := AM.of_bind hr
      obtain ⟨rfl, rfl⟩ := AM.of_pure hr
      simp only [VR] at hv
      obtain ⟨c, d, e, v1, v2⟩ := hv
      obtain ⟨rfl, r1⟩ := iha v1 h1
      obtain ⟨rfl, r2⟩ := ihb v2 h2
      exact ⟨rfl, c, d, e, r1, r2⟩
    · cases hr
  | ptr t ih =>
    intro v cs x hv hr
    unfold peekV at hr
    split at hr
    · split at hr
      · rename_i hu
        subst hu
        obtain ⟨rfl, rfl⟩ := AM.of_pure hr
        exact ⟨rfl, Rep.mono (fun b hb => .inl hb) hv.rep⟩
      · cases hr
    · obtain ⟨hst, hr⟩ := AM.of_must_bind hr
      have hst' : st = false := by cases st <;> simp at hst ⊢
      subst hst'
      simp only [AM.run] at hr
      simp only [VR] at hv
      obtain ⟨hu, a, ha, e⟩ := hv
      split at hr
      · rename_i o t' c ho
        obtain ⟨y, s1, h1, h2⟩ := AM.of_bind hr
        clear hr
        obtain ⟨hbx, hty, _⟩ := M.obj _ _ ho
        obtain ⟨u, hsub⟩ := adr_box hbx ha
        rw [hty] at hsub
        obtain ⟨es, _, cc, hlt, hin, _, hy, hcs⟩ := box_part M ho ha hsub h1
        subst es
        obtain ⟨es, r⟩ := ih hy h2
        exact ⟨es, a, cc, e, .inr ⟨rfl, _, ⟨_, ho, by simp⟩, hin⟩, hlt, hcs, r⟩
      · rename_i o d u l ho
        split at hr
        · rename_i k q
          obtain ⟨y, s1, h1, h2⟩ := AM.of_bind hr
          clear hr
          obtain ⟨hbx, hty, _⟩ := M.obj _ _ ho
          obtain ⟨u', hsub⟩ := adr_row hbx ha
          rw [hty] at hsub
          obtain ⟨es, z, ey, cc, hlt, hin, _, hz, _, hcs⟩ := row_part M ho ha hsub h1
          subst es
          subst ey
          obtain ⟨hz', es⟩ := AM.of_castV h2
          injection hz' with e1 e2
          subst e1
          cases e2
          exact ⟨es, a, cc, e, .inr ⟨rfl, _, ⟨_, ho, by simp⟩, hin⟩, hlt, hcs, hz⟩
        · cases hr
      · cases hr
    · cases hr
  | _ => intro v cs x hv hr; exact cast_sound hv hr

/-- The blocks F are nobody's: none reads them, no live object has them. -/
structure Free (E : Env) (S : St) (G : Gh) (w : World) (F : List Nat) : Prop where
  nd : F.Nodup
  own : ∀ b ∈ F, b < w.heap.size ∧ (E.w0.heap.size ≤ b ∨ b ∈ E.md)
  nok : ∀ b ∈ F, ¬ G.ok b
  nl : ∀ i, live S i → ∀ b ∈ G.fp i, b ∉ F

/-- Objects have been taken: their blocks F are free. -/
structure Took (E : Env) (S : St) (G : Gh) (w : World) (S' : St) (F : List Nat) : Prop where
  mem : Mem E S' G w
  keeps : Keeps (used S) (used S') G G w w
  tm : S'.tm = S.tm
  free : Free E S' G w F
  sub : ∀ i, live S' i → live S i
  same : ∀ i, live S' i → S'.ob i = S.ob i
  src : ∀ b ∈ F, ∃ i, live S i ∧ b ∈ G.fp i

theorem Free.nil : Free E S G w [] := ⟨by simp, by simp, by simp, by simp⟩
theorem Took.refl (M : Mem E S G w) : Took E S G w S [] := ⟨M, Keeps.refl _ _ _, rfl, Free.nil, fun _ h => h, fun _ _ => rfl, by simp⟩
theorem Took.trans {F1 F2 : List Nat} (h : Took E S G w S1 F1) (k : Took E S1 G w S2 F2) : Took E S G w S2 (F1 ++ F2) := by
  refine ⟨k.mem, h.keeps.trans k.keeps, k.tm.trans h.tm, ⟨?_, ?_, ?_, ?_⟩, fun i hi => h.sub i (k.sub i hi), fun i hi => (k.same i hi).trans (h.same i (k.sub i hi)), ?_⟩
  · rw [List.nodup_append]
    refine ⟨h.free.nd, k.free.nd, fun b hb c hc e => ?_⟩
    subst e
    obtain ⟨i, hi, hb'⟩ := k.src b hc
    exact h.free.nl i hi b hb' hb
  · intro b hb
    rcases List.mem_append.1 hb with hb | hb
    · exact h.free.own b hb
    · exact k.free.own b hb
  · intro b hb
    rcases List.mem_append.1 hb with hb | hb
    · exact h.free.nok b hb
    · exact k.free.nok b hb
  · intro i hi b hb hm
    rcases List.mem_append.1 hm with hm | hm
    · exact h.free.nl i (k.sub i hi) b hb hm
    · exact k.free.nl i hi b hb hm
  · intro b hb
    rcases List.mem_append.1 hb with hb | hb
    · exact h.src b hb
    · obtain ⟨i, hi, hb⟩ := k.src b hb
      exact ⟨i, h.sub i hi, hb⟩

theorem Took.one (M : Mem E S G w) {i : Nat} (hl : live S i) : Took E S G w (S.putO i .gone) (G.fp i) := by
  obtain ⟨M', K⟩ := M.gone hl.used
  have hne : ∀ j, live (S.putO i .gone) j → j ≠ i := fun j hj e => by subst e; exact live_putO_same.1 hj rfl
  exact ⟨M', K, rfl, ⟨M.nd i hl, M.own i hl, fun b hb hok => (M.okl b hok).2.2 i hl hb, fun j hj b hb => M.dj j i (hne j hj) ((live_putO (hne j hj)).1 hj) hl b hb⟩,
    fun j hj => (live_putO (hne j hj)).1 hj, fun j hj => by rw [St.ob_putO, if_neg (hne j hj)], fun b hb => ⟨i, hl, hb⟩⟩

/-- What has been taken: owned with all (d), or to be read. -/
def TakeR (w : World) (ok : Nat → Prop) (d : Bool) (t : Ty) (x : t.I) (cs : List Value) (F : List Nat) : Prop := match d with
  | true => Own w t x cs F
  | false => Rep w (fun b => ok b ∨ b ∈ F) t x cs

theorem Took.row (M : Mem E S G w) {i : Nat} {d : Bool} {t : Ty} {l : List t.I} (ho : S.ob i = some (.row d t l)) : Took E S G w (S.putO i .gone) (G.fp i) ∧ Rep w (fun b => G.ok b ∨ b ∈ G.fp i) (.slc t) l [G.hd i] ∧ ((d || t.flat) = true → Own w (.slc t) l [G.hd i] (G.fp i)) := by
  have hl : live S i := ⟨_, ho, by simp⟩
  refine ⟨Took.one M hl, ?_, ?_⟩
  · obtain ⟨_, _, es, F1, F2, hr, hfp, hd⟩ := M.obj i _ ho
    refine rep_of_row hr (fun b hb => .inr (by simp [hfp, hb])) ?_
    cases d with
    | false => exact RepL.mono (fun _ _ h => h.mono fun b hb => .inl hb) hd.2
    | true => exact Own.rep.repL t (fun b hb => .inr (by simp [hfp, hb])) hd
  · intro hd'
    obtain ⟨_, _, es, F1, F2, hr, hfp, hd⟩ := M.obj i _ ho
    refine ⟨_, es, F1, F2, rfl, hfp, hr, ?_⟩
    cases d with
    | true => exact hd
    | false =>
      rw [hd.1]
      exact OwnL.of_flat (fun _ _ h => Own.of_flat t (by simpa using hd') h) hd.2

theorem take_sound {d : Bool} : ∀ {t : Ty} {S S' : St} {v : V} {cs : List Value} {x : t.I}, Mem E S G w → VR (used S) G w v cs → (take d t v).run S = some (x, S') → ∃ F, Took E S G w S' F ∧ TakeR w G.ok d t x cs F := by
  intro t
  have cast : ∀ {t : Ty} {S S' : St} {v : V} {cs : List Value} {x : t.I}, Mem E S G w → VR (used S) G w v cs → (match d && !t.flat with | false => castV t v | true => AM.fail).run S = some (x, S') → ∃ F, Took E S G w S' F ∧ TakeR w G.ok d t x cs F := by
    intro t S S' v cs x M hv hr
    split at hr
    · rename_i hd
      obtain ⟨rfl, rfl⟩ := AM.of_castV hr
      refine ⟨[], Took.refl M, ?_⟩
      cases d with
      | false => exact Rep.mono (fun b hb => .inl hb) hv.rep
      | true => exact Own.of_flat t (by simpa using hd) hv.rep
    · cases hr
  induction t with
  | slc t ih =>
    intro S S' v cs x M hv hr
    unfold take at hr
    split at hr
    · obtain ⟨rfl, rfl⟩ := AM.of_pure hr
      simp only [VR] at hv
      refine ⟨[], Took.refl M, ?_⟩
      rw [hv]
      cases d with
      | false => exact repL_nil (w := w) (ok := fun b => G.ok b ∨ b ∈ []) t
      | true => exact ⟨_, [], [], [], rfl, rfl, ⟨none, 0, rfl, Nat.le_refl _, by simp, .inl ⟨rfl, rfl⟩⟩, rfl, rfl⟩
    · split at hr
      · split at hr
        · rename_i hu
          subst hu
          obtain ⟨rfl, rfl⟩ := AM.of_pure hr
          exact ⟨[], Took.refl M, Rep.mono (fun b hb => .inl hb) hv.rep⟩
        · cases hr
      · cases hr
    · simp only [AM.run] at hr
      obtain ⟨d', l, ho, hr⟩ := AM.of_withRow hr
      obtain ⟨hm, hr⟩ := AM.of_must_bind hr
      simp only [AM.run] at hr
      simp only [Option.some.injEq, Prod.mk.injEq] at hr
      obtain ⟨rfl, rfl⟩ := hr
      simp only [VR] at hv
      obtain ⟨h1, h2, h3⟩ := Took.row M ho
      refine ⟨_, h1, ?_⟩
      rw [hv.2.2]
      cases d with
      | false => exact h2
      | true => exact h3 (by simpa using hm)
    · cases hr
  | pair a b iha ihb =>
    intro S S' v cs x M hv hr
    unfold take at hr
    split at hr
    · split at hr
      · rename_i hd
        split at hr
        · rename_i hu
          subst hu
          obtain ⟨rfl, rfl⟩ := AM.of_pure hr
          refine ⟨[], Took.refl M, ?_⟩
          cases d with
          | false => exact Rep.mono (fun b hb => .inl hb) hv.rep
          | true => exact Own.of_flat _ (by simpa using hd) hv.rep
        · cases hr
      · cases hr
    · obtain ⟨x1, s1, h1, hr⟩ := AM.of_bind hr
      obtain ⟨x2, s2, h2, hr⟩ := AM.of_bind hr
      obtain ⟨rfl, rfl⟩ := AM.of_pure hr
      simp only [VR] at hv
      obtain ⟨c, e, ec, v1, v2⟩ := hv
      obtain ⟨F1, T1, r1⟩ := iha M v1 h1
      obtain ⟨F2, T2, r2⟩ := ihb T1.mem (v2.keep T1.keeps) h2
      refine ⟨F1 ++ F2, T1.trans T2, ?_⟩
      cases d with
      | true => exact ⟨c, e, F1, F2, ec, rfl, r1, r2⟩
      | false => exact ⟨c, e, ec, Rep.mono (fun b hb => hb.imp id (fun h => by simp [h])) r1, Rep.mono (fun b hb => hb.imp id (fun h => by simp [h])) r2⟩
    · cases hr
  | _ => intro S S' v cs x M hv hr; exact cast M hv hr
end Go.Fw

/- Shapes: what is handed over to a call, and what comes back. -/
namespace Go.Fw
variable {E : Env} {S S' S1 S2 : St} {G G' G1 G2 : Gh} {w w' : World}

def Sh.agg : Sh → Bool
  | .ro t => t.isAgg
  | .pr _ _ => true
  | _ => false

mutual
def ShR (w : World) (ok : Nat → Prop) : (s : Sh) → s.ty.I → List Value → List Nat → Prop
  | .ro t, x, cs, F => F = [] ∧ Rep w ok t x cs
  | .nl, _, cs, F => cs = [.slice none 0 0] ∧ F = []
  | .row d t, l, cs, F => ∃ hd es F1 F2, cs = [hd] ∧ F = F1 ++ F2 ∧ RowOk w hd t.size l.length es F1 ∧
      match d with
      | true => OwnL (Own w t) l es F2
      | false => F2 = [] ∧ RepL (Rep w ok t) l es
  | .pin d t, l, cs, F => ∃ a hd es F1 F2, cs = [.pointer (some a)] ∧ ok a.block ∧ a.block < w.heap.size ∧ cellsAt w a [hd] ∧ F = F1 ++ F2 ∧ RowOk w hd t.size l.length es F1 ∧
      match d with
      | true => OwnL (Own w t) l es F2
      | false => F2 = [] ∧ RepL (Rep w ok t) l es
  | .box s, x, cs, F => ∃ g es e F', cs = [.pointer (some ⟨g, 0, none⟩)] ∧ F = g :: F' ∧ w.heap[g]? = some (.cells es e (0, 0)) ∧ ShR w ok s x es.toList F'
  | .pr a b, x, cs, F => ∃ c d F1 F2, cs = c ++ d ∧ F = F1 ++ F2 ∧ ShR w ok a x.1 c F1 ∧ ShR w ok b x.2 d F2
  | .clo g fs ps, x, cs, F => ∃ first caps F1 F2, cs = [.func (.func g) first caps] ∧ F = F1 ++ F2 ∧ ShC w ok fs x.1 first.toList F1 ∧ ShC w ok ps x.2 caps.toList F2
  | .bld t e, x, cs, F => ∃ g F', cs = [.pointer (some ⟨g, 0, none⟩)] ∧ F = g :: F' ∧ BldOk w t e g x F'
def ShC (w : World) (ok : Nat → Prop) : (s : Sh) → s.ty.I → List Value → List Nat → Prop
  | .pr a b, x, vs, F => ∃ c r F1 F2, vs = ofCells a.agg c :: r ∧ F = F1 ++ F2 ∧ ShR w ok a x.1 c F1 ∧ ShC w ok b x.2 r F2
  | .ro .unit, _, vs, F => vs = [] ∧ F = []
  | _, _, _, _ => False
end

mutual
theorem ShR.keep {ok ok' : Nat → Prop} (hk : ∀ b, ok b → b < w.heap.size → ok' b ∧ w'.heap[b]? = w.heap[b]?) (hz : w.heap.size ≤ w'.heap.size) :
    ∀ (s : Sh) {x : s.ty.I} {cs : List Value} {F : List Nat}, (∀ b ∈ F, w'.heap[b]? = w.heap[b]?) → ShR w ok s x cs F → ShR w' ok' s x cs F
  | .ro t, _, _, _, _, h => by
    simp only [ShR] at h ⊢
    exact ⟨h.1, h.2.keep hk hz⟩
  | .nl, _, _, _, _, h => by simpa only [ShR] using h
  | .row d t, l, cs, F, hF, h => by
    simp only [ShR] at h ⊢
    obtain ⟨hd, es, F1, F2, e, eF, hr, h⟩ := h
    refine ⟨hd, es, F1, F2, e, eF, hr.keep (fun b hb => hF b (by simp [eF, hb])), ?_⟩
    cases d with
    | true => exact OwnL.mono_mem (fun _ _ _ hG h => Own.keep t (fun b hb => hF b (by simp [eF, hG b hb])) h) h
    | false => exact ⟨h.1, RepL.mono (fun _ _ h => h.keep hk hz) h.2⟩
  | .pin d t, l, cs, F, hF, h => by
    simp only [ShR] at h ⊢
    obtain ⟨a, hd, es, F1, F2, e, hok, hlt, hc, eF, hr, h⟩ := h
    refine ⟨a, hd, es, F1, F2, e, (hk _ hok hlt).1, Nat.lt_of_lt_of_le hlt hz, cellsAt_keep hc (hk _ hok hlt).2, eF, hr.keep (fun b hb => hF b (by simp [eF, hb])), ?_⟩
    cases d with
    | true => exact OwnL.mono_mem (fun _ _ _ hG h => Own.keep t (fun b hb => hF b (by simp [eF, hG b hb])) h) h
    | false => exact ⟨h.1, RepL.mono (fun _ _ h => h.keep hk hz) h.2⟩
  | .box s, x, cs, F, hF, h => by
    simp only [ShR] at h ⊢
    obtain ⟨g, es, e, F', ec, eF, hb, h⟩ := h
    exact ⟨g, es, e, F', ec, eF, by rw [hF g (by simp [eF]), hb], ShR.keep hk hz s (fun b hb => hF b (by simp [eF, hb])) h⟩
  | .pr a b, x, cs, F, hF, h => by
    simp only [ShR] at h ⊢
    obtain ⟨c, d, F1, F2, ec, eF, h1, h2⟩ := h
    exact ⟨c, d, F1, F2, ec, eF, ShR.keep hk hz a (fun b hb => hF b (by simp [eF, hb])) h1, ShR.keep hk hz b (fun b hb => hF b (by simp [eF, hb])) h2⟩
  | .clo g fs ps, x, cs, F, hF, h => by
    simp only [ShR] at h ⊢
    obtain ⟨c, d, F1, F2, ec, eF, h1, h2⟩ := h
    exact ⟨c, d, F1, F2, ec, eF, ShC.keep hk hz fs (fun b hb => hF b (by simp [eF, hb])) h1, ShC.keep hk hz ps (fun b hb => hF b (by simp [eF, hb])) h2⟩
  | .bld t e, x, cs, F, hF, h => by
    simp only [ShR] at h ⊢
    obtain ⟨g, F', ec, eF, h⟩ := h
    exact ⟨g, F', ec, eF, h.keep fun b hb => hF b (by rw [eF]; exact hb)⟩
theorem ShC.keep {ok ok' : Nat → Prop} (hk : ∀ b, ok b → b < w.heap.size → ok' b ∧ w'.heap[b]? = w.heap[b]?) (hz : w.heap.size ≤ w'.heap.size) :
    ∀ (s : Sh) {x : s.ty.I} {cs : List Value} {F : List Nat}, (∀ b ∈ F, w'.heap[b]? = w.heap[b]?) → ShC w ok s x cs F → ShC w' ok' s x cs F
  | .pr a b, x, cs, F, hF, h => by
    simp only [ShC] at h ⊢
    obtain ⟨c, d, F1, F2, ec, eF, h1, h2⟩ := h
    exact ⟨c, d, F1, F2, ec, eF, ShR.keep hk hz a (fun b hb => hF b (by simp [eF, hb])) h1, ShC.keep hk hz b (fun b hb => hF b (by simp [eF, hb])) h2⟩
  | .ro .unit, _, _, _, _, h => by simpa [ShC] using h
  | .ro (.int _), _, _, _, _, h => by simp [ShC] at h
  | .ro .bool, _, _, _, _, h => by simp [ShC] at h
  | .ro .str, _, _, _, _, h => by simp [ShC] at h
  | .ro .err, _, _, _, _, h => by simp [ShC] at h
  | .ro .fn, _, _, _, _, h => by simp [ShC] at h
  | .ro (.pair _ _), _, _, _, _, h => by simp [ShC] at h
  | .ro (.arr _ _), _, _, _, _, h => by simp [ShC] at h
  | .ro (.slc _), _, _, _, _, h => by simp [ShC] at h
  | .ro (.ptr _), _, _, _, _, h => by simp [ShC] at h
  | .row _ _, _, _, _, _, h => by simp [ShC] at h
  | .pin _ _, _, _, _, _, h => by simp [ShC] at h
  | .box _, _, _, _, _, h => by simp [ShC] at h
  | .clo _ _ _, _, _, _, _, h => by simp [ShC] at h
  | .bld _ _, _, _, _, _, h => by simp [ShC] at h
end
theorem ShR.mono {ok ok' : Nat → Prop} (hk : ∀ b, ok b → ok' b) {s : Sh} {x : s.ty.I} {cs : List Value} {F : List Nat} (h : ShR w ok s x cs F) : ShR w ok' s x cs F :=
  ShR.keep (fun b hb _ => ⟨hk b hb, rfl⟩) (Nat.le_refl _) s (fun _ _ => rfl) h
theorem ShC.mono {ok ok' : Nat → Prop} (hk : ∀ b, ok b → ok' b) {s : Sh} {x : s.ty.I} {cs : List Value} {F : List Nat} (h : ShC w ok s x cs F) : ShC w ok' s x cs F :=
  ShC.keep (fun b hb _ => ⟨hk b hb, rfl⟩) (Nat.le_refl _) s (fun _ _ => rfl) h

/-- What has been taken: owned (F), and to be read from now on (K). -/
def inK (G : Gh) (K : List Nat) (b : Nat) : Prop := G.ok b ∨ b ∈ K

theorem Free.sub {F1 F2 : List Nat} (h : Free E S G w (F1 ++ F2)) : Free E S G w F1 ∧ Free E S G w F2 :=
  ⟨⟨(List.nodup_append.1 h.nd).1, fun b hb => h.own b (by simp [hb]), fun b hb => h.nok b (by simp [hb]), fun i hi b hb hm => h.nl i hi b hb (by simp [hm])⟩,
   ⟨(List.nodup_append.1 h.nd).2.1, fun b hb => h.own b (by simp [hb]), fun b hb => h.nok b (by simp [hb]), fun i hi b hb hm => h.nl i hi b hb (by simp [hm])⟩⟩
theorem Took.perm {F F' : List Nat} (h : Took E S G w S' F) (p : F.Perm F') : Took E S G w S' F' :=
  ⟨h.mem, h.keeps, h.tm, ⟨p.nodup_iff.1 h.free.nd, fun b hb => h.free.own b (p.mem_iff.2 hb), fun b hb => h.free.nok b (p.mem_iff.2 hb), fun i hi b hb hm => h.free.nl i hi b hb (p.mem_iff.2 hm)⟩, h.sub, h.same, fun b hb => h.src b (p.mem_iff.2 hb)⟩
theorem Took.trans2 {F1 F2 K1 K2 : List Nat} (h : Took E S G w S1 (F1 ++ K1)) (k : Took E S1 G w S2 (F2 ++ K2)) : Took E S G w S2 ((F1 ++ F2) ++ (K1 ++ K2)) := by
  refine (h.trans k).perm ?_
  have h1 : (F1 ++ K1 ++ (F2 ++ K2)).Perm (F1 ++ (K1 ++ F2) ++ K2) := by simp [List.append_assoc]
  have h2 : (F1 ++ F2 ++ (K1 ++ K2)).Perm (F1 ++ (F2 ++ K1) ++ K2) := by simp [List.append_assoc]
  exact h1.trans (((List.perm_append_comm.append_left F1).append_right K2).trans h2.symm)

theorem V.fst_agg {v x y : V} (h1 : v.fst = some x) (h2 : v.snd = some y) {cs : List Value} (hv : VR (used S) G w v cs) : v.agg = true ∧ ∃ c d, cs = c ++ d ∧ VR (used S) G w x c ∧ VR (used S) G w y d := by
  cases v <;> simp [V.fst, V.snd] at h1 h2
  case val t z =>
    cases t <;> simp at h1 h2
    subst h1; subst h2
    simp only [VR, Rep] at hv ⊢
    exact ⟨rfl, hv⟩
  case pr a b =>
    subst h1; subst h2
    simp only [VR] at hv
    exact ⟨rfl, hv⟩

mutual
/-- What is lent is of the right type. -/
def LentR (G : Gh) : Sh → V → Prop
  | .ro t, v => fits t v = true
  | .nl, v => match v with
    | .nil => True
    | _ => False
  | .row _ t, v => match v with
    | .nil => True
    | .hdr i => G.ty i = t
    | _ => False
  | .pin _ t, v => match v with
    | .pin i => G.ty i = t
    | _ => False
  | .box s, v => match v with
    | .adr i [] => G.bx i = true ∧ G.ty i = s.mty
    | _ => False
  | .pr a b, v => ∃ x y, v.fst = some x ∧ v.snd = some y ∧ LentR G a x ∧ LentR G b y
  | .clo _ fs ps, v => match v with
    | .clo _ x y => LentC G fs x ∧ LentC G ps y
    | _ => False
  | .bld _ _, v => match v with
    | .adr i [] => G.bx i = true
    | _ => False
def LentC (G : Gh) : Sh → V → Prop
  | .pr a b, v => match v with
    | .pr x y => LentR G a x ∧ LentC G b y
    | _ => False
  | .ro .unit, _ => True
  | _, _ => False
end
mutual
theorem LentR.keep (h : Keeps (used S) (used S') G G' w w') : ∀ (s : Sh) {v : V} {cs : List Value}, VR (used S) G w v cs → LentR G s v → LentR G' s v
  | .ro _, _, _, _, hl => by simpa [LentR] using hl
  | .nl, v, _, _, hl => by cases v <;> simp only [LentR] at hl ⊢
  | .row _ t, v, _, hv, hl => by
    cases v <;> simp only [LentR] at hl ⊢
    simp only [VR] at hv
    rw [h.ty _ hv.1]; exact hl
  | .pin _ t, v, _, hv, hl => by
    cases v <;> simp only [LentR] at hl ⊢
    simp only [VR] at hv
    rw [h.ty _ hv.1]; exact hl
  | .box s, v, _, hv, hl => by
    unfold LentR at hl ⊢
    split at hl
    · simp only [VR] at hv
      exact ⟨by rw [h.bx _ hv.1]; exact hl.1, by rw [h.ty _ hv.1]; exact hl.2⟩
    · exact hl.elim
  | .pr a b, v, _, hv, hl => by
    simp only [LentR] at hl ⊢
    obtain ⟨x, y, h1, h2, h3, h4⟩ := hl
    obtain ⟨_, c, d, _, v1, v2⟩ := V.fst_agg h1 h2 hv
    exact ⟨x, y, h1, h2, LentR.keep h a v1 h3, LentR.keep h b v2 h4⟩
  | .clo _ fs ps, v, _, hv, hl => by
    cases v <;> simp only [LentR] at hl ⊢
    simp only [VR] at hv
    obtain ⟨_, _, _, c1, c2⟩ := hv
    exact ⟨LentC.keep h fs c1 hl.1, LentC.keep h ps c2 hl.2⟩
  | .bld _ _, v, _, hv, hl => by
    unfold LentR at hl ⊢
    split at hl
    · simp only [VR] at hv
      show _ = true
      rw [h.bx _ hv.1]; exact hl
    · exact hl.elim
theorem LentC.keep (h : Keeps (used S) (used S') G G' w w') : ∀ (s : Sh) {v : V} {vs : List Value}, CR (used S) G w v vs → LentC G s v → LentC G' s v
  | .pr a b, v, _, hv, hl => by
    cases v <;> simp only [LentC] at hl ⊢
    simp only [CR] at hv
    obtain ⟨_, _, _, c1, c2⟩ := hv
    exact ⟨LentR.keep h a c1 hl.1, LentC.keep h b c2 hl.2⟩
  | .ro .unit, _, _, _, hl => by simp [LentC]
  | .ro (.int _), _, _, _, hl => by simp [LentC] at hl
  | .ro .bool, _, _, _, hl => by simp [LentC] at hl
  | .ro .str, _, _, _, hl => by simp [LentC] at hl
  | .ro .err, _, _, _, hl => by simp [LentC] at hl
  | .ro .fn, _, _, _, hl => by simp [LentC] at hl
  | .ro (.pair _ _), _, _, _, hl => by simp [LentC] at hl
  | .ro (.arr _ _), _, _, _, hl => by simp [LentC] at hl
  | .ro (.slc _), _, _, _, hl => by simp [LentC] at hl
  | .ro (.ptr _), _, _, _, hl => by simp [LentC] at hl
  | .nl, _, _, _, hl => by simp [LentC] at hl
  | .row _ _, _, _, _, hl => by simp [LentC] at hl
  | .pin _ _, _, _, _, hl => by simp [LentC] at hl
  | .box _, _, _, _, hl => by simp [LentC] at hl
  | .clo _ _ _, _, _, _, hl => by simp [LentC] at hl
  | .bld _ _, _, _, _, hl => by simp [LentC] at hl
end

theorem take_fits {d : Bool} : ∀ {t : Ty} {S S' : St} {v : V} {x : t.I}, (take d t v).run S = some (x, S') → fits t v = true := by
  intro t
  have cast : ∀ {t : Ty} {S S' : St} {v : V} {x : t.I}, (match d && !t.flat with | false => castV t v | true => AM.fail).run S = some (x, S') → fits t v = true := by
    intro t S S' v x hr
    split at hr
    · obtain ⟨rfl, _⟩ := AM.of_castV hr
      exact fits_self _ _
    · cases hr
  induction t with
  | slc t _ =>
    intro S S' v x hr
    unfold take at hr
    split at hr
    · rfl
    · split at hr
      · split at hr
        · rename_i hu; subst hu; exact fits_self _ _
        · cases hr
      · cases hr
    · rfl
    · cases hr
  | pair a b iha ihb =>
    intro S S' v x hr
    unfold take at hr
    split at hr
    · split at hr
      · split at hr
        · rename_i hu; subst hu; exact fits_self _ _
        · cases hr
      · cases hr
    · obtain ⟨x1, s1, h1, h2⟩ := AM.of_bind hr
      obtain ⟨x2, s2, h3, _⟩ := AM.of_bind h2
      simp [fits, iha h1, ihb h3]
    · cases hr
  | _ => intro S S' v x hr; exact cast hr

def Sh.size : Sh → Nat
  | .ro t => t.size
  | .pr a b => a.size + b.size
  | _ => 1

theorem Ty.size_of_agg : ∀ (t : Ty), t.isAgg = false → t.size = 1 := by intro t h; cases t <;> simp [Ty.isAgg, Ty.size] at h ⊢
theorem Sh.size_of_agg : ∀ (s : Sh), s.agg = false → s.size = 1 := by
  intro s h
  cases s <;> simp [Sh.agg, Sh.size] at h ⊢
  exact Ty.size_of_agg _ h

theorem ShR.len {ok : Nat → Prop} : ∀ (s : Sh) {x : s.ty.I} {cs : List Value} {F : List Nat}, ShR w ok s x cs F → cs.length = s.size
  | .ro t, _, _, _, h => by simp only [ShR] at h; exact Rep.len t h.2
  | .nl, _, _, _, h => by simp only [ShR] at h; rw [h.1]; rfl
  | .row _ _, _, _, _, h => by simp only [ShR] at h; obtain ⟨_, _, _, _, e, _⟩ := h; rw [e]; rfl
  | .pin _ _, _, _, _, h => by simp only [ShR] at h; obtain ⟨_, _, _, _, _, e, _⟩ := h; rw [e]; rfl
  | .box _, _, _, _, h => by simp only [ShR] at h; obtain ⟨_, _, _, _, e, _⟩ := h; rw [e]; rfl
  | .pr a b, _, _, _, h => by
    simp only [ShR] at h
    obtain ⟨c, d, F1, F2, e, _, h1, h2⟩ := h
    rw [e, List.length_append, ShR.len a h1, ShR.len b h2]; rfl
  | .clo _ _ _, _, _, _, h => by simp only [ShR] at h; obtain ⟨_, _, _, _, e, _⟩ := h; rw [e]; rfl
  | .bld _ _, _, _, _, h => by simp only [ShR] at h; obtain ⟨_, _, e, _⟩ := h; rw [e]; rfl
theorem LentR.len : ∀ (s : Sh) {v : V} {cs : List Value}, VR (used S) G w v cs → LentR G s v → cs.length = s.size ∧ v.agg = s.agg
  | .ro t, _, _, hv, hl => by simp only [LentR] at hl; exact VR.len hl hv
  | .nl, v, _, hv, hl => by
    cases v <;> simp only [LentR] at hl
    simp only [VR] at hv; rw [hv]; exact ⟨rfl, rfl⟩
  | .row _ _, v, _, hv, hl => by
    cases v <;> simp only [LentR] at hl
    · simp only [VR] at hv; rw [hv]; exact ⟨rfl, rfl⟩
    · simp only [VR] at hv; rw [hv.2.2]; exact ⟨rfl, rfl⟩
  | .pin _ _, v, _, hv, hl => by
    cases v <;> simp only [LentR] at hl
    simp only [VR] at hv
    obtain ⟨_, _, a, e, _⟩ := hv
    rw [e]; exact ⟨rfl, rfl⟩
  | .box _, v, _, hv, hl => by
    unfold LentR at hl
    split at hl
    · simp only [VR] at hv
      obtain ⟨_, a, _, e⟩ := hv
      rw [e]; exact ⟨rfl, rfl⟩
    · exact hl.elim
  | .pr a b, v, _, hv, hl => by
    simp only [LentR] at hl
    obtain ⟨x, y, h1, h2, h3, h4⟩ := hl
    obtain ⟨hag, c, d, e, v1, v2⟩ := V.fst_agg h1 h2 hv
    rw [e, List.length_append, (LentR.len a v1 h3).1, (LentR.len b v2 h4).1]
    exact ⟨rfl, hag⟩
  | .clo _ fs ps, v, _, hv, hl => by
    cases v <;> simp only [LentR] at hl
    simp only [VR] at hv
    obtain ⟨_, _, e, _⟩ := hv
    rw [e]; exact ⟨rfl, rfl⟩
  | .bld _ _, v, _, hv, hl => by
    unfold LentR at hl
    split at hl
    · simp only [VR] at hv
      obtain ⟨_, a, _, e⟩ := hv
      rw [e]; exact ⟨rfl, rfl⟩
    · exact hl.elim
theorem ofCells_inj {agg : Bool} {c d : List Value} (h : ofCells agg c = ofCells agg d) (hc : agg = false → c.length = 1) (hd : agg = false → d.length = 1) : c = d := by
  cases agg with
  | true => simpa [ofCells] using h
  | false =>
    have hc := hc rfl
    have hd := hd rfl
    match c, d, hc, hd with
    | [x], [y], _, _ => simpa [ofCells] using h

mutual
theorem pack_sound : ∀ (s : Sh) {S S' : St} {v : V} {cs : List Value} {x : s.ty.I}, Mem E S G w → VR (used S) G w v cs → (pack s v).run S = some (x, S') →
    ∃ F K, Took E S G w S' (F ++ K) ∧ ShR w (inK G K) s x cs F ∧ v.agg = s.agg ∧ LentR G s v
  | .ro t, S, S', v, cs, x, M, hv, hr => by
    unfold pack at hr
    obtain ⟨F, T, h⟩ := take_sound M hv hr
    refine ⟨[], F, T, ?_, (VR.len (take_fits hr) hv).2, by simp only [LentR]; exact take_fits hr⟩
    simp only [ShR]; exact ⟨trivial, h⟩
  | .nl, S, S', v, cs, x, M, hv, hr => by
    unfold pack at hr
    split at hr
    · obtain ⟨rfl, rfl⟩ := AM.of_pure hr
      simp only [VR] at hv
      exact ⟨[], [], Took.refl M, by simp only [ShR]; exact ⟨hv, trivial⟩, rfl, by simp only [LentR]⟩
    · cases hr
  | .row d t, S, S', v, cs, x, M, hv, hr => by
    unfold pack at hr
    split at hr
    · obtain ⟨rfl, rfl⟩ := AM.of_pure hr
      refine ⟨[], [], Took.refl M, ?_, rfl, by simp [LentR]⟩
      simp only [VR] at hv
      simp only [ShR]
      refine ⟨_, [], [], [], hv, rfl, ⟨none, 0, rfl, Nat.le_refl _, by simp, .inl ⟨rfl, rfl⟩⟩, ?_⟩
      cases d with
      | true => exact ⟨rfl, rfl⟩
      | false => exact ⟨rfl, rfl⟩
    · rename_i i
      simp only [AM.run] at hr
      split at hr
      · rename_i t' l k q u c ho
        obtain ⟨hd, hr⟩ := AM.of_must_bind hr
        subst hd
        simp only [AM.run] at hr
        obtain ⟨d', y, hc, hr⟩ := AM.of_withRow hr
        obtain ⟨hm, hr⟩ := AM.of_must_bind hr
        obtain ⟨x0, hx, hr⟩ := AM.of_ask hr
        obtain ⟨z, s1, hz, hr⟩ := AM.of_bind hr
        obtain ⟨z', s2, hz', hr⟩ := AM.of_bind hr
        split at hr
        · rename_i ht
          subst ht
          simp only [AM.run, Option.some.injEq, Prod.mk.injEq] at hr
          obtain ⟨rfl, rfl⟩ := hr
          obtain ⟨hbx, hty, hbc, huc, ea, eb, off, F1, F2, _, _, hrow, hfp, hole⟩ := M.obj _ _ ho
          obtain ⟨Tc, _, hown⟩ := Took.row M hc
          have hown := hown hm
          obtain ⟨e1, z0, F', ez, hl, hp⟩ := hole w y (G.hd c) (G.fp c) (fun _ _ => rfl) hown x0 z _ _ hx hz
          subst e1
          obtain ⟨ez', e2⟩ := AM.of_castV hz'
          subst e2
          rw [ez] at ez'
          injection ez' with _ ez'
          subst ez'
          have hic : i ≠ c := by
            rintro rfl
            rw [ho] at hc
            cases hc
          have Ti := Took.one Tc.mem (i := i) ⟨_, by rw [St.ob_putO, if_neg hic]; exact ho, by simp⟩
          have T2 := Tc.trans Ti
          have p : (G.fp c ++ G.fp i).Perm ((F1 ++ F') ++ []) := by
            rw [hfp, List.append_nil]
            have h1 : (G.fp c ++ (F1 ++ F2)).Perm ((F1 ++ F2) ++ G.fp c) := List.perm_append_comm
            refine h1.trans ?_
            rw [List.append_assoc]
            exact hp.symm.append_left F1
          simp only [VR] at hv
          refine ⟨F1 ++ F', [], T2.perm p, ?_, rfl, by simp only [LentR]; exact hty⟩
          simp only [ShR]
          refine ⟨_, _, F1, F', hv.2.2, rfl, ?_, hl⟩
          rw [show (castL rfl (l.set k z0)).length = l.length from List.length_set]
          exact hrow
        · cases hr
      rename_i hno
      obtain ⟨d', l, ho, hr⟩ := AM.of_withRow hr
      obtain ⟨hm, hr⟩ := AM.of_must_bind hr
      simp only [AM.run, Option.some.injEq, Prod.mk.injEq] at hr
      obtain ⟨rfl, rfl⟩ := hr
      have hd : d' = d := by simpa using hm
      subst hd
      simp only [VR] at hv
      obtain ⟨_, hty, es, F1, F2, hrow, hfp, hd⟩ := M.obj _ _ ho
      refine ⟨_, [], by simpa using (Took.row M ho).1, ?_, rfl, by simp only [LentR]; exact hty⟩
      simp only [ShR]
      refine ⟨_, es, F1, F2, hv.2.2, hfp, hrow, ?_⟩
      cases d' with
      | true => exact hd
      | false => exact ⟨hd.1, RepL.mono (fun _ _ h => h.mono fun b hb => .inl hb) hd.2⟩
    · cases hr
  | .pin d t, S, S', v, cs, x, M, hv, hr => by
    unfold pack at hr
    split at hr
    · rename_i i
      simp only [AM.run] at hr
      obtain ⟨d', l, ho, hr⟩ := AM.of_withRow hr
      obtain ⟨hm, hr⟩ := AM.of_must_bind hr
      simp only [AM.run, Option.some.injEq, Prod.mk.injEq] at hr
      obtain ⟨rfl, rfl⟩ := hr
      have hd : d' = d := by simpa using hm
      subst hd
      simp only [VR] at hv
      obtain ⟨_, hty, es, F1, F2, hrow, hfp, hd⟩ := M.obj _ _ ho
      obtain ⟨_, _, a, ec, hok, hlt, hcl⟩ := hv
      refine ⟨_, [], by simpa using (Took.row M ho).1, ?_, rfl, by simp only [LentR]; exact hty⟩
      simp only [ShR]
      refine ⟨a, _, es, F1, F2, ec, .inl hok, hlt, hcl, hfp, hrow, ?_⟩
      cases d' with
      | true => exact hd
      | false => exact ⟨hd.1, RepL.mono (fun _ _ h => h.mono fun b hb => .inl hb) hd.2⟩
    · cases hr
  | .box s, S, S', v, cs, x, M, hv, hr => by
    unfold pack at hr
    split at hr
    · rename_i i
      simp only [AM.run] at hr
      split at hr
      · rename_i o t c ho
        obtain ⟨hm, hr1⟩ := AM.of_must_bind hr
        clear hr
        simp only [AM.run] at hr1
        have ht : t = s.mty := by simpa using hm
        subst ht
        have T := Took.one M (i := i) ⟨_, ho, by simp⟩
        obtain ⟨hbx, hty, hf, g, es, e, hhd, hfp, hb, hc⟩ := M.obj _ _ ho
        obtain ⟨F, K, T2, h, _, _⟩ := pack_sound s T.mem (hc.keep T.keeps) hr1
        rw [hfp] at T
        simp only [VR] at hv
        obtain ⟨hu, a, ha, ec⟩ := hv
        refine ⟨g :: F, K, by simpa using T.trans T2, ?_, rfl, by simp only [LentR]; exact ⟨hbx, hty⟩⟩
        simp only [adrOf, hbx, hhd, offT, Option.map_some, Option.some.injEq, add_zero] at ha
        subst ha
        simp only [ShR]
        exact ⟨g, es, e, F, ec, rfl, hb, h⟩
      · cases hr
    · cases hr
  | .pr a b, S, S', v, cs, x, M, hv, hr => by
    unfold pack at hr
    split at hr
    · rename_i y z hy hz
      obtain ⟨hag, c, d, ec, v1, v2⟩ := V.fst_agg hy hz hv
      obtain ⟨x1, s1, h1, h2⟩ := AM.of_bind hr
      obtain ⟨x2, s2, h3, h4⟩ := AM.of_bind h2
      obtain ⟨rfl, rfl⟩ := AM.of_pure h4
      obtain ⟨F1, K1, T1, r1, _, l1⟩ := pack_sound a M v1 h1
      obtain ⟨F2, K2, T2, r2, _, l2⟩ := pack_sound b T1.mem (v2.keep T1.keeps) h3
      refine ⟨F1 ++ F2, K1 ++ K2, T1.trans2 T2, ?_, hag, by simp only [LentR]; exact ⟨y, z, hy, hz, l1, l2⟩⟩
      simp only [ShR]
      exact ⟨c, d, F1, F2, ec, rfl, r1.mono fun b hb => hb.imp id (fun h => by simp [h]), r2.mono fun b hb => hb.imp id (fun h => by simp [h])⟩
    · cases hr
  | .clo g fs ps, S, S', v, cs, x, M, hv, hr => by
    unfold pack at hr
    split at hr
    · obtain ⟨hg, hr⟩ := AM.of_must_bind hr
      obtain ⟨x1, s1, h1, h2⟩ := AM.of_bind hr
      obtain ⟨x2, s2, h3, h4⟩ := AM.of_bind h2
      obtain ⟨rfl, rfl⟩ := AM.of_pure h4
      simp only [VR] at hv
      obtain ⟨first, caps, ec, c1, c2⟩ := hv
      obtain ⟨F1, K1, T1, r1, l1⟩ := packC_sound fs M c1 h1
      obtain ⟨F2, K2, T2, r2, l2⟩ := packC_sound ps T1.mem (c2.keep T1.keeps) h3
      refine ⟨F1 ++ F2, K1 ++ K2, T1.trans2 T2, ?_, rfl, by simp only [LentR]; exact ⟨l1, l2⟩⟩
      simp only [ShR]
      have hg' := beq_iff_eq.1 hg
      subst hg'
      exact ⟨first, caps, F1, F2, ec, rfl, r1.mono fun b hb => hb.imp id (fun h => by simp [h]), r2.mono fun b hb => hb.imp id (fun h => by simp [h])⟩
    · cases hr
  | .bld t e, S, S', v, cs, x, M, hv, hr => by
    unfold pack at hr
    split at hr
    · rename_i i
      simp only [AM.run] at hr
      split at hr
      · rename_i o t' e' x' ho
        obtain ⟨hm, hr1⟩ := AM.of_must_bind hr
        clear hr
        simp only [AM.run, Option.some.injEq, Prod.mk.injEq] at hr1
        obtain ⟨rfl, rfl⟩ := hr1
        simp only [Bool.and_eq_true, beq_iff_eq] at hm
        obtain ⟨rfl, rfl⟩ := hm
        have T := Took.one M (i := i) ⟨_, ho, by simp⟩
        obtain ⟨hbx, g, F, hhd, hfp, hb⟩ := M.obj _ _ ho
        simp only [VR] at hv
        obtain ⟨hu, a, ha, ec⟩ := hv
        rw [hfp] at T
        refine ⟨g :: F, [], by simpa using T, ?_, rfl, by simp only [LentR]; exact hbx⟩
        simp only [adrOf, hbx, hhd, offT, Option.map_some, Option.some.injEq, add_zero] at ha
        subst ha
        simp only [ShR]
        exact ⟨g, F, ec, rfl, hb⟩
      · cases hr
    · cases hr
theorem packC_sound : ∀ (s : Sh) {S S' : St} {v : V} {vs : List Value} {x : s.ty.I}, Mem E S G w → CR (used S) G w v vs → (packC s v).run S = some (x, S') →
    ∃ F K, Took E S G w S' (F ++ K) ∧ ShC w (inK G K) s x vs F ∧ LentC G s v
  | .pr a b, S, S', v, vs, x, M, hv, hr => by
    unfold packC at hr
    split at hr
    · obtain ⟨x1, s1, h1, h2⟩ := AM.of_bind hr
      obtain ⟨x2, s2, h3, h4⟩ := AM.of_bind h2
      obtain ⟨rfl, rfl⟩ := AM.of_pure h4
      simp only [CR] at hv
      obtain ⟨c, r, ec, c1, c2⟩ := hv
      obtain ⟨F1, K1, T1, r1, hag, l1⟩ := pack_sound a M c1 h1
      obtain ⟨F2, K2, T2, r2, l2⟩ := packC_sound b T1.mem (c2.keep T1.keeps) h3
      refine ⟨F1 ++ F2, K1 ++ K2, T1.trans2 T2, ?_, by simp only [LentC]; exact ⟨l1, l2⟩⟩
      simp only [ShC]
      exact ⟨c, r, F1, F2, by rw [ec, hag], rfl, r1.mono fun b hb => hb.imp id (fun h => by simp [h]), r2.mono fun b hb => hb.imp id (fun h => by simp [h])⟩
    · cases hr
  | .ro .unit, S, S', v, vs, x, M, hv, hr => by
    unfold packC at hr
    split at hr
    · obtain ⟨rfl, rfl⟩ := AM.of_pure hr
      simp only [CR] at hv
      refine ⟨[], [], Took.refl M, ?_, by simp [LentC]⟩
      simp only [ShC]
      exact ⟨hv, trivial⟩
    · cases hr
  | .ro (.int _), _, _, _, _, _, _, _, hr => by unfold packC at hr; cases hr
  | .ro .bool, _, _, _, _, _, _, _, hr => by unfold packC at hr; cases hr
  | .ro .str, _, _, _, _, _, _, _, hr => by unfold packC at hr; cases hr
  | .ro .err, _, _, _, _, _, _, _, hr => by unfold packC at hr; cases hr
  | .ro .fn, _, _, _, _, _, _, _, hr => by unfold packC at hr; cases hr
  | .ro (.pair _ _), _, _, _, _, _, _, _, hr => by unfold packC at hr; cases hr
  | .ro (.arr _ _), _, _, _, _, _, _, _, hr => by unfold packC at hr; cases hr
  | .ro (.slc _), _, _, _, _, _, _, _, hr => by unfold packC at hr; cases hr
  | .ro (.ptr _), _, _, _, _, _, _, _, hr => by unfold packC at hr; cases hr
  | .row _ _, _, _, _, _, _, _, _, hr => by unfold packC at hr; cases hr
  | .pin _ _, _, _, _, _, _, _, _, hr => by unfold packC at hr; cases hr
  | .box _, _, _, _, _, _, _, _, hr => by unfold packC at hr; cases hr
  | .clo _ _ _, _, _, _, _, _, _, _, hr => by unfold packC at hr; cases hr
  | .bld _ _, _, _, _, _, _, _, _, hr => by unfold packC at hr; cases hr
end

/-! ### What comes over -/
theorem Free.perm {F F' : List Nat} (h : Free E S G w F) (p : F.Perm F') : Free E S G w F' :=
  ⟨p.nodup_iff.1 h.nd, fun b hb => h.own b (p.mem_iff.2 hb), fun b hb => h.nok b (p.mem_iff.2 hb), fun i hi b hb hm => h.nl i hi b hb (p.mem_iff.2 hm)⟩

/-- Objects have been made of the free blocks F. -/
structure Gave (E : Env) (S : St) (G : Gh) (w : World) (S' : St) (G' : Gh) (F : List Nat) : Prop where
  mem : Mem E S' G' w
  keeps : Keeps (used S) (used S') G G' w w
  tm : S'.tm = S.tm
  ok : G'.ok = G.ok
  src : ∀ i, live S' i → (live S i ∧ G'.fp i = G.fp i) ∨ ∀ b ∈ G'.fp i, b ∈ F

theorem Gave.refl (M : Mem E S G w) : Gave E S G w S G [] := ⟨M, Keeps.refl _ _ _, rfl, rfl, fun _ h => .inl ⟨h, rfl⟩⟩
theorem Gave.trans {F1 F2 : List Nat} (h : Gave E S G w S1 G1 F1) (k : Gave E S1 G1 w S2 G2 F2) : Gave E S G w S2 G2 (F1 ++ F2) := by
  refine ⟨k.mem, h.keeps.trans k.keeps, k.tm.trans h.tm, k.ok.trans h.ok, fun i hi => ?_⟩
  rcases k.src i hi with ⟨h1, e1⟩ | h1
  · rcases h.src i h1 with ⟨h2, e2⟩ | h2
    · exact .inl ⟨h2, e1.trans e2⟩
    · exact .inr fun b hb => by rw [e1] at hb; simp [h2 b hb]
  · exact .inr fun b hb => by simp [h1 b hb]
theorem Gave.free {F1 F2 : List Nat} (h : Gave E S G w S1 G1 F1) (f : Free E S G w (F1 ++ F2)) : Free E S1 G1 w F2 := by
  have f2 := f.sub.2
  refine ⟨f2.nd, f2.own, fun b hb => by rw [h.ok]; exact f2.nok b hb, fun i hi b hb hm => ?_⟩
  rcases h.src i hi with ⟨h1, e1⟩ | h1
  · rw [e1] at hb; exact f2.nl i h1 b hb hm
  · exact (List.nodup_append.1 f.nd).2.2 b (h1 b hb) b hm rfl
theorem Gave.more {F F' : List Nat} (h : Gave E S G w S1 G1 F) (hF : ∀ b ∈ F, b ∈ F') : Gave E S G w S1 G1 F' :=
  ⟨h.mem, h.keeps, h.tm, h.ok, fun i hi => (h.src i hi).imp id fun k b hb => hF b (k b hb)⟩

/-- One object more, of free blocks. -/
theorem Gave.one (M : Mem E S G w) {i : Nat} {o : Obj} {hd : Value} {bx : Bool} {ty : Ty} {F : List Nat} (hi : S.ob i = none ∨ (S.ob i = some .gone ∧ hd = G.hd i ∧ bx = G.bx i ∧ ty = G.ty i)) (hh : bx = false → ∃ A n c, hd = .slice A n c) (f : Free E S G w F)
    (ho : Keeps (used S) (used (S.putO i o)) G (G.set i hd bx ty F) w w → ObjR (used (S.putO i o)) (G.set i hd bx ty F) w i o) :
    Gave E S G w (S.putO i o) (G.set i hd bx ty F) F := by
  obtain ⟨M', K⟩ := Mem.put (Ch := fun _ => False) (w' := w) M (hi.imp id (·.2)) hh (KeptBut.refl _ w) (fun _ _ h => h.elim) (fun j _ hj b hb => ⟨id, fun _ => f.nl j hj b hb⟩) (fun b hb => ⟨id, fun _ hm => f.nok b hm hb⟩) (fun _ => f.nd) (fun _ => f.own) ho
  refine ⟨M', K, rfl, rfl, fun j hj => ?_⟩
  by_cases hji : j = i
  · subst hji
    exact .inr fun b hb => by simpa [Gh.set, upd] using hb
  · exact .inl ⟨(live_putO hji).1 hj, by simp [Gh.set, upd, hji]⟩

theorem mkpr_agg (x y : V) : (mkpr x y).agg = true := by unfold mkpr; split <;> rfl

theorem set_hd (G : Gh) (i : Nat) (hd : Value) (bx : Bool) (ty : Ty) (fp : List Nat) : (G.set i hd bx ty fp).hd i = hd ∧ (G.set i hd bx ty fp).bx i = bx ∧ (G.set i hd bx ty fp).ty i = ty ∧ (G.set i hd bx ty fp).fp i = fp := by simp [Gh.set, upd]

theorem used_put (S : St) (i : Nat) (o : Obj) : used (S.putO i o) i := used_putO.2 (.inl rfl)

theorem Gave.row (M : Mem E S G w) {i : Nat} {d : Bool} {t : Ty} {l : List t.I} {hd : Value} {es : List Value} {F1 F2 : List Nat} (hi : S.ob i = none ∨ (S.ob i = some .gone ∧ hd = G.hd i ∧ false = G.bx i ∧ t = G.ty i)) (f : Free E S G w (F1 ++ F2))
    (hr : RowOk w hd t.size l.length es F1) (hd' : match d with | true => OwnL (Own w t) l es F2 | false => F2 = [] ∧ RepL (Rep w G.ok t) l es) :
    Gave E S G w (S.putO i (.row d t l)) (G.set i hd false t (F1 ++ F2)) (F1 ++ F2) := by
  refine Gave.one M hi (fun _ => by obtain ⟨A, cap, e, _⟩ := hr; exact ⟨A, _, cap, e⟩) f fun _ => ?_
  obtain ⟨h1, h2, h3, h4⟩ := set_hd G i hd false t (F1 ++ F2)
  exact ⟨h2, h3, es, F1, F2, by rw [h1]; exact hr, h4, hd'⟩

theorem Gave.box (M : Mem E S G w) {i : Nat} {t : Ty} {v : V} {g : Nat} {cs : Array Value} {e : TypeId} (hi : S.ob i = none ∨ (S.ob i = some .gone ∧ .pointer (some ⟨g, 0, none⟩) = G.hd i ∧ true = G.bx i ∧ t = G.ty i)) (f : Free E S G w [g])
    (hb : w.heap[g]? = some (.cells cs e (0, 0))) (hf : fits t v = true) (hv : VR (used S) G w v cs.toList) :
    Gave E S G w (S.putO i (.box t v)) (G.set i (.pointer (some ⟨g, 0, none⟩)) true t [g]) [g] := by
  refine Gave.one M hi (fun h => by cases h) f fun K => ?_
  obtain ⟨h1, h2, h3, h4⟩ := set_hd G i (.pointer (some ⟨g, 0, none⟩)) true t [g]
  exact ⟨h2, h3, hf, g, cs, e, h1, h4, hb, hv.keep K⟩

theorem Gave.bld (M : Mem E S G w) {i : Nat} {t e : TypeId} {x : ByteArray} {g : Nat} {F : List Nat} {ty : Ty} (hi : S.ob i = none ∨ (S.ob i = some .gone ∧ .pointer (some ⟨g, 0, none⟩) = G.hd i ∧ true = G.bx i ∧ ty = G.ty i)) (f : Free E S G w (g :: F))
    (hb : BldOk w t e g x F) : Gave E S G w (S.putO i (.bld t e x)) (G.set i (.pointer (some ⟨g, 0, none⟩)) true ty (g :: F)) (g :: F) := by
  refine Gave.one M hi (fun h => by cases h) f fun K => ?_
  obtain ⟨h1, h2, h3, h4⟩ := set_hd G i (.pointer (some ⟨g, 0, none⟩)) true ty (g :: F)
  exact ⟨h2, g, F, h1, h4, hb⟩

theorem adr_root (S : St) (G : Gh) (i : Nat) (t : Ty) (v : V) (g : Nat) (w : World) : VR (used (S.putO i (.box t v))) (G.set i (.pointer (some ⟨g, 0, none⟩)) true t [g]) w (.adr i []) [.pointer (some ⟨g, 0, none⟩)] := by
  simp only [VR]
  obtain ⟨h1, h2, h3, h4⟩ := set_hd G i (.pointer (some ⟨g, 0, none⟩)) true t [g]
  exact ⟨used_put _ _ _, ⟨g, 0, none⟩, by simp [adrOf, h1, h2, offT, add_zero], rfl⟩

mutual
theorem unpack_sound : ∀ (s : Sh) {S S' : St} {G : Gh} {x : s.ty.I} {cs : List Value} {F : List Nat} {c c' : Nat} {v : V}, Mem E S G w → Free E S G w F → ShR w G.ok s x cs F → (unpack s x c).run S = some ((v, c'), S') →
    ∃ G', Gave E S G w S' G' F ∧ VR (used S') G' w v cs ∧ (s.data = true → fits s.mty v = true) ∧ v.agg = s.agg
  | .ro t, S, S', G, x, cs, F, c, c', v, M, f, h, hr => by
    unfold unpack at hr
    obtain ⟨e, rfl⟩ := AM.of_pure hr
    injection e with e1 e2
    subst e1
    simp only [ShR] at h
    rw [h.1]
    exact ⟨G, Gave.refl M, by simp only [VR]; exact h.2, fun _ => fits_self _ _, rfl⟩
  | .nl, S, S', G, x, cs, F, c, c', v, M, f, h, hr => by
    unfold unpack at hr
    obtain ⟨e, rfl⟩ := AM.of_pure hr
    injection e with e1 e2
    subst e1
    simp only [ShR] at h
    rw [h.2]
    exact ⟨G, Gave.refl M, by simp only [VR]; exact h.1, (fun h => absurd h (by decide)), rfl⟩
  | .row d t, S, S', G, l, cs, F, c, c', v, M, f, h, hr => by
    unfold unpack at hr
    obtain ⟨_, s1, h1, h2⟩ := AM.of_bind hr
    obtain ⟨hc, rfl⟩ := AM.of_newO h1
    obtain ⟨e, rfl⟩ := AM.of_pure h2
    injection e with e1 e2
    subst e1
    simp only [ShR] at h
    obtain ⟨hd, es, F1, F2, ec, eF, hrow, hd'⟩ := h
    subst eF
    refine ⟨_, Gave.row M (.inl hc) f hrow (by cases d <;> exact hd'), ?_, fun _ => rfl, rfl⟩
    simp only [VR]
    obtain ⟨h1, h2, _, _⟩ := set_hd G c hd false t (F1 ++ F2)
    exact ⟨used_put _ _ _, h2, by rw [h1, ec]⟩
  | .pin d t, S, S', G, l, cs, F, c, c', v, M, f, h, hr => by
    unfold unpack at hr
    obtain ⟨_, s1, h1, h2⟩ := AM.of_bind hr
    obtain ⟨hc, rfl⟩ := AM.of_newO h1
    obtain ⟨e, rfl⟩ := AM.of_pure h2
    injection e with e1 e2
    subst e1
    simp only [ShR] at h
    obtain ⟨a, hd, es, F1, F2, ec, hok, hlt, hcl, eF, hrow, hd'⟩ := h
    subst eF
    refine ⟨_, Gave.row M (.inl hc) f hrow (by cases d <;> exact hd'), ?_, (fun h => absurd h (by simp [Sh.data])), rfl⟩
    simp only [VR]
    obtain ⟨h1, h2, _, _⟩ := set_hd G c hd false t (F1 ++ F2)
    exact ⟨used_put _ _ _, h2, a, ec, hok, hlt, by rw [h1]; exact hcl⟩
  | .box s, S, S', G, x, cs, F, c, c', v, M, f, h, hr => by
    unfold unpack at hr
    obtain ⟨hdat, hr⟩ := AM.of_must_bind hr
    obtain ⟨v1, s1, h1, h2⟩ := AM.of_bind hr
    obtain ⟨_, s2, h3, h4⟩ := AM.of_bind h2
    obtain ⟨hc, rfl⟩ := AM.of_newO h3
    obtain ⟨e, rfl⟩ := AM.of_pure h4
    injection e with e1 e2
    subst e1
    simp only [ShR] at h
    obtain ⟨g, es, e, F', ec, eF, hb, h⟩ := h
    subst eF
    have f' : Free E S G w (F' ++ [g]) := f.perm (by simpa using (List.perm_append_comm (l₁ := [g]) (l₂ := F')))
    obtain ⟨G1, g1, hv, hf, _⟩ := unpack_sound s M f'.sub.1 h h1
    have g2 := Gave.box (i := c) (t := s.mty) g1.mem (.inl hc) (g1.free f') hb (hf hdat) hv
    refine ⟨_, (g1.trans g2).more (fun b hb => by simpa [or_comm] using hb), ?_, fun _ => rfl, rfl⟩
    rw [ec]
    exact adr_root _ _ _ _ _ _ _
  | .pr a b, S, S', G, x, cs, F, c, c', v, M, f, h, hr => by
    unfold unpack at hr
    obtain ⟨v1, s1, h1, h2⟩ := AM.of_bind hr
    obtain ⟨v2, s2, h3, h4⟩ := AM.of_bind h2
    obtain ⟨e, rfl⟩ := AM.of_pure h4
    injection e with e1 e2
    subst e1
    simp only [ShR] at h
    obtain ⟨d1, d2, F1, F2, ec, eF, r1, r2⟩ := h
    subst eF
    obtain ⟨G1, g1, w1, f1, _⟩ := unpack_sound a M f.sub.1 r1 h1
    obtain ⟨G2, g2, w2, f2, _⟩ := unpack_sound b g1.mem (g1.free f) (by rw [g1.ok]; exact r2) h3
    refine ⟨G2, g1.trans g2, ?_, fun h => ?_, mkpr_agg _ _⟩
    · rw [ec]
      exact VR_mkpr (w1.keep g2.keeps) w2
    · simp only [Sh.data, Bool.and_eq_true] at h
      exact fits_mkpr (f1 h.1) (f2 h.2)
  | .clo g fs ps, S, S', G, x, cs, F, c, c', v, M, f, h, hr => by
    unfold unpack at hr
    obtain ⟨v1, s1, h1, h2⟩ := AM.of_bind hr
    obtain ⟨v2, s2, h3, h4⟩ := AM.of_bind h2
    obtain ⟨e, rfl⟩ := AM.of_pure h4
    injection e with e1 e2
    subst e1
    simp only [ShR] at h
    obtain ⟨first, caps, F1, F2, ec, eF, r1, r2⟩ := h
    subst eF
    obtain ⟨G1, g1, w1⟩ := unpackC_sound fs M f.sub.1 r1 h1
    obtain ⟨G2, g2, w2⟩ := unpackC_sound ps g1.mem (g1.free f) (by rw [g1.ok]; exact r2) h3
    refine ⟨G2, g1.trans g2, ?_, fun _ => rfl, rfl⟩
    rw [ec]
    simp only [VR]
    exact ⟨first, caps, rfl, w1.keep g2.keeps, w2⟩
  | .bld t e, S, S', G, x, cs, F, c, c', v, M, f, h, hr => by
    unfold unpack at hr
    obtain ⟨_, s1, h1, h2⟩ := AM.of_bind hr
    obtain ⟨hc, rfl⟩ := AM.of_newO h1
    obtain ⟨e0, rfl⟩ := AM.of_pure h2
    injection e0 with e1 e2
    subst e1
    simp only [ShR] at h
    obtain ⟨g, F', ec, eF, hb⟩ := h
    subst eF
    have g2 := Gave.bld M (ty := .unit) (.inl hc) f hb
    refine ⟨_, g2, ?_, (fun h => absurd h (by simp [Sh.data])), rfl⟩
    rw [ec]
    simp only [VR]
    obtain ⟨h1, h2, h3, h4⟩ := set_hd G c (.pointer (some ⟨g, 0, none⟩)) true .unit (g :: F')
    exact ⟨used_put _ _ _, ⟨g, 0, none⟩, by simp [adrOf, h1, h2, offT, add_zero], rfl⟩
theorem unpackC_sound : ∀ (s : Sh) {S S' : St} {G : Gh} {x : s.ty.I} {vs : List Value} {F : List Nat} {c c' : Nat} {v : V}, Mem E S G w → Free E S G w F → ShC w G.ok s x vs F → (unpackC s x c).run S = some ((v, c'), S') →
    ∃ G', Gave E S G w S' G' F ∧ CR (used S') G' w v vs
  | .pr a b, S, S', G, x, vs, F, c, c', v, M, f, h, hr => by
    unfold unpackC at hr
    obtain ⟨v1, s1, h1, h2⟩ := AM.of_bind hr
    obtain ⟨v2, s2, h3, h4⟩ := AM.of_bind h2
    obtain ⟨e, rfl⟩ := AM.of_pure h4
    injection e with e1 e2
    subst e1
    simp only [ShC] at h
    obtain ⟨d1, d2, F1, F2, ec, eF, r1, r2⟩ := h
    subst eF
    obtain ⟨G1, g1, w1, _, ag⟩ := unpack_sound a M f.sub.1 r1 h1
    obtain ⟨G2, g2, w2⟩ := unpackC_sound b g1.mem (g1.free f) (by rw [g1.ok]; exact r2) h3
    refine ⟨G2, g1.trans g2, ?_⟩
    simp only [CR]
    exact ⟨d1, d2, by rw [ec, ag], w1.keep g2.keeps, w2⟩
  | .ro .unit, S, S', G, x, vs, F, c, c', v, M, f, h, hr => by
    unfold unpackC at hr
    obtain ⟨e, rfl⟩ := AM.of_pure hr
    injection e with e1 e2
    subst e1
    simp only [ShC] at h
    rw [h.2]
    exact ⟨G, Gave.refl M, by simp only [CR]; exact h.1⟩
  | .ro (.int _), _, _, _, _, _, _, _, _, _, _, _, h, _ => by simp [ShC] at h
  | .ro .bool, _, _, _, _, _, _, _, _, _, _, _, h, _ => by simp [ShC] at h
  | .ro .str, _, _, _, _, _, _, _, _, _, _, _, h, _ => by simp [ShC] at h
  | .ro .err, _, _, _, _, _, _, _, _, _, _, _, h, _ => by simp [ShC] at h
  | .ro .fn, _, _, _, _, _, _, _, _, _, _, _, h, _ => by simp [ShC] at h
  | .ro (.pair _ _), _, _, _, _, _, _, _, _, _, _, _, h, _ => by simp [ShC] at h
  | .ro (.arr _ _), _, _, _, _, _, _, _, _, _, _, _, h, _ => by simp [ShC] at h
  | .ro (.slc _), _, _, _, _, _, _, _, _, _, _, _, h, _ => by simp [ShC] at h
  | .ro (.ptr _), _, _, _, _, _, _, _, _, _, _, _, h, _ => by simp [ShC] at h
  | .row _ _, _, _, _, _, _, _, _, _, _, _, _, h, _ => by simp [ShC] at h
  | .pin _ _, _, _, _, _, _, _, _, _, _, _, _, h, _ => by simp [ShC] at h
  | .box _, _, _, _, _, _, _, _, _, _, _, _, h, _ => by simp [ShC] at h
  | .clo _ _ _, _, _, _, _, _, _, _, _, _, _, _, h, _ => by simp [ShC] at h
  | .bld _ _, _, _, _, _, _, _, _, _, _, _, _, h, _ => by simp [ShC] at h
end

/-! ### What comes back -/
mutual
theorem back_sound : ∀ (s : Sh) {S S' : St} {G : Gh} {x : s.ty.I} {cs : List Value} {F : List Nat} {c c' : Nat} {v : V}, Mem E S G w → Free E S G w F → VR (used S) G w v cs → LentR G s v → ShR w G.ok s x cs F → (back s v x c).run S = some (c', S') →
    ∃ G', Gave E S G w S' G' F
  | .ro t, S, S', G, x, cs, F, c, c', v, M, f, hv, hl, h, hr => by
    unfold back at hr
    obtain ⟨_, rfl⟩ := AM.of_pure hr
    simp only [ShR] at h
    rw [h.1]
    exact ⟨G, Gave.refl M⟩
  | .nl, S, S', G, x, cs, F, c, c', v, M, f, hv, hl, h, hr => by
    unfold back at hr
    obtain ⟨_, rfl⟩ := AM.of_pure hr
    simp only [ShR] at h
    rw [h.2]
    exact ⟨G, Gave.refl M⟩
  | .row d t, S, S', G, l, cs, F, c, c', v, M, f, hv, hl, h, hr => by
    unfold back at hr
    split at hr
    · obtain ⟨_, rfl⟩ := AM.of_pure hr
      exact ⟨G, (Gave.refl M).more (by simp)⟩
    · rename_i i
      obtain ⟨_, s1, h1, h2⟩ := AM.of_bind hr
      obtain ⟨hc, rfl⟩ := AM.of_againO h1
      obtain ⟨_, rfl⟩ := AM.of_pure h2
      simp only [ShR] at h
      simp only [LentR] at hl
      simp only [VR] at hv
      obtain ⟨hd, es, F1, F2, ec, eF, hrow, hd'⟩ := h
      subst eF
      have e : hd = G.hd i := by rw [ec] at hv; simpa using hv.2.2
      exact ⟨_, Gave.row M (.inr ⟨hc, e, hv.2.1.symm, hl.symm⟩) f hrow (by cases d <;> exact hd')⟩
    · cases hr
  | .pin d t, S, S', G, l, cs, F, c, c', v, M, f, hv, hl, h, hr => by
    unfold back at hr
    split at hr
    · rename_i i
      obtain ⟨_, s1, h1, h2⟩ := AM.of_bind hr
      obtain ⟨hc, rfl⟩ := AM.of_againO h1
      obtain ⟨_, rfl⟩ := AM.of_pure h2
      simp only [ShR] at h
      simp only [LentR] at hl
      simp only [VR] at hv
      obtain ⟨a, hd, es, F1, F2, ec, _, _, hcl, eF, hrow, hd'⟩ := h
      obtain ⟨_, hbx, a', ec', _, _, hcl'⟩ := hv
      subst eF
      have ea : a = a' := by rw [ec] at ec'; simpa using ec'
      subst ea
      have e : hd = G.hd i := by
        have h1 := hcl 0 hd rfl
        have h2 := hcl' 0 (G.hd i) rfl
        rw [h1] at h2
        exact Option.some.inj h2
      exact ⟨_, Gave.row M (.inr ⟨hc, e, hbx.symm, hl.symm⟩) f hrow (by cases d <;> exact hd')⟩
    · cases hr
  | .box s, S, S', G, x, cs, F, c, c', v, M, f, hv, hl, h, hr => by
    unfold back at hr
    split at hr
    · rename_i i
      obtain ⟨hdat, hr⟩ := AM.of_must_bind hr
      obtain ⟨v1, s1, h1, h2⟩ := AM.of_bind hr
      obtain ⟨_, s2, h3, h4⟩ := AM.of_bind h2
      obtain ⟨hc, rfl⟩ := AM.of_againO h3
      obtain ⟨_, rfl⟩ := AM.of_pure h4
      simp only [ShR] at h
      obtain ⟨g, es, e, F', ec, eF, hb, h⟩ := h
      subst eF
      have f' : Free E S G w (F' ++ [g]) := f.perm (by simpa using (List.perm_append_comm (l₁ := [g]) (l₂ := F')))
      obtain ⟨G1, g1, hv1, hf, _⟩ := unpack_sound s M f'.sub.1 h h1
      simp only [LentR] at hl
      simp only [VR] at hv
      obtain ⟨hu, a, ha, ea⟩ := hv
      have hhd : G.hd i = .pointer (some ⟨g, 0, none⟩) := by
        unfold adrOf at ha
        rw [hl.1] at ha
        cases hh : G.hd i <;> rw [hh] at ha <;> try (cases ha; done)
        rename_i A
        cases A with
        | none => cases ha
        | some a0 =>
          simp only [offT, Option.map_some, Option.some.injEq, add_zero] at ha
          subst ha
          rw [ec] at ea
          simp only [List.cons.injEq, and_true] at ea
          rw [← ea]
      have g2 := Gave.box (i := i) (t := s.mty) g1.mem (.inr ⟨hc, by rw [g1.keeps.hd i hu, hhd], by rw [g1.keeps.bx i hu, hl.1], by rw [g1.keeps.ty i hu, hl.2]⟩) (g1.free f') hb (hf hdat) hv1
      exact ⟨_, (g1.trans g2).more (fun b hb => by simpa [or_comm] using hb)⟩
    · cases hr
  | .pr a b, S, S', G, x, cs, F, c, c', v, M, f, hv, hl, h, hr => by
    unfold back at hr
    split at hr
    · rename_i y z hy hz
      obtain ⟨c1, s1, h1, h2⟩ := AM.of_bind hr
      simp only [LentR] at hl
      obtain ⟨y', z', hy', hz', l1, l2⟩ := hl
      rw [hy] at hy'; rw [hz] at hz'
      cases hy'; cases hz'
      obtain ⟨_, d1, d2, ec, v1, v2⟩ := V.fst_agg hy hz hv
      simp only [ShR] at h
      obtain ⟨e1, e2, F1, F2, ec', eF, r1, r2⟩ := h
      subst eF
      have hlen : d1 = e1 ∧ d2 = e2 := by
        rw [ec] at ec'
        exact List.append_inj ec' ((LentR.len a v1 l1).1.trans (ShR.len a r1).symm)
      obtain ⟨rfl, rfl⟩ := hlen
      obtain ⟨G1, g1⟩ := back_sound a M f.sub.1 v1 l1 r1 h1
      obtain ⟨G2, g2⟩ := back_sound b g1.mem (g1.free f) (v2.keep g1.keeps) (LentR.keep g1.keeps b v2 l2) (by rw [g1.ok]; exact r2) h2
      exact ⟨G2, g1.trans g2⟩
    · cases hr
  | .clo g fs ps, S, S', G, x, cs, F, c, c', v, M, f, hv, hl, h, hr => by
    unfold back at hr
    split at hr
    · obtain ⟨c1, s1, h1, h2⟩ := AM.of_bind hr
      simp only [LentR] at hl
      simp only [VR] at hv
      obtain ⟨first, caps, ec, v1, v2⟩ := hv
      simp only [ShR] at h
      obtain ⟨first', caps', F1, F2, ec', eF, r1, r2⟩ := h
      subst eF
      rw [ec] at ec'
      simp only [List.cons.injEq, Value.func.injEq, and_true] at ec'
      obtain ⟨_, e1, e2⟩ := ec'
      subst e1; subst e2
      obtain ⟨G1, g1⟩ := backC_sound fs M f.sub.1 v1 hl.1 r1 h1
      obtain ⟨G2, g2⟩ := backC_sound ps g1.mem (g1.free f) (v2.keep g1.keeps) (LentC.keep g1.keeps ps v2 hl.2) (by rw [g1.ok]; exact r2) h2
      exact ⟨G2, g1.trans g2⟩
    · cases hr
  | .bld t e, S, S', G, x, cs, F, c, c', v, M, f, hv, hl, h, hr => by
    unfold back at hr
    split at hr
    · rename_i i
      obtain ⟨_, s2, h3, h4⟩ := AM.of_bind hr
      obtain ⟨hc, rfl⟩ := AM.of_againO h3
      obtain ⟨_, rfl⟩ := AM.of_pure h4
      simp only [ShR] at h
      obtain ⟨g, F', ec, eF, hb⟩ := h
      subst eF
      simp only [LentR] at hl
      simp only [VR] at hv
      obtain ⟨hu, a, ha, ea⟩ := hv
      have hhd : G.hd i = .pointer (some ⟨g, 0, none⟩) := by
        unfold adrOf at ha
        rw [hl] at ha
        cases hh : G.hd i <;> rw [hh] at ha <;> try (cases ha; done)
        rename_i A
        cases A with
        | none => cases ha
        | some a0 =>
          simp only [offT, Option.map_some, Option.some.injEq, add_zero] at ha
          subst ha
          rw [ec] at ea
          simp only [List.cons.injEq, and_true] at ea
          rw [← ea]
      exact ⟨_, Gave.bld (ty := G.ty i) M (.inr ⟨hc, hhd.symm, hl.symm, rfl⟩) f hb⟩
    · cases hr
theorem backC_sound : ∀ (s : Sh) {S S' : St} {G : Gh} {x : s.ty.I} {vs : List Value} {F : List Nat} {c c' : Nat} {v : V}, Mem E S G w → Free E S G w F → CR (used S) G w v vs → LentC G s v → ShC w G.ok s x vs F → (backC s v x c).run S = some (c', S') →
    ∃ G', Gave E S G w S' G' F
  | .pr a b, S, S', G, x, vs, F, c, c', v, M, f, hv, hl, h, hr => by
    unfold backC at hr
    split at hr
    · obtain ⟨c1, s1, h1, h2⟩ := AM.of_bind hr
      simp only [LentC] at hl
      simp only [CR] at hv
      obtain ⟨d, r, ec, v1, v2⟩ := hv
      simp only [ShC] at h
      obtain ⟨d', r', F1, F2, ec', eF, r1, r2⟩ := h
      subst eF
      rw [ec] at ec'
      simp only [List.cons.injEq] at ec'
      obtain ⟨e1, e2⟩ := ec'
      subst e2
      obtain ⟨n1, n2⟩ := LentR.len a v1 hl.1
      have : d = d' := by
        rw [n2] at e1
        exact ofCells_inj e1 (fun h => by rw [n1]; exact Sh.size_of_agg a h) (fun h => by rw [ShR.len a r1]; exact Sh.size_of_agg a h)
      subst this
      obtain ⟨G1, g1⟩ := back_sound a M f.sub.1 v1 hl.1 r1 h1
      obtain ⟨G2, g2⟩ := backC_sound b g1.mem (g1.free f) (v2.keep g1.keeps) (LentC.keep g1.keeps b v2 hl.2) (by rw [g1.ok]; exact r2) h2
      exact ⟨G2, g1.trans g2⟩
    · cases hr
  | .ro .unit, S, S', G, x, vs, F, c, c', v, M, f, hv, hl, h, hr => by
    unfold backC at hr
    obtain ⟨_, rfl⟩ := AM.of_pure hr
    exact ⟨G, (Gave.refl M).more (by simp)⟩
  | .ro (.int _), _, _, _, _, _, _, _, _, _, _, _, _, _, h, _ => by simp [ShC] at h
  | .ro .bool, _, _, _, _, _, _, _, _, _, _, _, _, _, h, _ => by simp [ShC] at h
  | .ro .str, _, _, _, _, _, _, _, _, _, _, _, _, _, h, _ => by simp [ShC] at h
  | .ro .err, _, _, _, _, _, _, _, _, _, _, _, _, _, h, _ => by simp [ShC] at h
  | .ro .fn, _, _, _, _, _, _, _, _, _, _, _, _, _, h, _ => by simp [ShC] at h
  | .ro (.pair _ _), _, _, _, _, _, _, _, _, _, _, _, _, _, h, _ => by simp [ShC] at h
  | .ro (.arr _ _), _, _, _, _, _, _, _, _, _, _, _, _, _, h, _ => by simp [ShC] at h
  | .ro (.slc _), _, _, _, _, _, _, _, _, _, _, _, _, _, h, _ => by simp [ShC] at h
  | .ro (.ptr _), _, _, _, _, _, _, _, _, _, _, _, _, _, h, _ => by simp [ShC] at h
  | .row _ _, _, _, _, _, _, _, _, _, _, _, _, _, _, h, _ => by simp [ShC] at h
  | .pin _ _, _, _, _, _, _, _, _, _, _, _, _, _, _, h, _ => by simp [ShC] at h
  | .box _, _, _, _, _, _, _, _, _, _, _, _, _, _, h, _ => by simp [ShC] at h
  | .clo _ _ _, _, _, _, _, _, _, _, _, _, _, _, _, _, h, _ => by simp [ShC] at h
  | .bld _ _, _, _, _, _, _, _, _, _, _, _, _, _, _, h, _ => by simp [ShC] at h
end
end Go.Fw

/- What the table of types must be, and what the machine's operations on memory do. -/
namespace Go.Fw
variable {P : Program} {w : World}

def zeroCells_ : Ty → List Value
  | .int k => [.int k 0]
  | .bool => [.bool false]
  | .str => [.string ⟨#[]⟩]
  | .err => [.nilIface]
  | .unit => []
  | .fn => [.nilFunc]
  | .pair a b => zeroCells_ a ++ zeroCells_ b
  | .arr n t => (List.replicate n (zeroCells_ t)).flatten
  | .slc _ => [.slice none 0 0]
  | .ptr _ => [.pointer none]

def FieldsOk (P : Program) : List Field → Ty → Nat → Prop
  | [], .unit, _ => True
  | f :: r, .pair a b, off => f.offset = off ∧ (∃ i, P.info? f.type = some i ∧ i.size = a.size) ∧ (isAgg f.type).run P default = .ok a.isAgg default ∧ FieldsOk P r b (off + a.size)
  | _, _, _ => False

/-- A type's description fits what the table says. -/
def DescOk (P : Program) (T : Nat → Option TI) (i : TI) : Ty → TypeDesc → Prop
  | .int k, d => d = .int k
  | .bool, d => d = .bool
  | .str, d => d = .string
  | .err, d => ∃ m, d = .interface m
  | .fn, d => ∃ a b c, d = .func a b c
  | .ptr _, d => ∃ e, d = .pointer e
  | .slc e, d => d = .slice i.elem ∧ ∃ j, T i.elem = some j ∧ j.ty = e
  | .arr n e, d => d = .array n i.elem ∧ ∃ j, T i.elem = some j ∧ j.ty = e
  | .unit, d => ∃ fs, d = .struct fs ∧ FieldsOk P fs.toList .unit 0
  | .pair a b, d => ∃ fs, d = .struct fs ∧ FieldsOk P fs.toList (.pair a b) 0

def scaD : Ty → Option TypeDesc
  | .int k => some (.int k)
  | .bool => some .bool
  | _ => none
/-- A field that is a number, a truth value, or an array of such. -/
def FldEq (P : Program) (t : TypeId) (a : Ty) : Prop := match a with
  | .arr m u => ∃ el s fe, P.underlying t = some (.array m el) ∧ scaD u = some s ∧ P.underlying el = some s ∧ P.info? el = some fe ∧ fe.size = 1
  | a => ∃ s, scaD a = some s ∧ P.underlying t = some s
def FieldsEq (P : Program) : List Field → Ty → Prop
  | [], .unit => True
  | f :: r, .pair a b => f.name ≠ "_" ∧ FldEq P f.type a ∧ FieldsEq P r b
  | _, _ => False
/-- What is to be known of a type whose values are compared part by part. -/
def EqOk (P : Program) (t : TypeId) (i : TI) : Prop := P.eqGuardType P.depth t = false ∧ (match i.ty with
  | .arr _ e => ∃ s, scaD e = some s ∧ P.underlying i.elem = some s
  | .pair a b => P.stoodInHeld t = false ∧ FieldsEq P (P.fieldsOf t).toList (.pair a b)
  | _ => False)

structure TOk (P : Program) (T : Nat → Option TI) (t : TypeId) (i : TI) : Prop where
  desc : ∃ d, P.underlying t = some d ∧ DescOk P T i i.ty d
  info : ∃ f, P.info? t = some f ∧ f.size = i.ty.size ∧ f.bytes = i.bytes ∧ ∃ z, f.zero = some z ∧ z.cells.toList = zeroCells_ i.ty
  eq : i.ty.eqT = true → EqOk P t i

def TsOk (P : Program) (T : Nat → Option TI) : Prop := ∀ t i, T t = some i → TOk P T t i

section
variable {T : Nat → Option TI} {t : TypeId} {i : TI}

def aggD : TypeDesc → Bool
  | .struct _ => true
  | .array _ _ => true
  | _ => false
theorem run_isAgg_of {d : TypeDesc} (h : P.underlying t = some d) : (isAgg t).run P w = .ok (aggD d) w := by
  simp only [isAgg, Sem.run_bind, run_underlying h, Result.andThen_ok]
  cases d <;> rfl

theorem TOk.agg (h : TOk P T t i) (w : World) : (isAgg t).run P w = .ok i.ty.isAgg w := by
  obtain ⟨d, hd, hk⟩ := h.desc
  rw [run_isAgg_of hd]
  cases hty : i.ty <;> rw [hty] at hk <;> simp only [DescOk] at hk
  case int => subst hk; rfl
  case bool => subst hk; rfl
  case str => subst hk; rfl
  case unit => obtain ⟨_, e, _⟩ := hk; subst e; rfl
  case fn => obtain ⟨_, _, _, e⟩ := hk; subst e; rfl
  case err => obtain ⟨_, e⟩ := hk; subst e; rfl
  case pair => obtain ⟨_, e, _⟩ := hk; subst e; rfl
  case arr => rw [hk.1]; rfl
  case slc => rw [hk.1]; rfl
  case ptr => obtain ⟨_, e⟩ := hk; subst e; rfl
theorem TOk.size (h : TOk P T t i) (w : World) : (sizeOf t).run P w = .ok i.ty.size w := by
  obtain ⟨f, hf, hs, _⟩ := h.info
  simp [sizeOf, typeInfo, hf, hs]
theorem isAgg_any {t : TypeId} {b : Bool} (h : (isAgg t).run P default = .ok b default) (w : World) : (isAgg t).run P w = .ok b w := by
  cases hd : P.underlying t with
  | none => simp [isAgg, underlying, hd] at h
  | some d =>
    rw [run_isAgg_of hd] at h ⊢
    injection h with h _
    rw [h]

/-! ### Reading -/
theorem run_loadVar {cs : List Value} {a : Addr} {sz : Nat} {ag : Bool} (hsz : (sizeOf t).run P w = .ok sz w) (hag : (isAgg t).run P w = .ok ag w) (h1 : ag = false → sz = 1) (hc : cellsAt w a cs) (hl : cs.length = sz) : (loadVar t a).run P w = .ok (ofCells ag cs) w := by
  simp only [loadVar, Sem.run_bind, hag, Result.andThen_ok]
  cases ag with
  | true =>
    simp only [if_true, Sem.run_bind, hsz, Result.andThen_ok, ofCells]
    rw [← hl, run_loadCells_list w a cs hc]
    rfl
  | false =>
    have := h1 rfl
    match cs, hl, hc with
    | [v], _, hc =>
      have := hc 0 v rfl
      rw [add_zero] at this
      simp [this, ofCells]
    | [], hl, _ => simp at hl; omega
    | _ :: _ :: _, hl, _ => simp at hl; omega
theorem TOk.load (h : TOk P T t i) {cs : List Value} {a : Addr} (hc : cellsAt w a cs) (hl : cs.length = i.ty.size) : (Instr.loadAt t (.pointer (some a))).run P w = .ok (ofCells i.ty.isAgg cs) w := by
  simp only [Instr.loadAt, Instr.sureAddr, Sem.run_bind, Sem.run_pure, Result.andThen_ok]
  exact run_loadVar (h.size w) (h.agg w) (fun e => Ty.size_of_agg _ e) hc hl

/-! ### One cell each -/
theorem RepL.all {α : Type} {R : α → List Value → Prop} {p : Value → Prop} (h : ∀ x c, R x c → ∀ v ∈ c, p v) : ∀ {l : List α} {cs : List Value}, RepL R l cs → ∀ v ∈ cs, p v
  | [], _, hl, v, hv => by rw [show _ = [] from hl] at hv; simp at hv
  | _ :: _, _, ⟨c, d, e, hx, hl⟩, v, hv => by
    rw [e] at hv
    rcases List.mem_append.1 hv with hv | hv
    · exact h _ _ hx v hv
    · exact RepL.all h hl v hv
theorem Rep.one {ok : Nat → Prop} : ∀ (t : Ty) {x : t.I} {cs : List Value}, Rep w ok t x cs → ∀ v ∈ cs, v.oneCell' = true
  | .int _, _, _, h, v, hv => by rw [show _ = [_] from h] at hv; simp at hv; rw [hv]; rfl
  | .bool, _, _, h, v, hv => by rw [show _ = [_] from h] at hv; simp at hv; rw [hv]; rfl
  | .str, _, _, h, v, hv => by rw [show _ = [_] from h] at hv; simp at hv; rw [hv]; rfl
  | .err, _, _, h, v, hv => by rcases h with ⟨_, e⟩ | ⟨_, _, _, e⟩ <;> (rw [e] at hv; simp at hv; rw [hv]; rfl)
  | .unit, _, _, h, v, hv => by rw [show _ = [] from h] at hv; simp at hv
  | .pair a b, _, _, ⟨c, d, e, h1, h2⟩, v, hv => by
    rw [e] at hv
    rcases List.mem_append.1 hv with hv | hv
    · exact Rep.one a h1 v hv
    · exact Rep.one b h2 v hv
  | .arr n t, _, _, ⟨_, h⟩, v, hv => RepL.all (fun _ _ h => Rep.one t h) h v hv
  | .slc _, _, _, ⟨_, _, e, _⟩, v, hv => by rw [e] at hv; simp at hv; rw [hv]; rfl
  | .ptr _, _, _, ⟨_, _, e, _⟩, v, hv => by rw [e] at hv; simp at hv; rw [hv]; rfl
theorem OwnL.all {α : Type} {R : α → List Value → List Nat → Prop} {p : Value → Prop} (h : ∀ x c F, R x c F → ∀ v ∈ c, p v) : ∀ {l : List α} {cs : List Value} {F : List Nat}, OwnL R l cs F → ∀ v ∈ cs, p v
  | [], _, _, hl, v, hv => by rw [hl.1] at hv; simp at hv
  | _ :: _, _, _, ⟨c, d, _, _, e, _, hx, hl⟩, v, hv => by
    rw [e] at hv
    rcases List.mem_append.1 hv with hv | hv
    · exact h _ _ _ hx v hv
    · exact OwnL.all h hl v hv
theorem Own.one : ∀ (t : Ty) {x : t.I} {cs : List Value} {F : List Nat}, Own w t x cs F → ∀ v ∈ cs, v.oneCell' = true
  | .int _, _, _, _, h, v, hv => by rw [h.1] at hv; simp at hv; rw [hv]; rfl
  | .bool, _, _, _, h, v, hv => by rw [h.1] at hv; simp at hv; rw [hv]; rfl
  | .str, _, _, _, h, v, hv => by rw [h.1] at hv; simp at hv; rw [hv]; rfl
  | .err, _, _, _, h, v, hv => by rcases h.1 with ⟨_, e⟩ | ⟨_, _, _, e⟩ <;> (rw [e] at hv; simp at hv; rw [hv]; rfl)
  | .unit, _, _, _, h, v, hv => by rw [h.1] at hv; simp at hv
  | .pair a b, _, _, _, ⟨c, d, _, _, e, _, h1, h2⟩, v, hv => by
    rw [e] at hv
    rcases List.mem_append.1 hv with hv | hv
    · exact Own.one a h1 v hv
    · exact Own.one b h2 v hv
  | .arr n t, _, _, _, ⟨_, h⟩, v, hv => OwnL.all (fun _ _ _ h => Own.one t h) h v hv
  | .slc _, _, _, _, ⟨hd, _, _, _, e, _, hr, _⟩, v, hv => by
    obtain ⟨A, cap, ehd, _⟩ := hr
    rw [e] at hv; simp at hv; rw [hv, ehd]; rfl
theorem VR.one {U : Nat → Prop} {G : Gh} (hG : ∀ i, U i → G.bx i = false → ∃ A n c, G.hd i = .slice A n c) : ∀ {v : V} {cs : List Value}, VR U G w v cs → ∀ x ∈ cs, x.oneCell' = true
  | .undef, _, h, _, _ => by simp [VR] at h
  | .nil, _, h, x, hx => by simp only [VR] at h; rw [h] at hx; simp at hx; rw [hx]; rfl
  | .val t _, _, h, x, hx => by simp only [VR] at h; exact Rep.one t h x hx
  | .hdr i, _, h, x, hx => by
    simp only [VR] at h
    obtain ⟨A, n, c, e⟩ := hG i h.1 h.2.1
    rw [h.2.2, e] at hx; simp at hx; rw [hx]; rfl
  | .adr _ _, _, h, x, hx => by
    simp only [VR] at h
    obtain ⟨_, a, _, e⟩ := h
    rw [e] at hx; simp at hx; rw [hx]; rfl
  | .pin _, _, h, x, hx => by
    simp only [VR] at h
    obtain ⟨_, _, a, e, _⟩ := h
    rw [e] at hx; simp at hx; rw [hx]; rfl
  | .pr a b, _, h, x, hx => by
    simp only [VR] at h
    obtain ⟨c, d, e, h1, h2⟩ := h
    rw [e] at hx
    rcases List.mem_append.1 hx with hx | hx
    · exact VR.one hG h1 x hx
    · exact VR.one hG h2 x hx
  | .clo _ _ _, _, h, x, hx => by
    simp only [VR] at h
    obtain ⟨_, _, e, _⟩ := h
    rw [e] at hx; simp at hx; rw [hx]; rfl
  | .tup _, _, h, _, _ => by simp [VR] at h

theorem ofCells_cells {ag : Bool} {cs : List Value} (h1 : ag = false → cs.length = 1) (ho : ∀ v ∈ cs, v.oneCell' = true) : (ofCells ag cs).cells = cs.toArray := by
  cases ag with
  | true => rfl
  | false =>
    match cs, h1 rfl with
    | [v], _ =>
      have := ho v (by simp)
      show v.cells = _
      cases v <;> first | rfl | simp [Value.oneCell'] at this

/-! ### Writing -/
theorem run_store_block {cs : List Value} {g off : Nat} {cur : Array Value} {e : TypeId} (hg : w.heap[g]? = some (.cells cur e (0, 0))) (hl : off + cs.length ≤ cur.size) (ho : ∀ v ∈ cs, v.oneCell' = true) :
    (storeCells ⟨g, off, none⟩ cs).run P w = .ok () (w.setRow g (cur.toList.take off ++ cs ++ cur.toList.drop (off + cs.length)).toArray) := by
  have := run_storeCells_at P g off e cs 0 cur w hg (by simpa using hl) ho
  simpa using this

theorem setRow_kept {g : Nat} {old cs : Array Value} {e : TypeId} (hg : w.heap[g]? = some (.cells old e (0, 0))) : KeptBut (· = g) w (w.setRow g cs) ∧ (w.setRow g cs).heap[g]? = some (.cells cs e (0, 0)) ∧ (w.setRow g cs).heap.size = w.heap.size := by
  refine ⟨⟨rfl, rfl, rfl, by simp [World.setRow], fun b hb hn => ?_⟩, setRow_heap w g old cs e (0, 0) hg, by simp [World.setRow]⟩
  simp only [World.setRow, Array.getElem?_modify]
  rw [if_neg (fun h => hn h.symm)]

theorem alloc_kept (o : Go.Obj) : KeptBut (fun _ => False) w (w.alloc o) ∧ (w.alloc o).heap[w.heap.size]? = some o ∧ (w.alloc o).heap.size = w.heap.size + 1 := by
  refine ⟨⟨rfl, rfl, rfl, ?_, fun b hb _ => ?_⟩, ?_, ?_⟩
  · show w.heap.size ≤ (w.heap.push o).size
    simp
  · show (w.heap.push o)[b]? = w.heap[b]?
    rw [Array.getElem?_push, if_neg (by omega)]
  · show (w.heap.push o)[w.heap.size]? = some o
    simp
  · show (w.heap.push o).size = w.heap.size + 1
    simp

theorem drew_kept : KeptBut (fun _ => False) w w.drew := ⟨rfl, rfl, rfl, Nat.le_refl _, fun _ _ _ => rfl⟩
end
end Go.Fw

/- Operations on values. -/
namespace Go.Fw
variable {P : Program} {T : Nat → Option TI} {E : Env} {S S' S1 : St} {G G1 : Gh} {w w1 : World} {a : Act}

theorem SR.int {k : IntKind} {n : Int} {x : Value} (h : SR (used S) G w (.val (.int k) n) x) : x = .int k n := by
  obtain ⟨c, hc, e⟩ := h
  simp only [VR, Rep] at hc
  rw [e, hc]; rfl
theorem SR.bool {b : Bool} {x : Value} (h : SR (used S) G w (.val .bool b) x) : x = .bool b := by
  obtain ⟨c, hc, e⟩ := h
  simp only [VR, Rep] at hc
  rw [e, hc]; rfl
theorem SR.str {b : ByteArray} {x : Value} (h : SR (used S) G w (.val .str b) x) : x = .string b := by
  obtain ⟨c, hc, e⟩ := h
  simp only [VR, Rep] at hc
  rw [e, hc]; rfl
theorem SR.of_int (k : IntKind) (n : Int) : SR (used S) G w (.val (.int k) n) (.int k n) := ⟨[.int k n], by simp [VR, Rep], rfl⟩
theorem SR.of_bool (b : Bool) : SR (used S) G w (.val .bool b) (.bool b) := ⟨[.bool b], by simp [VR, Rep], rfl⟩
theorem SR.of_str (b : ByteArray) : SR (used S) G w (.val .str b) (.string b) := ⟨[.string b], by simp [VR, Rep], rfl⟩
theorem SR.of_nil : SR (used S) G w .nil (.slice none 0 0) := ⟨[.slice none 0 0], by simp [VR], rfl⟩

theorem const_sound (v : Value) : SR (used S) G w (constV v) v := by
  unfold constV
  split
  · exact SR.of_int _ _
  · exact SR.of_bool _
  · exact SR.of_str _
  · exact ⟨[.nilIface], by simp [VR, Rep], rfl⟩
  · exact SR.of_nil
  · trivial

theorem ev_sound {α : Type} (I : Inv E S G a w) {x : Operand} {k : V → AM α} {r : α} (h : (ev x k).run S = some (r, S')) : ∃ v, SR (used S) G w v (a.eval x) ∧ (k v).run S = some (r, S') := by
  cases x with
  | tmp n => exact ⟨_, I.slot n, h⟩
  | const v => exact ⟨_, const_sound v, h⟩
  | global g => cases h
  | func f => exact ⟨_, (show SR (used S) G w (.clo f .nil .nil) (.func (.func f) #[] #[]) from ⟨[_], by simp only [VR]; exact ⟨#[], #[], rfl, by simp [CR], by simp [CR]⟩, rfl⟩), h⟩

/-- Values and what they are told as, side by side. -/
def SRs (S : St) (G : Gh) (w : World) : List V → List Value → Prop
  | [], [] => True
  | v :: vs, x :: xs => SR (used S) G w v x ∧ SRs S G w vs xs
  | _, _ => False

theorem evs_sound (I : Inv E S G a w) : ∀ {xs : List Operand} {vs : List V}, (evs xs).run S = some (vs, S') → S' = S ∧ SRs S G w vs (xs.map a.eval)
  | [], vs, h => by
    obtain ⟨rfl, rfl⟩ := AM.of_pure h
    exact ⟨rfl, trivial⟩
  | x :: xs, vs, h => by
    unfold evs at h
    obtain ⟨v, hv, h⟩ := ev_sound I h
    obtain ⟨vs', s1, h1, h2⟩ := AM.of_bind h
    obtain ⟨rfl, rfl⟩ := AM.of_pure h2
    obtain ⟨e, hs⟩ := evs_sound I h1
    exact ⟨e, hv, hs⟩

theorem ret_sound (I : Inv E S G a w) (M : Mem E S1 G1 w1) (K : Keeps (used S) (used S1) G G1 w w1) (ht : S1.tm = S.tm) {dst : Option Nat} {v : V} {x : Value} {u : Unit} (hv : SR (used S1) G1 w1 v x) (hr : (ret E.nt (E.pins.map (·.1)) dst v).run S1 = some (u, S')) :
    Inv E S' G1 (a.put dst x) w1 := by
  cases dst with
  | none =>
    obtain ⟨_, rfl⟩ := AM.of_pure hr
    exact ⟨M, fun n => by rw [ht]; exact (I.slot n).keep K, I.df, I.tn, I.pin⟩
  | some n =>
    unfold ret at hr
    obtain ⟨hn, hr⟩ := AM.of_must_bind hr
    simp only [AM.run, Option.some.injEq, Prod.mk.injEq] at hr
    obtain ⟨_, rfl⟩ := hr
    simp only [Bool.and_eq_true, decide_eq_true_eq, Bool.not_eq_true'] at hn
    have hlt : n < a.tmps.size := by rw [I.tn]; exact hn.1
    have hnp : ∀ p ∈ E.pins, p.1 ≠ n := fun p hp e => by
      have := hn.2
      rw [List.contains_eq_any_beq, List.any_eq_false] at this
      exact this p.1 (List.mem_map.2 ⟨p, hp, rfl⟩) (by simp [e])
    refine ⟨⟨M.obj, M.dj, M.nd, M.own, M.okl, M.fr, M.hds⟩, fun m => ?_, I.df, by simpa [Act.put] using I.tn, fun p hp => ?_⟩
    · rw [St.tm_putT]
      simp only [Act.put]
      by_cases hm : m = n
      · subst hm
        rw [if_pos rfl]
        simp only [Array.getD_eq_getD_getElem?, Array.getElem?_setIfInBounds_self_of_lt hlt, Option.getD_some]
        exact hv
      · rw [if_neg hm, ht]
        have : (a.tmps.setIfInBounds n x).getD m undef = a.tmps.getD m undef := by
          simp only [Array.getD_eq_getD_getElem?]
          rw [Array.getElem?_setIfInBounds_ne (Ne.symm hm)]
        rw [this]
        exact (I.slot m).keep K
    · have := I.pin p hp
      simp only [Act.put, Array.getD_eq_getD_getElem?] at this ⊢
      rw [Array.getElem?_setIfInBounds_ne (Ne.symm (hnp p hp))]
      exact this

theorem Inv.putT (I : Inv E S G a w) {n : Nat} {v : V} (hv : SR (used S) G w v (a.tmps.getD n undef)) : Inv E (S.putT n v) G a w := by
  have M := I.mem
  refine ⟨⟨M.obj, M.dj, M.nd, M.own, M.okl, M.fr, M.hds⟩, fun m => ?_, I.df, I.tn, I.pin⟩
  rw [St.tm_putT]
  by_cases hm : m = n
  · subst hm
    rw [if_pos rfl]
    exact hv
  · rw [if_neg hm]
    exact I.slot m
/-- The same where memory is as it was. -/
theorem ret_same (I : Inv E S G a w) {dst : Option Nat} {v : V} {x : Value} {u : Unit} (hv : SR (used S) G w v x) (hr : (ret E.nt (E.pins.map (·.1)) dst v).run S = some (u, S')) : Inv E S' G (a.put dst x) w :=
  ret_sound I I.mem (Keeps.refl _ _ _) rfl hv hr

/-! ### Arithmetic -/
theorem bits_sound (op : BinOp) (k : IntKind) (x y : Int) (h : op = .and ∨ op = .or ∨ op = .xor ∨ op = .andNot) : (Op.intBits op k x y).run P w = .ok (.int k (bitsI op k x y)) w := by
  rcases h with rfl | rfl | rfl | rfl <;> rfl

theorem int_sound {op : BinOp} {t : TypeId} {k : IntKind} {x y : Int} {v : V} (h1 : op ≠ .shl) (h2 : op ≠ .shr) (h : (binI op k x y).run S = some (v, S')) : S' = S ∧ ∃ r, (binOp op t (.int k x) (.int k y)).run P w = .ok r w ∧ SR (used S) G w v r := by
  cases op <;> simp only [binI, cmpI] at h
  case shl => exact absurd rfl h1
  case shr => exact absurd rfl h2
  case quo =>
    obtain ⟨hc, h⟩ := AM.of_guard_bind h
    obtain ⟨rfl, rfl⟩ := AM.of_pure h
    have : y ≠ 0 := by simpa using hc
    exact ⟨rfl, _, by simp [binOp, Op.intDiv, this], SR.of_int _ _⟩
  case rem =>
    obtain ⟨hc, h⟩ := AM.of_guard_bind h
    obtain ⟨rfl, rfl⟩ := AM.of_pure h
    have : y ≠ 0 := by simpa using hc
    exact ⟨rfl, _, by simp [binOp, Op.intDiv, this], SR.of_int _ _⟩
  case and => obtain ⟨rfl, rfl⟩ := AM.of_pure h; exact ⟨rfl, _, by simp [binOp, bits_sound], SR.of_int _ _⟩
  case or => obtain ⟨rfl, rfl⟩ := AM.of_pure h; exact ⟨rfl, _, by simp [binOp, bits_sound], SR.of_int _ _⟩
  case xor => obtain ⟨rfl, rfl⟩ := AM.of_pure h; exact ⟨rfl, _, by simp [binOp, bits_sound], SR.of_int _ _⟩
  case andNot => obtain ⟨rfl, rfl⟩ := AM.of_pure h; exact ⟨rfl, _, by simp [binOp, bits_sound], SR.of_int _ _⟩
  all_goals first
    | (obtain ⟨rfl, rfl⟩ := AM.of_pure h; exact ⟨rfl, _, by simp [binOp, Op.intArith, Op.intCmp] <;> rfl, by first | exact SR.of_int _ _ | exact SR.of_bool _⟩)

theorem shift_sound {op : BinOp} {t : TypeId} {k k' : IntKind} {x y : Int} (hy : 0 ≤ y) (h : op = .shl ∨ op = .shr) : (binOp op t (.int k x) (.int k' y)).run P w = .ok (.int k (match op with | .shl => shl_ k x y | _ => shr_ k x y)) w := by
  have : ¬ y < 0 := by omega
  rcases h with rfl | rfl <;> simp [binOp, Op.shift, this, shl_, shr_]

theorem eqGuard_run {op : BinOp} {t : TypeId} {x y : Operand} {p q : Value} (hp : p ≠ .nilIface) (ha : ∀ c, p ≠ .agg c) : (eqGuard op t x y p q).run P w = .ok () w := by
  unfold eqGuard
  cases p <;> first | exact absurd rfl hp | exact absurd rfl (ha _) | (cases op <;> rfl)

theorem TsOk.bool (hT : TsOk P T) {t : TypeId} (h : (match T t with | some i => decide (i.ty = .bool) | none => false) = true) : P.underlying t = some .bool := by
  split at h
  · rename_i i hi
    obtain ⟨d, hd, hk⟩ := (hT t i hi).desc
    rw [of_decide_eq_true h] at hk
    rw [hd, show d = .bool from hk]
  · cases h

theorem equal_bool {t : TypeId} (h : P.underlying t = some .bool) (x y : Bool) : (Op.equal t (.bool x) (.bool y)).run P w = .ok (x == y) w := by
  have : ∀ d, (Op.equalIn (d + 1) t (.bool x) (.bool y)).run P w = .ok (x == y) w := by
    intro d
    simp [Op.equalIn, run_underlying h]
  exact this 9999

theorem equal_bool_in {t : TypeId} (h : P.underlying t = some .bool) (d : Nat) (x y : Bool) : (Op.equalIn (d + 1) t (.bool x) (.bool y)).run P w = .ok (x == y) w := by
  simp [Op.equalIn, run_underlying h]
theorem equal_slice_nil {t e : TypeId} (h : P.underlying t = some (.slice e)) (a : Addr) (n c : Nat) : (Op.equal t (.slice (some a) n c) (.slice none 0 0)).run P w = .ok false w := by
  have : ∀ d, (Op.equalIn (d + 1) t (.slice (some a) n c) (.slice none 0 0)).run P w = .ok false w := by
    intro d
    simp [Op.equalIn, run_underlying h]
  exact this 9999
theorem equal_slice_none {t e : TypeId} (h : P.underlying t = some (.slice e)) (n c : Nat) : (Op.equal t (.slice none n c) (.slice none 0 0)).run P w = .ok true w := by
  have : ∀ d, (Op.equalIn (d + 1) t (.slice none n c) (.slice none 0 0)).run P w = .ok true w := by
    intro d
    simp [Op.equalIn, run_underlying h]
  exact this 9999
theorem TsOk.slc (hT : TsOk P T) {t : TypeId} {u : Ty} (h : (match T t with | some i => decide (i.ty = .slc u) | none => false) = true) : ∃ e, P.underlying t = some (.slice e) := by
  split at h
  · rename_i i hi
    have h := of_decide_eq_true h
    obtain ⟨d, hd, hk⟩ := (hT t i hi).desc
    rw [h] at hk
    exact ⟨_, by rw [hd, hk.1]⟩
  · cases h
theorem TsOk.err (hT : TsOk P T) {t : TypeId} (h : (match T t with | some i => decide (i.ty = .err) | none => false) = true) : ∃ m, P.underlying t = some (.interface m) := by
  split at h
  · rename_i i hi
    have h := of_decide_eq_true h
    obtain ⟨d, hd, hk⟩ := (hT t i hi).desc
    rw [h] at hk
    obtain ⟨m, hk⟩ := hk
    exact ⟨m, by rw [hd, hk]⟩
  · cases h
theorem equal_nil {t : TypeId} {m : Array (String × TypeId)} (hu : P.underlying t = some (.interface m)) : (Op.equal t .nilIface .nilIface).run P w = .ok true w ∧ ∀ (t0 : TypeId) (p0 : Value), (Op.equal t (.iface t0 p0) .nilIface).run P w = .ok false w := by
  have : ∀ d, (Op.equalIn (d + 1) t .nilIface .nilIface).run P w = .ok true w ∧ ∀ (t0 : TypeId) (p0 : Value), (Op.equalIn (d + 1) t (.iface t0 p0) .nilIface).run P w = .ok false w := by
    intro d
    constructor
    · simp [Op.equalIn, run_underlying hu]
    · intro t0 p0; simp [Op.equalIn, run_underlying hu]
  exact this 9999
theorem eqGuard_nil {op : BinOp} {t : TypeId} {x y : Operand} {p : Value} (hk : (lit x || lit y) = true) (hp : p = .nilIface ∨ ∃ t0 p0, p = .iface t0 p0) : (eqGuard op t x y p .nilIface).run P w = .ok () w := by
  rcases hp with rfl | ⟨t0, p0, rfl⟩
  · cases x <;> cases y <;> simp [lit] at hk <;> cases op <;> simp [eqGuard]
  · cases op <;> simp [eqGuard]
/-! ### Parts compared -/
def scaV : (t : Ty) → t.I → Value
  | .int k, x => .int k x
  | .bool, x => .bool x
  | _, _ => undef
theorem Rep.sca {ok : Nat → Prop} : ∀ {t : Ty} {x : t.I} {c : List Value}, t.sca = true → Rep w ok t x c → c = [scaV t x]
  | .int _, _, _, _, h => h
  | .bool, _, _, _, h => h
  | .str, _, _, h, _ => by cases h
  | .err, _, _, h, _ => by cases h
  | .unit, _, _, h, _ => by cases h
  | .fn, _, _, h, _ => by cases h
  | .pair _ _, _, _, h, _ => by cases h
  | .arr _ _, _, _, h, _ => by cases h
  | .slc _, _, _, h, _ => by cases h
  | .ptr _, _, _, h, _ => by cases h
theorem RepL.sca {ok : Nat → Prop} {t : Ty} (ht : t.sca = true) : ∀ {l : List t.I} {c : List Value}, RepL (Rep w ok t) l c → c = l.map (scaV t)
  | [], _, h => h
  | x :: l, _, ⟨c, d, e, h1, h2⟩ => by rw [e, Rep.sca ht h1, RepL.sca ht h2]; rfl
theorem eqV_iff {t : Ty} {x y : t.I} : eqV t x y = true ↔ x = y := by
  unfold eqV
  exact @decide_eq_true_iff _ (t.dec x y)
theorem sca_equal {t : Ty} {e : TypeId} {s : TypeDesc} (hs : scaD t = some s) (hu : P.underlying e = some s) (n : Nat) (x y : t.I) : (Op.equalIn (n + 1) e (scaV t x) (scaV t y)).run P w = .ok (eqV t x y) w := by
  cases t <;> simp only [scaD, Option.some.injEq, reduceCtorEq] at hs
  case int k =>
    subst hs
    rw [scaV, scaV, run_equalIn_int w n e k k _ _ hu]
    congr 1
  case bool =>
    subst hs
    have := equal_bool_in hu n x y (P := P) (w := w)
    rw [scaV, scaV, this]
    congr 1
theorem sca_agg {t : Ty} {e : TypeId} {s : TypeDesc} (hs : scaD t = some s) (hu : P.underlying e = some s) : (isAgg e).run P w = .ok false w := by
  rw [run_isAgg_of hu]
  cases t <;> simp only [scaD, Option.some.injEq, reduceCtorEq] at hs <;> subst hs <;> rfl
theorem sca_of {t : Ty} {s : TypeDesc} (hs : scaD t = some s) : t.sca = true := by
  cases t <;> simp only [scaD, reduceCtorEq] at hs <;> rfl
theorem sca_part {t : Ty} {e : TypeId} {s : TypeDesc} (hs : scaD t = some s) (hu : P.underlying e = some s) {cs : Array Value} {off : Nat} {v : Value} (h : cs[off]? = some v) : (part e cs off).run P w = .ok v w := by
  simp only [part, Sem.run_bind, sca_agg hs hu, Result.andThen_ok, Bool.false_eq_true, if_false, h, Sem.run_pure]
theorem items_run {t : Ty} {e : TypeId} {s : TypeDesc} (hs : scaD t = some s) (hu : P.underlying e = some s) (n : Nat) {xs ys : Array Value} {l m : List t.I} (hx : xs.toList = l.map (scaV t)) (hy : ys.toList = m.map (scaV t)) : ∀ is : List Nat, (∀ i ∈ is, i < l.length ∧ i < m.length) →
    ∃ r, (Op.eqItems (n + 1) e 1 xs ys is).run P w = .ok r w ∧ (r = true ↔ ∀ i ∈ is, l[i]? = m[i]?)
  | [], _ => ⟨true, by simp [Op.eqItems], by simp⟩
  | i :: is, h => by
    obtain ⟨h1, h2⟩ := h i List.mem_cons_self
    obtain ⟨r, hr, hiff⟩ := items_run hs hu n hx hy is (fun j hj => h j (List.mem_cons_of_mem _ hj))
    have e1 : xs[i]? = some (scaV t l[i]) := by rw [← Array.getElem?_toList, hx, List.getElem?_map, List.getElem?_eq_getElem h1]; rfl
    have e2 : ys[i]? = some (scaV t m[i]) := by rw [← Array.getElem?_toList, hy, List.getElem?_map, List.getElem?_eq_getElem h2]; rfl
    simp only [Op.eqItems, Sem.run_bind, Nat.mul_one, sca_part hs hu e1, sca_part hs hu e2, sca_equal hs hu, Result.andThen_ok]
    cases hc : eqV t l[i] m[i] with
    | false =>
      refine ⟨false, by simp, ?_⟩
      simp only [Bool.false_eq_true, false_iff]
      intro hall
      have := hall i List.mem_cons_self
      rw [List.getElem?_eq_getElem h1, List.getElem?_eq_getElem h2, Option.some.injEq] at this
      rw [eqV_iff.2 this] at hc
      cases hc
    | true =>
      refine ⟨r, by simpa using hr, ?_⟩
      rw [hiff]
      have := eqV_iff.1 hc
      constructor
      · intro hall j hj
        rcases List.mem_cons.1 hj with rfl | hj
        · rw [List.getElem?_eq_getElem h1, List.getElem?_eq_getElem h2, this]
        · exact hall j hj
      · exact fun hall j hj => hall j (List.mem_cons_of_mem _ hj)
theorem part_run {t : TypeId} {ag : Bool} {c₁ c c₂ : List Value} {cs : Array Value} {off : Nat} (hag : (isAgg t).run P w = .ok ag w) (hsz : (sizeOf t).run P w = .ok c.length w) (hc : cs.toList = c₁ ++ (c ++ c₂)) (ho : off = c₁.length) (h1 : ag = false → c.length = 1) :
    (part t cs off).run P w = .ok (ofCells ag c) w := by
  subst ho
  simp only [part, Sem.run_bind, hag, Result.andThen_ok]
  cases ag with
  | true =>
    simp only [if_true, Sem.run_bind, hsz, Result.andThen_ok, ofCells]
    show Result.ok _ _ = _
    congr 2
    apply Array.ext'
    rw [Array.toList_extract, hc]
    simp [List.extract_eq_take_drop]
  | false =>
    have hl := h1 rfl
    match c, hl with
    | [v], _ =>
      have : cs[c₁.length]? = some v := by
        rw [← Array.getElem?_toList, hc]
        simp
      simp [this, ofCells]

theorem fld_run (n : Nat) {xs ys : Array Value} {ok : Nat → Prop} {t : TypeId} {a : Ty} {x y : a.I} {A B c d C D : List Value} {off : Nat} (hf : FldEq P t a) (hsz : ∃ i, P.info? t = some i ∧ i.size = a.size) (hag : (isAgg t).run P w = .ok a.isAgg w) (hx : Rep w ok a x c) (hy : Rep w ok a y d) (ex : xs.toList = A ++ (c ++ C)) (ey : ys.toList = B ++ (d ++ D)) (ho : off = A.length) (ho' : off = B.length) :
    ∃ p q, (part t xs off).run P w = .ok p w ∧ (part t ys off).run P w = .ok q w ∧ (Op.equalIn (n + 2) t p q).run P w = .ok (eqV a x y) w := by
  obtain ⟨fi, hfi, hs⟩ := hsz
  have hcz : P.cellsOf t = a.size := by simp [Program.cellsOf, hfi, hs]
  have lc := Rep.len a hx
  have ld := Rep.len a hy
  have h1 : ∀ c : List Value, c.length = a.size → a.isAgg = false → c.length = 1 := fun c hc h => by rw [hc]; exact Ty.size_of_agg _ h
  refine ⟨_, _, part_run hag (by rw [run_sizeOf w hfi, hcz, lc]) ex ho (h1 c lc), part_run hag (by rw [run_sizeOf w hfi, hcz, ld]) ey ho' (h1 d ld), ?_⟩
  unfold FldEq at hf
  split at hf
  · rename_i m u
    obtain ⟨el, s, fe, hu, hsd, hue, hfe, h1⟩ := hf
    have hc1 : P.cellsOf el = 1 := by simp [Program.cellsOf, hfe, h1]
    obtain ⟨lx, rx⟩ := hx
    obtain ⟨ly, ry⟩ := hy
    have hsc := sca_of hsd
    show (Op.equalIn (n + 1 + 1) t (.agg c.toArray) (.agg d.toArray)).run P w = _
    rw [run_equalIn_array w (n + 1) _ _ hu hfe, hc1]
    obtain ⟨r, hr, hiff⟩ := items_run (w := w) hsd hue n (xs := c.toArray) (ys := d.toArray) (by simpa using RepL.sca hsc rx) (by simpa using RepL.sca hsc ry) (List.range m) (fun i hi => by rw [lx, ly]; simpa using hi)
    rw [hr]
    congr 1
    rw [Bool.eq_iff_iff, hiff]
    refine Iff.trans ?_ eqV_iff.symm
    constructor
    · intro h
      refine List.ext_getElem? fun i => ?_
      by_cases hi : i < m
      · exact h i (List.mem_range.2 hi)
      · rw [List.getElem?_eq_none (by rw [lx]; omega), List.getElem?_eq_none (by rw [ly]; omega)]
    · intro h i _
      rw [h]
  · obtain ⟨s, hs, hu⟩ := hf
    have hsc := sca_of hs
    have q1 := Rep.sca hsc hx
    have q2 := Rep.sca hsc hy
    subst q1; subst q2
    have hag' : a.isAgg = false := by cases a <;> first | rfl | cases hsc
    rw [hag']
    exact sca_equal hs hu (n + 1) x y
theorem fields_run (n : Nat) {xs ys : Array Value} {ok : Nat → Prop} : ∀ {fs : List Field} {t : Ty} {off : Nat} {x y : t.I} {A B c d : List Value}, FieldsOk P fs t off → FieldsEq P fs t → Rep w ok t x c → Rep w ok t y d → xs.toList = A ++ c → ys.toList = B ++ d → off = A.length → off = B.length →
    (Op.eqFields (n + 2) xs ys fs).run P w = .ok (eqV t x y) w
  | [], .unit, _, _, _, _, _, _, _, _, _, _, _, _, _, _, _ => rfl
  | f :: r, .pair a b, off, x, y, A, B, _, _, ⟨ho, hsz, hag, hr⟩, ⟨hn, hf, he⟩, ⟨c1, c2, e1, x1, x2⟩, ⟨d1, d2, e2, y1, y2⟩, hx, hy, hA, hB => by
    subst e1; subst e2
    have ih := fields_run n (A := A ++ c1) (B := B ++ d1) hr he x2 y2 (by rw [hx]; simp) (by rw [hy]; simp) (by rw [List.length_append, Rep.len a x1, hA]) (by rw [List.length_append, Rep.len a y1, hB])
    obtain ⟨p, q, h1, h2, h3⟩ := fld_run n hf hsz (isAgg_any hag w) x1 y1 hx hy hA hB
    simp only [Op.eqFields, Sem.run_bind, ho]
    rw [Sem.run_ite, if_pos hn]
    simp only [Sem.run_bind, h1, h2, h3, Result.andThen_ok]
    cases hc : eqV a x.1 y.1 with
    | false =>
      have : eqV (.pair a b) x y = false := by
        rw [Bool.eq_false_iff]
        intro h
        have := eqV_iff.1 h
        rw [this, eqV_iff.2 rfl] at hc
        cases hc
      rw [this]; simp
    | true =>
      have : eqV (.pair a b) x y = eqV b x.2 y.2 := by
        rw [Bool.eq_iff_iff, eqV_iff, eqV_iff]
        have := eqV_iff.1 hc
        exact ⟨fun h => by rw [h], fun h => Prod.ext this h⟩
      rw [this]
      simpa using ih
  | [], .pair _ _, _, _, _, _, _, _, _, _, h, _, _, _, _, _, _ => by cases h
  | [], .int _, _, _, _, _, _, _, _, _, h, _, _, _, _, _, _ => by cases h
  | [], .bool, _, _, _, _, _, _, _, _, h, _, _, _, _, _, _ => by cases h
  | [], .str, _, _, _, _, _, _, _, _, h, _, _, _, _, _, _ => by cases h
  | [], .err, _, _, _, _, _, _, _, _, h, _, _, _, _, _, _ => by cases h
  | [], .fn, _, _, _, _, _, _, _, _, h, _, _, _, _, _, _ => by cases h
  | [], .arr _ _, _, _, _, _, _, _, _, _, h, _, _, _, _, _, _ => by cases h
  | [], .slc _, _, _, _, _, _, _, _, _, h, _, _, _, _, _, _ => by cases h
  | [], .ptr _, _, _, _, _, _, _, _, _, h, _, _, _, _, _, _ => by cases h
  | _ :: _, .unit, _, _, _, _, _, _, _, _, h, _, _, _, _, _, _ => by cases h
  | _ :: _, .int _, _, _, _, _, _, _, _, _, h, _, _, _, _, _, _ => by cases h
  | _ :: _, .bool, _, _, _, _, _, _, _, _, h, _, _, _, _, _, _ => by cases h
  | _ :: _, .str, _, _, _, _, _, _, _, _, h, _, _, _, _, _, _ => by cases h
  | _ :: _, .err, _, _, _, _, _, _, _, _, h, _, _, _, _, _, _ => by cases h
  | _ :: _, .fn, _, _, _, _, _, _, _, _, h, _, _, _, _, _, _ => by cases h
  | _ :: _, .arr _ _, _, _, _, _, _, _, _, _, h, _, _, _, _, _, _ => by cases h
  | _ :: _, .slc _, _, _, _, _, _, _, _, _, h, _, _, _, _, _, _ => by cases h
  | _ :: _, .ptr _, _, _, _, _, _, _, _, _, h, _, _, _, _, _, _ => by cases h
theorem agg_equal (hT : TsOk P T) {t : TypeId} {i : TI} (hi : T t = some i) (he : i.ty.eqT = true) {ok : Nat → Prop} {x y : i.ty.I} {c d : List Value} (hx : Rep w ok i.ty x c) (hy : Rep w ok i.ty y d) :
    P.eqGuardType P.depth t = false ∧ (Op.equal t (.agg c.toArray) (.agg d.toArray)).run P w = .ok (eqV i.ty x y) w := by
  obtain ⟨hg, hk⟩ := (hT t i hi).eq he
  refine ⟨hg, ?_⟩
  obtain ⟨D, hd, hdk⟩ := (hT t i hi).desc
  show (Op.equalIn (9999 + 1) t (.agg c.toArray) (.agg d.toArray)).run P w = _
  obtain ⟨ty, el, by_⟩ := i
  cases ty <;> simp only [Ty.eqT, Bool.false_eq_true] at he
  case arr m u =>
    obtain ⟨s, hs, hu⟩ := hk
    simp only [DescOk] at hdk
    obtain ⟨rfl, j, hj, hju⟩ := hdk
    obtain ⟨fi, hfi, hsz, _⟩ := (hT el j hj).info
    have h1 : P.cellsOf el = 1 := by
      have : u.size = 1 := by cases u <;> first | rfl | cases he
      rw [hju, this] at hsz
      simp [Program.cellsOf, hfi, hsz]
    rw [run_equalIn_array w 9999 _ _ hd hfi, h1]
    obtain ⟨lx, rx⟩ := hx
    obtain ⟨ly, ry⟩ := hy
    obtain ⟨r, hr, hiff⟩ := items_run (w := w) hs hu 9998 (xs := c.toArray) (ys := d.toArray) (by simpa using RepL.sca he rx) (by simpa using RepL.sca he ry) (List.range m) (fun i hi => by rw [lx, ly]; simpa using hi)
    rw [hr]
    congr 1
    rw [Bool.eq_iff_iff, hiff]
    refine Iff.trans ?_ eqV_iff.symm
    constructor
    · intro h
      refine List.ext_getElem? fun i => ?_
      by_cases hi : i < m
      · exact h i (List.mem_range.2 hi)
      · rw [List.getElem?_eq_none (by rw [lx]; omega), List.getElem?_eq_none (by rw [ly]; omega)]
    · intro h i _
      rw [h]
  case pair a b =>
    obtain ⟨hst, hfe⟩ := hk
    simp only [DescOk] at hdk
    obtain ⟨fs, rfl, hfo⟩ := hdk
    have hfs : P.fieldsOf t = fs := by simp [Program.fieldsOf, hd]
    rw [run_equalIn_struct w 9999 t _ _ (by rw [hfs]; exact hd) hst]
    rw [hfs] at hfe ⊢
    exact fields_run 9997 (A := []) (B := []) hfo hfe hx hy (by simp) (by simp) rfl rfl
theorem bin_sound (hT : TsOk P T) {op : BinOp} {t : TypeId} {x y : Operand} {v1 v2 v : V} {p q : Value} (h1 : SR (used S) G w v1 p) (h2 : SR (used S) G w v2 q) (h : (binV (lit x || lit y) (T t) op v1 v2).run S = some (v, S')) :
    S' = S ∧ ∃ r, (do eqGuard op t x y p q; binOp op t p q : Sem Value).run P w = .ok r w ∧ SR (used S) G w v r := by
  unfold binV at h
  split at h
  · rw [h1.int, h2.int]
    simp only [Sem.run_bind]
    rw [eqGuard_run (by simp) (by simp)]
    simp only [Result.andThen_ok]
    split at h
    · obtain ⟨hc, h⟩ := AM.of_guard_bind h
      obtain ⟨rfl, rfl⟩ := AM.of_pure h
      exact ⟨rfl, _, shift_sound (by simpa using hc) (.inl rfl), SR.of_int _ _⟩
    · obtain ⟨hc, h⟩ := AM.of_guard_bind h
      obtain ⟨rfl, rfl⟩ := AM.of_pure h
      exact ⟨rfl, _, shift_sound (by simpa using hc) (.inr rfl), SR.of_int _ _⟩
    · rename_i n1 n2
      obtain ⟨hc, h⟩ := AM.of_must_bind h
      have hk := of_decide_eq_true hc
      subst hk
      exact int_sound (fun e => n1 e) (fun e => n2 e) h
  · rw [h1.bool, h2.bool]
    simp only [Sem.run_bind]
    rw [eqGuard_run (by simp) (by simp)]
    simp only [Result.andThen_ok]
    obtain ⟨hb, h⟩ := AM.of_must_bind h
    have hb := hT.bool hb
    split at h
    · obtain ⟨rfl, rfl⟩ := AM.of_pure h
      exact ⟨rfl, _, by simp [binOp, equal_bool hb], SR.of_bool _⟩
    · obtain ⟨rfl, rfl⟩ := AM.of_pure h
      exact ⟨rfl, _, by simp [binOp, equal_bool hb], SR.of_bool _⟩
    · cases h
  · rw [h1.str, h2.str]
    simp only [Sem.run_bind]
    rw [eqGuard_run (by simp) (by simp)]
    simp only [Result.andThen_ok]
    unfold binS at h
    split at h
    · obtain ⟨hc, h⟩ := AM.of_guard_bind h
      obtain ⟨rfl, rfl⟩ := AM.of_pure h
      have hc := of_decide_eq_true hc
      exact ⟨rfl, _, by simp only [binOp]; exact run_string_add_sum _ _ _ (by omega), SR.of_str _⟩
    · obtain ⟨rfl, rfl⟩ := AM.of_pure h
      exact ⟨rfl, _, rfl, SR.of_bool _⟩
    · obtain ⟨rfl, rfl⟩ := AM.of_pure h
      exact ⟨rfl, _, rfl, SR.of_bool _⟩
    · cases h
  · rename_i x0 y0
    obtain ⟨hb, h⟩ := AM.of_must_bind h
    rw [Bool.and_eq_true] at hb
    obtain ⟨hk1, hb⟩ := hb
    obtain ⟨m, hu⟩ := hT.err hb
    obtain ⟨hg, h⟩ := AM.of_guard_bind h
    have hy : y0 = false := by simpa using hg
    obtain ⟨c1, hc1, e1⟩ := h1
    obtain ⟨c2, hc2, e2⟩ := h2
    simp only [VR, Rep] at hc1 hc2
    have eq : q = .nilIface := by
      rcases hc2 with ⟨_, e⟩ | ⟨e, _⟩
      · rw [e2, e]; rfl
      · rw [hy] at e; cases e
    have hp : (x0 = false ∧ p = .nilIface) ∨ (x0 = true ∧ ∃ t0 p0, p = .iface t0 p0) := by
      rcases hc1 with ⟨a, e⟩ | ⟨a, t0, p0, e⟩
      · exact .inl ⟨a, by rw [e1, e]; rfl⟩
      · exact .inr ⟨a, t0, p0, by rw [e1, e]; rfl⟩
    have heq : (Op.equal t p .nilIface).run P w = .ok (!x0) w := by
      rcases hp with ⟨rfl, rfl⟩ | ⟨rfl, t0, p0, rfl⟩
      · exact (equal_nil hu).1
      · exact (equal_nil hu).2 t0 p0
    have hgd : (eqGuard op t x y p .nilIface).run P w = .ok () w := eqGuard_nil hk1 (by
      rcases hp with ⟨_, h⟩ | ⟨_, h⟩
      · exact .inl h
      · exact .inr h)
    rw [eq]
    simp only [Sem.run_bind, hgd, Result.andThen_ok]
    split at h
    · obtain ⟨rfl, rfl⟩ := AM.of_pure h
      refine ⟨rfl, _, ?_, SR.of_bool _⟩
      rcases hp with ⟨rfl, rfl⟩ | ⟨rfl, t0, p0, rfl⟩ <;> simp [binOp, heq]
    · obtain ⟨rfl, rfl⟩ := AM.of_pure h
      refine ⟨rfl, _, ?_, SR.of_bool _⟩
      rcases hp with ⟨rfl, rfl⟩ | ⟨rfl, t0, p0, rfl⟩ <;> simp [binOp, heq]
    · cases h
  · rename_i u l
    obtain ⟨hb, h⟩ := AM.of_must_bind h
    obtain ⟨e, hu⟩ := hT.slc hb
    obtain ⟨c1, hc1, e1⟩ := h1
    simp only [VR, Rep] at hc1
    obtain ⟨A, c, ec, _, hA⟩ := hc1
    obtain ⟨c2, hc2, e2⟩ := h2
    simp only [VR] at hc2
    have eq : q = .slice none 0 0 := by rw [e2, hc2]; rfl
    have ep : p = .slice A (show List u.I from l).length c := by rw [e1, ec]; rfl
    rw [ep, eq]
    simp only [Sem.run_bind]
    rw [eqGuard_run (by simp) (by simp)]
    simp only [Result.andThen_ok]
    split at h
    · obtain ⟨rfl, rfl⟩ := AM.of_pure h
      refine ⟨rfl, .bool A.isNone, ?_, ⟨A.isNone, rfl, fun hl => ?_⟩⟩
      · cases A with
        | none => simp [binOp, equal_slice_none hu]
        | some a0 => simp [binOp, equal_slice_nil hu]
      · rcases hA with hA | ⟨a0, es, rfl, _⟩
        · exact absurd hA hl
        · rfl
    · obtain ⟨hg, h⟩ := AM.of_guard_bind h
      have hg := of_decide_eq_true hg
      rcases hA with rfl | ⟨a0, es, rfl, _⟩
      · exact absurd rfl hg
      obtain ⟨rfl, rfl⟩ := AM.of_pure h
      exact ⟨rfl, _, by simp [binOp, equal_slice_nil hu], SR.of_bool _⟩
    · cases h
  · rename_i u x u' y _ _ _ _
    obtain ⟨hb, h⟩ := AM.of_must_bind h
    split at h
    · rename_i hu
      subst hu
      split at hb
      · rename_i i hi
        simp only [Bool.and_eq_true, decide_eq_true_eq] at hb
        obtain ⟨hi1, hi2⟩ := hb
        subst hi1
        obtain ⟨c1, hc1, e1⟩ := h1
        obtain ⟨c2, hc2, e2⟩ := h2
        simp only [VR] at hc1 hc2
        have ag : ∀ z : i.ty.I, V.agg (.val i.ty z) = true := fun z => by
          show i.ty.isAgg = true
          cases hty : i.ty <;> rw [hty] at hi2 <;> first | rfl | cases hi2
        have ep : p = .agg c1.toArray := by rw [e1, ag]; rfl
        have eq : q = .agg c2.toArray := by rw [e2, ag]; rfl
        obtain ⟨g1, g2⟩ := agg_equal (w := w) hT hi hi2 hc1 hc2
        rw [ep, eq]
        simp only [Sem.run_bind]
        rw [run_eqGuard_agg w op t _ _ _ _ g1]
        simp only [Result.andThen_ok]
        split at h
        · obtain ⟨rfl, rfl⟩ := AM.of_pure h
          refine ⟨rfl, _, ?_, SR.of_bool _⟩
          simp only [binOp, Sem.run_bind, g2, Result.andThen_ok, Sem.run_pure]
          rfl
        · obtain ⟨rfl, rfl⟩ := AM.of_pure h
          refine ⟨rfl, _, ?_, SR.of_bool _⟩
          simp only [binOp, Sem.run_bind, g2, Result.andThen_ok, Sem.run_pure]
          rfl
        · cases h
      · cases hb
    · cases h
  · cases h

theorem un_sound {op : UnOp} {v1 v : V} {p : Value} (h1 : SR (used S) G w v1 p) (h : (unV op v1).run S = some (v, S')) : S' = S ∧ ∃ r, (Op.unary op p).run P w = .ok r w ∧ SR (used S) G w v r := by
  unfold unV at h
  split at h
  · rw [h1.bool]
    split at h
    · obtain ⟨rfl, rfl⟩ := AM.of_pure h
      exact ⟨rfl, _, rfl, SR.of_bool _⟩
    · cases h
  · rw [h1.int]
    split at h
    · obtain ⟨rfl, rfl⟩ := AM.of_pure h
      exact ⟨rfl, _, rfl, SR.of_int _ _⟩
    · obtain ⟨rfl, rfl⟩ := AM.of_pure h
      exact ⟨rfl, _, rfl, SR.of_int _ _⟩
    · cases h
  · cases h
end Go.Fw

/- Addresses and loads. -/
namespace Go.Fw
variable {P : Program} {T : Nat → Option TI} {E : Env} {S S' S1 : St} {G G1 : Gh} {w w1 : World} {a : Act}

theorem add_lit (g o n : Nat) : (⟨g, o, none⟩ : Addr).add n = ⟨g, o + n, none⟩ := by
  unfold Addr.add
  split
  · rename_i h; rw [h]; rfl
  · rfl

theorem offT_append : ∀ (q : List PS) {p : List PS} {t u : Ty} {o o' : Nat}, subTy t q = some u → offT t q = some o → offT u p = some o' → offT t (q ++ p) = some (o + o')
  | [], p, t, u, o, o', hs, ho, hp => by
    simp only [subTy, Option.some.injEq] at hs
    simp only [offT, Option.some.injEq] at ho
    subst hs; subst ho
    simpa using hp
  | .fst :: q, p, t, u, o, o', hs, ho, hp => by
    cases t <;> simp [subTy] at hs
    simp only [offT] at ho
    simp only [List.cons_append, offT]
    exact offT_append q hs ho hp
  | .snd :: q, p, t, u, o, o', hs, ho, hp => by
    cases t <;> simp [subTy] at hs
    simp only [offT] at ho
    obtain ⟨o1, h1, h2⟩ := Option.map_eq_some_iff.1 ho
    simp only [List.cons_append, offT, offT_append q hs h1 hp, Option.map_some]
    congr 1
    omega
  | .elem k :: q, p, t, u, o, o', hs, ho, hp => by
    cases t <;> simp [subTy] at hs
    simp only [offT] at ho
    obtain ⟨o1, h1, h2⟩ := Option.map_eq_some_iff.1 ho
    simp only [List.cons_append, offT, offT_append q hs h1 hp, Option.map_some]
    congr 1
    omega

/-- What is known of the type of what a pointer leads to. -/
theorem ptrTo_sound {t : Ty} {v : V} {u : Unit} (h : (ptrTo t v).run S = some (u, S')) : S' = S ∧ ((∃ i p, v = .adr i p ∧ tyAt (S.ob i) p = some t) ∨ ∃ x, v = .val (.ptr t) x) := by
  unfold ptrTo at h
  split at h
  · simp only [AM.run] at h
    obtain ⟨hm, rfl⟩ := AM.of_must h
    refine ⟨rfl, .inl ⟨_, _, rfl, ?_⟩⟩
    split at hm
    · rename_i e
      rw [e, of_decide_eq_true hm]
    · cases hm
  · obtain ⟨hm, rfl⟩ := AM.of_must h
    have := of_decide_eq_true hm
    subst this
    exact ⟨rfl, .inr ⟨_, rfl⟩⟩
  · cases h

theorem adr_more (M : Mem E S G w) {i : Nat} {q p : List PS} {b : Addr} {t u : Ty} {o : Nat} (ht : tyAt (S.ob i) q = some t) (ha : adrOf G i q = some b) (ho : offT t p = some o) : adrOf G i (q ++ p) = some (b.add o) := by
  unfold tyAt at ht
  split at ht
  · rename_i t0 v hob
    obtain ⟨hbx, hty, _, g, cs, e, hhd, _⟩ := M.obj i _ hob
    simp only [adrOf, hbx, hhd, hty] at ha ⊢
    obtain ⟨o1, h1, h2⟩ := Option.map_eq_some_iff.1 ha
    simp only [offT_append q ht h1 ho, Option.map_some]
    rw [← h2, add_add]
  · rename_i d t0 l hob
    split at ht
    · rename_i k q'
      obtain ⟨hbx, hty, es, F1, F2, ⟨A, cap, hhd, _⟩, _⟩ := M.obj i _ hob
      simp only [adrOf, hbx, hty, List.cons_append] at ha ⊢
      rw [hhd] at ha ⊢
      cases A with
      | none => cases ha
      | some a0 =>
        obtain ⟨o1, h1, h2⟩ := Option.map_eq_some_iff.1 ha
        simp only [offT_append q' ht h1 ho, Option.map_some]
        rw [← h2, add_add]
        congr 2
        omega
    · cases ht
  · rename_i t0 l _ _ _ _ hob
    split at ht
    · rename_i k q'
      obtain ⟨hbx, hty, _, _, ea, eb, off, F1, F2, _, _, ⟨A, cap, hhd, _⟩, _⟩ := M.obj i _ hob
      simp only [adrOf, hbx, hty, List.cons_append] at ha ⊢
      rw [hhd] at ha ⊢
      cases A with
      | none => cases ha
      | some a0 =>
        obtain ⟨o1, h1, h2⟩ := Option.map_eq_some_iff.1 ha
        simp only [offT_append q' ht h1 ho, Option.map_some]
        rw [← h2, add_add]
        congr 2
        omega
    · cases ht
  · cases ht

theorem SR.ptr {t : Ty} {z : t.I} {x : Value} (h : SR (used S) G w (.val (.ptr t) z) x) : ∃ b es, x = .pointer (some b) ∧ G.ok b.block ∧ b.block < w.heap.size ∧ cellsAt w b es ∧ Rep w G.ok t z es := by
  obtain ⟨c, hc, e⟩ := h
  simp only [VR, Rep] at hc
  obtain ⟨b, es, ec, h1, h2, h3, h4⟩ := hc
  exact ⟨b, es, by rw [e, ec]; rfl, h1, h2, h3, h4⟩
theorem SR.of_ptr {t : Ty} {z : t.I} {b : Addr} {es : List Value} (h1 : G.ok b.block) (h2 : b.block < w.heap.size) (h3 : cellsAt w b es) (h4 : Rep w G.ok t z es) : SR (used S) G w (.val (.ptr t) z) (.pointer (some b)) :=
  ⟨[.pointer (some b)], by simp only [VR, Rep]; exact ⟨b, es, rfl, h1, h2, h3, h4⟩, rfl⟩
theorem SR.adr {i : Nat} {p : List PS} {x : Value} (h : SR (used S) G w (.adr i p) x) : used S i ∧ ∃ b, adrOf G i p = some b ∧ x = .pointer (some b) := by
  obtain ⟨c, hc, e⟩ := h
  simp only [VR] at hc
  obtain ⟨hu, b, hb, ec⟩ := hc
  exact ⟨hu, b, hb, by rw [e, ec]; rfl⟩
theorem SR.of_adr {i : Nat} {p : List PS} {b : Addr} (h1 : used S i) (h2 : adrOf G i p = some b) : SR (used S) G w (.adr i p) (.pointer (some b)) :=
  ⟨[.pointer (some b)], by simp only [VR]; exact ⟨h1, b, h2, rfl⟩, rfl⟩

theorem getV_val' {s s' : St} {y : V} : ∀ (q : List PS) {t u : Ty} {x : t.I}, subTy t q = some u → (getV (.val t x) q).run s = some (y, s') → ∃ z, y = .val u z
    | [], t, u, x, hu, hr => by
      simp only [subTy, Option.some.injEq] at hu
      subst hu
      obtain ⟨rfl, _⟩ := AM.of_pure hr
      exact ⟨x, rfl⟩
    | .fst :: q, t, u, x, hu, hr => by
      cases t <;> simp [subTy] at hu
      exact getV_val' q hu hr
    | .snd :: q, t, u, x, hu, hr => by
      cases t <;> simp [subTy] at hu
      exact getV_val' q hu hr
    | .elem k :: q, t, u, x, hu, hr => by
      cases t <;> simp [subTy] at hu
      obtain ⟨z, _, hr⟩ := AM.of_ask hr
      exact getV_val' q hu hr

theorem along_sound (M : Mem E S G w) {t u : Ty} {v y : V} {x : Value} {p : List PS} {un : Unit} {S0 : St} (hv : SR (used S) G w v x) (hp : (ptrTo t v).run S = some (un, S0)) (hu : subTy t p = some u) (hr : (along v p).run S = some (y, S')) :
    S' = S ∧ ∃ b o, x = .pointer (some b) ∧ offT t p = some o ∧ SR (used S) G w y (.pointer (some (b.add o))) := by
  obtain ⟨_, h⟩ := ptrTo_sound hp
  have hoff : ∃ o, offT t p = some o := sub_off p hu
  rcases h with ⟨i, q, rfl, ht⟩ | ⟨z, rfl⟩
  · obtain ⟨rfl, rfl⟩ := AM.of_pure hr
    obtain ⟨o, ho⟩ := hoff
    obtain ⟨hus, b, hb, ex⟩ := hv.adr
    exact ⟨rfl, b, o, ex, ho, SR.of_adr hus (adr_more (u := u) M ht hb ho)⟩
  · obtain ⟨y1, s1, h1, h2⟩ := AM.of_bind hr
    obtain ⟨z', ez⟩ := getV_val' p hu h1
    subst ez
    obtain ⟨b, es, ex, hok, hlt, hcs, hrep⟩ := hv.ptr
    obtain ⟨es1, _, off, c₁, c, c₂, ho, e', l1, l2, hy⟩ := part_sound (U := used S) (G := G) p (fits_self t z) (by simpa [VR] using hrep) hu h1
    obtain ⟨rfl, es2⟩ := AM.of_pure h2
    refine ⟨es2.trans es1, b, off, ex, ho, SR.of_ptr (es := c) (by rw [block_add]; exact hok) (by rw [block_add]; exact hlt) ?_ (by simpa [VR] using hy)⟩
    rw [e'] at hcs
    have := (cellsAt_append hcs).2
    rw [l1] at this
    exact (cellsAt_append this).1
where
  sub_off : ∀ (p : List PS) {t u : Ty}, subTy t p = some u → ∃ o, offT t p = some o
    | [], t, u, h => ⟨0, by simp [offT]⟩
    | .fst :: p, t, u, h => by
      cases t <;> simp [subTy] at h
      obtain ⟨o, ho⟩ := sub_off p h
      exact ⟨o, by simp [offT, ho]⟩
    | .snd :: p, t, u, h => by
      cases t <;> simp [subTy] at h
      obtain ⟨o, ho⟩ := sub_off p h
      exact ⟨_, by simp [offT, ho]; rfl⟩
    | .elem k :: p, t, u, h => by
      cases t <;> simp [subTy] at h
      obtain ⟨o, ho⟩ := sub_off p h
      exact ⟨_, by simp [offT, ho]; rfl⟩

/-! ### Fields -/
theorem fields_at : ∀ (f : Nat) {fs : List Field} {t u : Ty} {off o : Nat}, FieldsOk P fs t off → subTy t (fieldPath f) = some u → offT t (fieldPath f) = some o →
    ∃ fd, fs[f]? = some fd ∧ fd.offset = off + o ∧ (∃ i, P.info? fd.type = some i ∧ i.size = u.size) ∧ (isAgg fd.type).run P default = .ok u.isAgg default
  | 0, fs, t, u, off, o, h, hu, ho => by
    cases t <;> simp [subTy, fieldPath] at hu
    subst hu
    simp [offT, fieldPath] at ho
    subst ho
    cases fs with
    | nil => simp [FieldsOk] at h
    | cons fd r =>
      obtain ⟨h1, h2, h3, _⟩ := h
      exact ⟨fd, rfl, by omega, h2, h3⟩
  | f + 1, fs, t, u, off, o, h, hu, ho => by
    cases t <;> simp [subTy, fieldPath] at hu
    simp only [fieldPath, offT] at ho
    obtain ⟨o1, h1, h2⟩ := Option.map_eq_some_iff.1 ho
    cases fs with
    | nil => simp [FieldsOk] at h
    | cons fd r =>
      obtain ⟨_, _, _, h4⟩ := h
      obtain ⟨fd', e1, e2, e3, e4⟩ := fields_at f h4 hu h1
      exact ⟨fd', by simpa using e1, by omega, e3, e4⟩

theorem struct_of (hT : TsOk P T) {t : TypeId} {i : TI} (hi : T t = some i) {p : List PS} {u : Ty} {f : Nat} (hu : subTy i.ty (fieldPath f) = some u) (hp : p = fieldPath f) : ∃ fs, P.underlying t = some (.struct fs) ∧ FieldsOk P fs.toList i.ty 0 := by
  obtain ⟨d, hd, hk⟩ := (hT t i hi).desc
  cases hty : i.ty with
  | pair a b =>
    rw [hty] at hk
    obtain ⟨fs, e, h⟩ := hk
    exact ⟨fs, by rw [hd, e], h⟩
  | _ => rw [hty] at hu; cases f <;> simp [fieldPath, subTy] at hu

theorem tyOf_sound {t : TypeId} {u : Ty} (h : (tyOf T t).run S = some (u, S')) : S' = S ∧ ∃ i, T t = some i ∧ i.ty = u := by
  unfold tyOf at h
  split at h
  · rename_i i hi
    obtain ⟨rfl, rfl⟩ := AM.of_pure h
    exact ⟨rfl, i, hi, rfl⟩
  · cases h

theorem fieldAt_run (hT : TsOk P T) {s : TypeId} {i : TI} (hi : T s = some i) {f : Nat} {u : Ty} {o : Nat} {b : Addr} (hu : subTy i.ty (fieldPath f) = some u) (ho : offT i.ty (fieldPath f) = some o) (hs : u.size ≠ 0) : (Instr.fieldAt s (.pointer (some b)) f).run P w = .ok (.pointer (some (b.add o))) w := by
  obtain ⟨fs, hd, hf⟩ := struct_of hT hi hu rfl
  obtain ⟨fd, e1, e2, ⟨j, hj, hjs⟩, _⟩ := fields_at f hf hu ho
  have e1' : fs[f]? = some fd := by simpa using e1
  have e2' : fd.offset = o := by omega
  simp [Instr.fieldAt, run_underlying hd, e1', Instr.sureAddr, fieldPlace, sizeOf, typeInfo, hj, hjs, hs, e2']

/-! ### Elements -/
theorem slice_of (hT : TsOk P T) {s : TypeId} {i : TI} (hi : T s = some i) {t : Ty} (hty : i.ty = .slc t) : P.underlying s = some (.slice i.elem) ∧ ∃ j, T i.elem = some j ∧ j.ty = t := by
  obtain ⟨d, hd, hk⟩ := (hT s i hi).desc
  rw [hty] at hk
  exact ⟨by rw [hd, hk.1], hk.2⟩
theorem array_of (hT : TsOk P T) {s : TypeId} {i : TI} (hi : T s = some i) {t : Ty} {n : Nat} (hty : i.ty = .arr n t) : P.underlying s = some (.array n i.elem) ∧ ∃ j, T i.elem = some j ∧ j.ty = t := by
  obtain ⟨d, hd, hk⟩ := (hT s i hi).desc
  rw [hty] at hk
  exact ⟨by rw [hd, hk.1], hk.2⟩

theorem indexS_run (hT : TsOk P T) {s : TypeId} {i : TI} (hi : T s = some i) {t : Ty} (hty : i.ty = .slc t) {b : Addr} {n c : Nat} {k : IntKind} {j : Int} (h0 : 0 ≤ j) (h1 : j < n) : (Instr.indexAt s (.slice (some b) n c) (.int k j)).run P w = .ok (.pointer (some (b.add (j.toNat * t.size)))) w := by
  obtain ⟨hd, e, he, hte⟩ := slice_of hT hi hty
  have hsz := (hT _ _ he).size w
  rw [hte] at hsz
  simp [Instr.indexAt, asIntOf, run_underlying hd, h0, h1, hsz]
theorem indexA_run (hT : TsOk P T) {s : TypeId} {i : TI} (hi : T s = some i) {t : Ty} {n : Nat} (hty : i.ty = .arr n t) {b : Addr} {k : IntKind} {j : Int} (h0 : 0 ≤ j) (h1 : j < n) : (Instr.indexAt s (.pointer (some b)) (.int k j)).run P w = .ok (.pointer (some (b.add (j.toNat * t.size)))) w := by
  obtain ⟨hd, e, he, hte⟩ := array_of hT hi hty
  have hsz := (hT _ _ he).size w
  rw [hte] at hsz
  simp [Instr.indexAt, asIntOf, run_underlying hd, Instr.sureAddr, h0, h1, hsz]

theorem idx_some {α : Type} {l : List α} {j : Int} {y : α} (h : idx l j = some y) : 0 ≤ j ∧ l[j.toNat]? = some y ∧ j < l.length := by
  unfold idx at h
  split at h
  · refine ⟨by assumption, h, ?_⟩
    have := (List.getElem?_eq_some_iff.1 h).1
    omega
  · cases h

theorem SR.slc {t : Ty} {l : List t.I} {x : Value} (h : SR (used S) G w (.val (.slc t) l) x) : ∃ A c, x = .slice A l.length c ∧ l.length ≤ c ∧ (l = [] ∨ ∃ b es, A = some b ∧ G.ok b.block ∧ b.block < w.heap.size ∧ cellsAt w b es ∧ RepL (Rep w G.ok t) l es) := by
  obtain ⟨c, hc, e⟩ := h
  simp only [VR, Rep] at hc
  obtain ⟨A, cap, ec, h⟩ := hc
  exact ⟨A, cap, by rw [e, ec]; rfl, h⟩

theorem elemS_sound (hT : TsOk P T) (M : Mem E S G w) {s : TypeId} {i : TI} (hi : T s = some i) {t : Ty} (hty : i.ty = .slc t) {v y : V} {x : Value} {k : IntKind} {j : Int} (hv : SR (used S) G w v x) (hr : (elemS t v j).run S = some (y, S')) :
    S' = S ∧ ∃ r, (Instr.indexAt s x (.int k j)).run P w = .ok r w ∧ SR (used S) G w y r := by
  unfold elemS at hr
  split at hr
  · split at hr
    · rename_i h
      subst h
      obtain ⟨z, hz, hr⟩ := AM.of_ask hr
      obtain ⟨rfl, rfl⟩ := AM.of_pure hr
      obtain ⟨h0, hget, hlt⟩ := idx_some hz
      obtain ⟨A, c, ex, hc, hl⟩ := hv.slc
      rcases hl with hl | ⟨b, es, hA, hok, hb, hcs, hrep⟩
      · rw [show castI rfl _ = _ from rfl] at hget
        rw [hl] at hget; cases hget
      · subst hA
        obtain ⟨c₁, d, c₂, e, l1, l2, hx, _⟩ := RepL.at (fun _ _ h => Rep.len t h) hrep hget
        refine ⟨rfl, _, by rw [ex]; exact indexS_run hT hi hty h0 hlt, SR.of_ptr (es := d) (by rw [block_add]; exact hok) (by rw [block_add]; exact hb) ?_ hx⟩
        rw [e] at hcs
        have := (cellsAt_append hcs).2
        rw [l1] at this
        exact (cellsAt_append this).1
    · cases hr
  · rename_i i0
    simp only [AM.run] at hr
    have key : ∃ (l : List t.I) (es : List Value) (F1 : List Nat), G.ty i0 = t ∧ RowOk w (G.hd i0) t.size l.length es F1 ∧ ((guard_ (decide (0 ≤ j ∧ j < (l.length : Int)))).bind fun _ => AM.pure (V.adr i0 [.elem j.toNat])).run S = some (y, S') := by
      split at hr
      · rename_i ho
        obtain ⟨hm, hr2⟩ := AM.of_must_bind hr
        have hm := of_decide_eq_true hm
        subst hm
        obtain ⟨_, ht, _, _, ea, eb, off, F1, F2, _, _, hrow, _⟩ := M.obj _ _ ho
        exact ⟨_, _, _, ht, hrow, hr2⟩
      · obtain ⟨d, l, ho, hr⟩ := AM.of_withRow hr
        obtain ⟨_, ht, es, F1, F2, hrow, _⟩ := M.obj _ _ ho
        exact ⟨_, _, _, ht, hrow, hr⟩
    obtain ⟨l, es, F1, ht, ⟨A, cap, hhd, hn, hlen, hcase⟩, hr⟩ := key
    obtain ⟨hg, hr⟩ := AM.of_guard_bind hr
    obtain ⟨rfl, rfl⟩ := AM.of_pure hr
    have hg := of_decide_eq_true hg
    obtain ⟨c, hc, e⟩ := hv
    simp only [VR] at hc
    obtain ⟨hus, hbx, ec⟩ := hc
    have ex : x = .slice A l.length cap := by rw [e, ec, hhd]; rfl
    have hA : ∃ g, A = some ⟨g, 0, none⟩ := by
      rcases hcase with ⟨_, h2, _⟩ | ⟨g, _, _, hA, _⟩
      · omega
      · exact ⟨g, hA⟩
    obtain ⟨g, hA⟩ := hA
    subst hA
    refine ⟨rfl, _, by rw [ex]; exact indexS_run hT hi hty hg.1 hg.2, SR.of_adr hus ?_⟩
    simp [adrOf, hbx, hhd, ht, offT]
  · cases hr

theorem elemA_sound (hT : TsOk P T) (M : Mem E S G w) {s : TypeId} {i : TI} (hi : T s = some i) {t : Ty} {n : Nat} (hty : i.ty = .arr n t) {v y : V} {x : Value} {k : IntKind} {j : Int} (hv : SR (used S) G w v x) (hr : (elemA n t v j).run S = some (y, S')) :
    S' = S ∧ ∃ r, (Instr.indexAt s x (.int k j)).run P w = .ok r w ∧ SR (used S) G w y r := by
  unfold elemA at hr
  split at hr
  · split at hr
    · rename_i h
      subst h
      obtain ⟨z, hz, hr⟩ := AM.of_ask hr
      obtain ⟨rfl, rfl⟩ := AM.of_pure hr
      obtain ⟨h0, hget, hlt⟩ := idx_some hz
      obtain ⟨b, es, ex, hok, hb, hcs, hrep⟩ := hv.ptr
      obtain ⟨hn, hrep⟩ := hrep
      obtain ⟨c₁, d, c₂, e, l1, l2, hx, _⟩ := RepL.at (fun _ _ h => Rep.len t h) hrep hget
      refine ⟨rfl, _, by rw [ex]; exact indexA_run hT hi hty h0 (by rw [← hn]; exact hlt), SR.of_ptr (es := d) (by rw [block_add]; exact hok) (by rw [block_add]; exact hb) ?_ hx⟩
      rw [e] at hcs
      have := (cellsAt_append hcs).2
      rw [l1] at this
      exact (cellsAt_append this).1
    · cases hr
  · rename_i i0 p
    obtain ⟨un, s1, h1, h2⟩ := AM.of_bind hr
    obtain ⟨es1, h⟩ := ptrTo_sound h1
    subst es1
    obtain ⟨hg, h2⟩ := AM.of_guard_bind h2
    obtain ⟨rfl, rfl⟩ := AM.of_pure h2
    have hg := of_decide_eq_true hg
    rcases h with ⟨i', p', e, ht⟩ | ⟨z, e⟩
    · injection e with e1 e2
      subst e1; subst e2
      obtain ⟨hus, b, hb, ex⟩ := hv.adr
      refine ⟨rfl, _, by rw [ex]; exact indexA_run hT hi hty hg.1 hg.2, SR.of_adr hus (adr_more (u := t) M ht hb ?_)⟩
      simp [offT]
    · cases e
  · cases hr

/-! ### Loads -/
theorem load_sound (hT : TsOk P T) (M : Mem E S G w) {s : TypeId} {i : TI} (hi : T s = some i) {v y : V} {x : Value} (hv : SR (used S) G w v x) (hr : (loadV i.ty v).run S = some (y, S')) :
    S' = S ∧ ∃ r, (Instr.loadAt s x).run P w = .ok r w ∧ SR (used S) G w y r := by
  have fin : ∀ {b : Addr} {c : List Value}, x = .pointer (some b) → cellsAt w b c → fits i.ty y = true → VR (used S) G w y c → ∃ r, (Instr.loadAt s x).run P w = .ok r w ∧ SR (used S) G w y r := by
    intro b c ex hc hf hy
    obtain ⟨hl, hag⟩ := VR.len hf hy
    refine ⟨_, by rw [ex]; exact (hT s i hi).load hc hl, ?_⟩
    rw [← hag]
    exact hy.sr
  unfold loadV at hr
  split at hr
  · rename_i i0
    split at hr
    · rename_i u hty
      simp only [AM.run] at hr
      obtain ⟨d, l, ho, hr⟩ := AM.of_withRow hr
      obtain ⟨rfl, rfl⟩ := AM.of_pure hr
      obtain ⟨cs, hv, ex⟩ := SR.vr hv (by simp) (by simp) (by simp)
      simp only [VR] at hv
      obtain ⟨hu, hb, a, ec, hok, hlt, hcl⟩ := hv
      subst ec
      exact ⟨rfl, fin ex hcl (by rw [hty]; rfl) (by simp only [VR]; simpa using ⟨hu, hb⟩)⟩
    · cases hr
  obtain ⟨un, s1, h1, h2⟩ := AM.of_bind hr
  obtain ⟨es1, h⟩ := ptrTo_sound h1
  subst es1
  rcases h with ⟨i0, p, rfl, ht⟩ | ⟨z, rfl⟩
  · simp only [AM.run] at h2
    obtain ⟨hus, b, hb, ex⟩ := hv.adr
    split at h2
    · rename_i o t0 c ho
      rw [ho] at ht
      obtain ⟨e, hf, cc, _, _, _, hy, hcs⟩ := box_part M ho hb ht h2
      exact ⟨e, fin ex hcs hf hy⟩
    · rename_i o d u l ho
      rw [ho] at ht
      split at h2
      · rename_i k q
        obtain ⟨hm, h2⟩ := AM.of_must_bind h2
        obtain ⟨e, z, rfl, cc, _, _, _, hz, hz', hcs⟩ := row_part M ho hb ht h2
        refine ⟨e, fin ex hcs (fits_self _ _) ?_⟩
        simp only [VR]
        cases d with
        | false => exact hz' rfl
        | true => exact Rep.flat _ (by simpa using hm) hz
      · cases h2
    · cases h2
  · obtain ⟨rfl, rfl⟩ := AM.of_pure h2
    obtain ⟨b, es, ex, hok, hlt, hcs, hrep⟩ := hv.ptr
    exact ⟨rfl, fin ex hcs (fits_self _ _) (by simpa [VR] using hrep)⟩
end Go.Fw
