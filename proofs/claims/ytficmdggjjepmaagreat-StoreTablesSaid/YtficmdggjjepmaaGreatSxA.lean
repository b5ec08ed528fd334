import Derived.Orders
import Derived.OrdersIn
import Derived.TacticsIn
import Derived.RangeFuncRecord
import Derived.Sort.LoopGhostIn
import Derived.Laws.Entries
import Derived.Laws.Cells
import Derived.Laws.StructEq
import Derived.IntWalk
set_option linter.all false
namespace Go.Sx

/-! Partial heaps, and what a call does to one. -/

abbrev Heap := Nat → Option Obj

def Agr (h : Heap) (w : World) : Prop := ∀ b o, h b = some o → w.heap[b]? = some o

structure After (h : Heap) (w : World) (h' : Heap) (w' : World) : Prop where
  os : w'.os = w.os
  tape : w'.tape = w.tape
  output : w'.output = w.output
  size : w.heap.size ≤ w'.heap.size
  agr : Agr h' w'
  frame : ∀ b, b < w.heap.size → h b = none → w'.heap[b]? = w.heap[b]? ∧ h' b = none

def Fn (P : Program) (f : FuncId) (args : List Value) (h : Heap) (R : Value → Heap → Prop) : Prop :=
  ∀ w, Agr h w → Calls P f args.toArray w fun e w' => ∃ v h', e = .returned v ∧ R v h' ∧ After h w h' w'

/-- A call's contract as a node of the evaluation: the program behind a lambda, so that nothing unfolds it. -/
structure FnX (p : Unit → Program) (f : FuncId) (args : List Value) (h : Heap) (R : Value → Heap → Prop) : Prop where
  out : Fn (p ()) f args h R

/-- A call that may panic, as a node. -/
structure FnPX (p : Unit → Program) (f : FuncId) (args : List Value) (h : Heap) (R : Value → Heap → Prop) (K : List PanicEntry → Heap → Prop) : Prop where
  out : ∀ w, Agr h w → Calls (p ()) f args.toArray w fun e w' => (∃ v h', e = .returned v ∧ R v h' ∧ After h w h' w') ∨ (∃ c h', e = .panicked c ∧ K c h' ∧ After h w h' w')

/-- A call of 'yield', as a node. -/
structure YdX (p : Unit → Program) (l : Nat) (args : List Value) (h : Heap) (R : Value → Heap → Prop) : Prop where
  out : ∀ w, Agr h w → ∃ fn tmps asg body, (Instr.yield l args.toArray).run (p ()) w = .ok (.round l fn tmps asg body) w ∧ ∀ n, RoundIn Fence.wide n (p ()) l fn tmps asg body w fun e w' => ∃ v h', e = .returned v ∧ R v h' ∧ After h w h' w'

def hset (h : Heap) (n : Nat) (o : Obj) : Heap := fun b => if b = n then some o else h b

/-! The opaque operations: fields of a variable, so that the evaluation leaves them standing. -/

def elt (a : Option Addr) (i : Int) (size : Nat) : Addr := ((a.getD ⟨0, 0, none⟩).add (i.toNat * size))
def ari (op : BinOp) (k : IntKind) (a b : Int) : Int :=
  match op with
  | .add => k.wrap (a + b)
  | .sub => k.wrap (a - b)
  | .mul => k.wrap (a * b)
  | .quo => k.wrap (a.tdiv b)
  | .rem => a.tmod b
  | .and => k.wrap ((BitVec.ofInt k.bits a &&& BitVec.ofInt k.bits b).toNat)
  | .or => k.wrap ((BitVec.ofInt k.bits a ||| BitVec.ofInt k.bits b).toNat)
  | .xor => k.wrap ((BitVec.ofInt k.bits a ^^^ BitVec.ofInt k.bits b).toNat)
  | .andNot => k.wrap ((BitVec.ofInt k.bits a &&& ~~~ BitVec.ofInt k.bits b).toNat)
  | .shl => k.wrap (a * 2 ^ (min b.toNat k.bits))
  | .shr => a.fdiv (2 ^ (min b.toNat k.bits))
  | _ => 0
def icm (op : BinOp) (a b : Int) : Bool :=
  match op with
  | .eql => a == b
  | .neq => a != b
  | .lss => decide (a < b)
  | .leq => decide (a ≤ b)
  | .gtr => decide (a > b)
  | .geq => decide (a ≥ b)
  | _ => false
def scm (op : BinOp) (a b : ByteArray) : Bool :=
  match op with
  | .eql => a.toList == b.toList
  | .neq => !(a.toList == b.toList)
  | .lss => Op.bytesLess a.toList b.toList
  | .leq => Op.bytesLess a.toList b.toList || a.toList == b.toList
  | .gtr => !(Op.bytesLess a.toList b.toList || a.toList == b.toList)
  | .geq => !(Op.bytesLess a.toList b.toList)
  | _ => false
def bcm (op : BinOp) (a b : Bool) : Bool :=
  match op with
  | .eql => a == b
  | .neq => !(a == b)
  | _ => false

inductive Tg where
  | elt | ix | off | ari | icm | scm | bcm | not | and | cat | byte | sub | conv | nat | isn | cut | dif | imin | imax | sln

abbrev Tg.T : Tg → Type
  | .elt => Option Addr → Int → Nat → Addr
  | .ix => Nat → Int → Nat → Nat
  | .off => Addr → Nat → Addr
  | .ari => BinOp → IntKind → Int → Int → Int
  | .icm => BinOp → Int → Int → Bool
  | .scm => BinOp → ByteArray → ByteArray → Bool
  | .bcm => BinOp → Bool → Bool → Bool
  | .not => Bool → Bool
  | .and => Bool → Bool → Bool
  | .cat => ByteArray → ByteArray → ByteArray
  | .byte => ByteArray → Int → Int
  | .sub => ByteArray → Int → Int → ByteArray
  | .conv => IntKind → Int → Int
  | .nat => Nat → Int
  | .isn => Option Addr → Bool
  | .cut => Option Addr → Int → Int → Nat → Option Addr
  | .dif => Int → Int → Nat
  | .imin => Int → Int → Int
  | .imax => Int → Int → Int
  | .sln => ByteArray → Int

/-- The operations by their tags: a variable of this type is opaque to the evaluation. -/
abbrev Ar := (t : Tg) → t.T

def Ar.elt (A : Ar) : Option Addr → Int → Nat → Addr := A .elt
def Ar.ix (A : Ar) : Nat → Int → Nat → Nat := A .ix
def Ar.off (A : Ar) : Addr → Nat → Addr := A .off
def Ar.ari (A : Ar) : BinOp → IntKind → Int → Int → Int := A .ari
def Ar.icm (A : Ar) : BinOp → Int → Int → Bool := A .icm
def Ar.scm (A : Ar) : BinOp → ByteArray → ByteArray → Bool := A .scm
def Ar.bcm (A : Ar) : BinOp → Bool → Bool → Bool := A .bcm
def Ar.not (A : Ar) : Bool → Bool := A .not
def Ar.and (A : Ar) : Bool → Bool → Bool := A .and
def Ar.cat (A : Ar) : ByteArray → ByteArray → ByteArray := A .cat
def Ar.byte (A : Ar) : ByteArray → Int → Int := A .byte
def Ar.sub (A : Ar) : ByteArray → Int → Int → ByteArray := A .sub
def Ar.conv (A : Ar) : IntKind → Int → Int := A .conv
def Ar.nat (A : Ar) : Nat → Int := A .nat
def Ar.isn (A : Ar) : Option Addr → Bool := A .isn
def Ar.cut (A : Ar) : Option Addr → Int → Int → Nat → Option Addr := A .cut
def Ar.dif (A : Ar) : Int → Int → Nat := A .dif
def Ar.imin (A : Ar) : Int → Int → Int := A .imin
def Ar.imax (A : Ar) : Int → Int → Int := A .imax
def Ar.sln (A : Ar) : ByteArray → Int := A .sln

class ArOk (A : Ar) : Prop where
  elt : A .elt = Sx.elt
  ix : A .ix = fun o i n => o + i.toNat * n
  off : A .off = fun a n => a.add n
  ari : A .ari = Sx.ari
  icm : A .icm = Sx.icm
  scm : A .scm = Sx.scm
  bcm : A .bcm = Sx.bcm
  not : A .not = fun b => !b
  and : A .and = fun a b => a && b
  cat : A .cat = fun a b => a ++ b
  byte : A .byte = fun s i => ((s.data.getD i.toNat 0).toNat : Int)
  sub : A .sub = fun s l h => s.extract l.toNat h.toNat
  conv : A .conv = fun k n => k.wrap n
  nat : A .nat = Int.ofNat
  isn : A .isn = fun a => a.isNone
  cut : A .cut = fun a l m size => if m = l then a else a.map (·.add (l.toNat * size))
  dif : A .dif = fun h l => (h - l).toNat
  imin : A .imin = fun a b => min a b
  imax : A .imax = fun a b => max a b
  sln : A .sln = fun s => (s.size : Int)

theorem Ar.elt_eq (A : Ar) [ArOk A] : A.elt = Sx.elt := ArOk.elt
theorem Ar.ix_eq (A : Ar) [ArOk A] : A.ix = fun o i n => o + i.toNat * n := ArOk.ix
theorem Ar.off_eq (A : Ar) [ArOk A] : A.off = fun a n => a.add n := ArOk.off
theorem Ar.ari_eq (A : Ar) [ArOk A] : A.ari = Sx.ari := ArOk.ari
theorem Ar.icm_eq (A : Ar) [ArOk A] : A.icm = Sx.icm := ArOk.icm
theorem Ar.scm_eq (A : Ar) [ArOk A] : A.scm = Sx.scm := ArOk.scm
theorem Ar.bcm_eq (A : Ar) [ArOk A] : A.bcm = Sx.bcm := ArOk.bcm
theorem Ar.not_eq (A : Ar) [ArOk A] : A.not = fun b => !b := ArOk.not
theorem Ar.and_eq (A : Ar) [ArOk A] : A.and = fun a b => a && b := ArOk.and
theorem Ar.cat_eq (A : Ar) [ArOk A] : A.cat = fun a b => a ++ b := ArOk.cat
theorem Ar.byte_eq (A : Ar) [ArOk A] : A.byte = fun s i => ((s.data.getD i.toNat 0).toNat : Int) := ArOk.byte
theorem Ar.sub_eq (A : Ar) [ArOk A] : A.sub = fun s l h => s.extract l.toNat h.toNat := ArOk.sub
theorem Ar.conv_eq (A : Ar) [ArOk A] : A.conv = fun k n => k.wrap n := ArOk.conv
theorem Ar.nat_eq (A : Ar) [ArOk A] : A.nat = Int.ofNat := ArOk.nat
theorem Ar.isn_eq (A : Ar) [ArOk A] : A.isn = fun a => a.isNone := ArOk.isn
theorem Ar.cut_eq (A : Ar) [ArOk A] : A.cut = fun a l m size => if m = l then a else a.map (·.add (l.toNat * size)) := ArOk.cut
theorem Ar.dif_eq (A : Ar) [ArOk A] : A.dif = fun h l => (h - l).toNat := ArOk.dif
theorem Ar.imin_eq (A : Ar) [ArOk A] : A.imin = fun a b => min a b := ArOk.imin
theorem Ar.imax_eq (A : Ar) [ArOk A] : A.imax = fun a b => max a b := ArOk.imax
theorem Ar.sln_eq (A : Ar) [ArOk A] : A.sln = fun s => (s.size : Int) := ArOk.sln

def Ar.std : Ar
  | .elt => Sx.elt
  | .ix => fun o i n => o + i.toNat * n
  | .off => fun a n => a.add n
  | .ari => Sx.ari
  | .icm => Sx.icm
  | .scm => Sx.scm
  | .bcm => Sx.bcm
  | .not => fun b => !b
  | .and => fun a b => a && b
  | .cat => fun a b => a ++ b
  | .byte => fun s i => ((s.data.getD i.toNat 0).toNat : Int)
  | .sub => fun s l h => s.extract l.toNat h.toNat
  | .conv => fun k n => k.wrap n
  | .nat => Int.ofNat
  | .isn => fun a => a.isNone
  | .cut => fun a l m size => if m = l then a else a.map (·.add (l.toNat * size))
  | .dif => fun h l => (h - l).toNat
  | .imin => fun a b => min a b
  | .imax => fun a b => max a b
  | .sln => fun s => (s.size : Int)
theorem Ar.ex : ∃ A : Ar, ArOk A := ⟨Ar.std, ⟨rfl, rfl, rfl, rfl, rfl, rfl, rfl, rfl, rfl, rfl, rfl, rfl, rfl, rfl, rfl, rfl, rfl, rfl, rfl, rfl⟩⟩

/-! The tables of types. -/

inductive Kd where
  | none
  | oth
  | bool
  | int (k : IntKind)
  | str
  | strct (fs : List (Nat × Nat))
  | arr (n e : Nat)
  | slc (e : Nat)
  | mp (k e : Nat)
  | ptr (e : Nat)
  | fn
  | ifc
  deriving Inhabited

structure Ti where
  flat : Bool
  agg : Bool
  size : Nat
  bytes : Nat
  zero : List Value
  kd : Kd

def Ti.none : Ti := ⟨false, false, 0, 0, [], .none⟩

def kdOf : TypeDesc → Kd
  | .bool => .bool
  | .int k => .int k
  | .string => .str
  | .struct fs => .strct (fs.toList.map fun f => (f.type, f.offset))
  | .array n e => .arr n e
  | .slice e => .slc e
  | .map k e => .mp k e
  | .pointer e => .ptr e
  | .func .. => .fn
  | .interface _ => .ifc
  | _ => .oth

/-- A struct of single cells that '==' compares cell by cell. -/
def flatOf (P : Program) (t : TypeId) : TypeDesc → Bool
  | .struct fs => !P.eqGuardType P.depth t && !P.stoodInHeld t && (fs.toList.zipIdx.all fun (f, i) => f.offset == i && decide (f.name ≠ "_") && (match P.info? f.type, P.underlying f.type with
      | some i, some .bool | some i, some (.int _) | some i, some .string => i.size == 1
      | _, _ => false))
  | _ => false

def mkTi (P : Program) (t : TypeId) : Ti :=
  match P.info? t, P.underlying t with
  | some i, some d =>
    match i.zero with
    | some z => ⟨flatOf P t d, match d with | .struct _ | .array _ _ => true | _ => false, i.size, i.bytes, z.cells.toList, kdOf d⟩
    | none => .none
  | _, _ => .none

/-! Plans for regions that draw their order. -/

inductive Plan where
  | done
  | light (i : Nat) (rest : Plan)
  | heavy (i : Nat) (pins : List Nat) (rest : Plan)
  | fork (l r : Plan)
  deriving Inhabited

inductive SV where
  | v (x : Value)
  | loc (s off : Nat)
  | u
  deriving Inhabited

structure Tab where
  ty : Nat → Ti
  fn : Nat → Bool
  plan : Nat → Plan
  pub : Nat → Bool
  pan : Nat → Bool := fun _ => false
  rs : List Nat := []
  kp : List PanicEntry → List SV → Heap → Prop := fun _ _ _ => False

structure TabOk (P : Program) (T : Tab) : Prop where
  ty : ∀ t, T.ty t = mkTi P t ∨ T.ty t = .none
  fn : ∀ f, T.fn f = true → ∃ fn, P.funcs[f]? = some fn ∧ fn.body.isSome = true ∧ fn.name ≠ "runtime.NumGoroutine"
  mixed : P.follows .mixedOrders = true

/-! The state. -/


abbrev Env := List SV
abbrev Loc := List (Nat × List Value)

def lkp : Loc → Nat → Option (List Value)
  | [], _ => none
  | (s, c) :: r, t => if s = t then some c else lkp r t
def upd : Loc → Nat → List Value → Loc
  | [], _, _ => []
  | (s, c) :: r, t, d => if s = t then (s, d) :: r else (s, c) :: upd r t d

def sev (env : Env) : Operand → SV
  | .tmp t => env.getD t .u
  | .const v => .v v
  | .global g => .v (.pointer (some ⟨g, 0, none⟩))
  | .func f => .v (.func (.func f) #[] #[])

/-- All values, if none is a place. -/
def vals : List SV → Option (List Value)
  | [] => some []
  | .v x :: r => match vals r with
    | some l => some (x :: l)
    | none => none
  | _ :: _ => none

/-! Nodes. -/

/-- A condition that is to be shown. -/
structure Chk (p : Unit → Prop) (k : Unit → Prop) : Prop where
  h : p ()
  out : k ()

/-- Some cells of the heap. -/
def rdc (h : Heap) (a : Addr) (n : Nat) (cs : List Value) : Prop :=
  a.spot = none ∧ cs.length = n ∧ ∃ c e fr, h a.block = some (.cells c e fr) ∧ ∀ i, i < n → c[a.off + i]? = cs[i]?

structure LdX (h : Heap) (a : Addr) (n : Nat) (k : List Value → Prop) : Prop where
  out : ∃ cs, rdc h a n cs ∧ k cs

def bsel : Bool → (Unit → Prop) → (Unit → Prop) → Prop
  | true, a, _ => a ()
  | false, _, b => b ()

def takeN (c : List Value) (off n : Nat) : Option (List Value) :=
  if off + n ≤ c.length then some ((c.drop off).take n) else none

def setN (c : List Value) (off : Nat) : List Value → List Value
  | [] => c
  | x :: r => setN (c.set off x) (off + 1) r

/-- An operation's value, by its run. -/
structure RunX (p : Unit → Program) (s : Unit → Sem Value) (k : Value → Prop) : Prop where
  out : ∃ v, (∀ w, (s ()).run (p ()) w = .ok v w) ∧ k v

/-- An operation on the heap, by its run. -/
structure SemX (p : Unit → Program) (s : Unit → Sem Value) (h : Heap) (k : Value → Heap → Prop) : Prop where
  out : ∀ w, Agr h w → ∃ v w' h', (s ()).run (p ()) w = .ok v w' ∧ k v h' ∧ After h w h' w'

/-- A call of a function without a body. -/
def extS (g : FuncId) (args : List Value) : Sem Value := do
  match ← callFunc g args.toArray with
  | .value v => pure v
  | _ => stuck ""

def binV (A : Ar) (op : BinOp) : Value → Value → Option Value
  | .int k a, .int k' b =>
    match op with
    | .add | .sub | .mul | .and | .or | .xor | .andNot => if k = k' then some (.int k (A.ari op k a b)) else none
    | .eql | .neq | .lss | .leq | .gtr | .geq => if k = k' then some (.bool (A.icm op a b)) else none
    | _ => none
  | .string a, .string b =>
    match op with
    | .eql | .neq | .lss | .leq | .gtr | .geq => some (.bool (A.scm op a b))
    | _ => none
  | _, _ => none

/-- Operations that ask for something. -/
def binC (A : Ar) (op : BinOp) (a b : Value) (k : Value → Prop) (els : Unit → Prop) : Prop :=
  match a with
  | .int ka x => match b with
    | .int kb y => match op with
      | .quo | .rem => match decide (ka = kb) with
        | true => Chk (fun _ => y ≠ 0) (fun _ => k (.int ka (A.ari op ka x y)))
        | false => els ()
      | .shl | .shr => Chk (fun _ => 0 ≤ y) (fun _ => k (.int ka (A.ari op ka x y)))
      | _ => els ()
    | _ => els ()
  | .string x => match b with
    | .string y => match op with
      | .add => Chk (fun _ => ((x.size + y.size : Nat) : Int) ≤ 2 ^ 62) (fun _ => k (.string (A.cat x y)))
      | _ => els ()
    | _ => els ()
  | _ => els ()

def one : Value → Bool
  | .agg _ | .tuple _ => false
  | _ => true
def ones : List Value → Bool
  | [] => true
  | x :: r => match one x with
    | true => ones r
    | false => false

def fillL (place : Nat → Option (Nat × Nat)) (cells : List Value) : List (Nat × Value) → Option (List Value)
  | [] => some cells
  | (i, v) :: rest =>
    match place i with
    | none => none
    | some (off, size) =>
      if v.cells.toList.length ≠ size || off + v.cells.toList.length > cells.length then none
      else fillL place (setN cells off v.cells.toList) rest

/-- Comparisons with nil, and of flat structs. -/
def eqCells (A : Ar) (ty : Nat → Ti) : List (Nat × Nat) → List Value → List Value → Option Bool
  | [], [], [] => some true
  | (t, _) :: fs, x :: r, y :: q => match (ty t).kd with
    | .int _ => match x with
      | .int k a => match y with
        | .int k' b => match decide (k = k') with
          | true => match eqCells A ty fs r q with
            | some t => some (A.and (A.icm .eql a b) t)
            | none => none
          | false => none
        | _ => none
      | _ => none
    | .str => match x with
      | .string a => match y with
        | .string b => match eqCells A ty fs r q with
          | some t => some (A.and (A.scm .eql a b) t)
          | none => none
        | _ => none
      | _ => none
    | .bool => match x with
      | .bool a => match y with
        | .bool b => match eqCells A ty fs r q with
          | some t => some (A.and (A.bcm .eql a b) t)
          | none => none
        | _ => none
      | _ => none
    | _ => none
  | _, _, _ => none

def neg (A : Ar) (op : BinOp) (b : Bool) : Option Value :=
  match op with
  | .eql => some (.bool b)
  | .neq => some (.bool (A.not b))
  | _ => none

def cmpV (A : Ar) (ty : Nat → Ti) (i : Ti) (op : BinOp) (x y : Value) : Option Value :=
  match i.kd with
  | .slc _ => match x with
    | .slice b _ _ => match y with
      | .slice none _ _ => neg A op (A.isn b)
      | _ => none
    | _ => none
  | .bool => match x with
    | .bool a => match y with
      | .bool b => neg A op (A.bcm .eql a b)
      | _ => none
    | _ => none
  | .strct fs => match i.flat with
    | true => match x with
      | .agg a => match y with
        | .agg b => match eqCells A ty fs a.toList b.toList with
          | some t => neg A op t
          | none => none
        | _ => none
      | _ => none
    | false => none
  | _ => none

def partsV (ρ : Operand → SV) : List (Nat × Operand) → Option (List (Nat × Value))
  | [] => some []
  | (i, x) :: r => match ρ x, partsV ρ r with
    | .v y, some l => some ((i, y) :: l)
    | _, _ => none

def Kd.isNone : Kd → Bool
  | .none => true
  | _ => false

def placesOf (T : Tab) : List (Nat × Nat) → Option (List (Nat × Nat))
  | [] => some []
  | (t, off) :: r => match (T.ty t).kd.isNone, placesOf T r with
    | false, some l => some ((off, (T.ty t).size) :: l)
    | _, _ => none

def buildL (T : Tab) (zero : List Value) (ps : List (Nat × Value)) : Kd → Option (List Value)
  | .strct fs => match placesOf T fs with
    | some l => fillL (fun i => l[i]?) zero ps
    | none => none
  | .arr _ e => match (T.ty e).kd.isNone with
    | false => fillL (fun i => some (i * (T.ty e).size, (T.ty e).size)) zero ps
    | true => none
  | _ => none

/-- A bound of a slice expression: absent, or an int. -/
def slx (ρ : Operand → SV) : Option Operand → Option (Option Int)
  | none => some none
  | some x => match ρ x with
    | .v (.int _ n) => some (some n)
    | _ => none

def sliceX (A : Ar) (b : Option Addr) (len cap size : Nat) (l hh m : Option Int) (k : Value → Prop) : Prop :=
  match m with
  | none => match hh with
    | none => match l with
      | none => k (.slice b len cap)
      | some l => Chk (fun _ => 0 ≤ l ∧ l ≤ (len : Int)) (fun _ => k (.slice (A.cut b l (A.nat cap) size) (A.dif (A.nat len) l) (A.dif (A.nat cap) l)))
    | some q => match l with
      | none => Chk (fun _ => 0 ≤ q ∧ q ≤ (cap : Int)) (fun _ => k (.slice (A.cut b 0 (A.nat cap) size) (A.dif q 0) cap))
      | some l => Chk (fun _ => 0 ≤ q ∧ q ≤ (cap : Int) ∧ 0 ≤ l ∧ l ≤ q) (fun _ => k (.slice (A.cut b l (A.nat cap) size) (A.dif q l) (A.dif (A.nat cap) l)))
  | some m => match hh with
    | none => False
    | some q => match l with
      | none => Chk (fun _ => 0 ≤ m ∧ m ≤ (cap : Int) ∧ 0 ≤ q ∧ q ≤ m) (fun _ => k (.slice (A.cut b 0 m size) (A.dif q 0) (A.dif m 0)))
      | some l => Chk (fun _ => 0 ≤ m ∧ m ≤ (cap : Int) ∧ 0 ≤ q ∧ q ≤ m ∧ 0 ≤ l ∧ l ≤ q) (fun _ => k (.slice (A.cut b l m size) (A.dif q l) (A.dif m l)))

def sliceS (A : Ar) (s : ByteArray) (l hh : Option Int) (k : Value → Prop) : Prop :=
  match hh with
  | none => match l with
    | none => k (.string s)
    | some l => Chk (fun _ => 0 ≤ l ∧ l ≤ (s.size : Int)) (fun _ => k (.string (A.sub s l (A.sln s))))
  | some q => match l with
    | none => Chk (fun _ => 0 ≤ q ∧ q ≤ (s.size : Int)) (fun _ => k (.string (A.sub s 0 q)))
    | some l => Chk (fun _ => 0 ≤ q ∧ q ≤ (s.size : Int) ∧ 0 ≤ l ∧ l ≤ q) (fun _ => k (.string (A.sub s l q)))

/-! The light operations: their value hangs on their operands, on local boxes and on cells that they read. -/

def isLight (T : Tab) (o : Oper) : Bool :=
  match o.op with
  | .convert s d _ => match (T.ty s).kd with
    | .slc _ => false
    | .ptr _ => false
    | .oth => false
    | _ => match (T.ty d).kd with
      | .slc _ => false
      | _ => true
  | .move _ | .pick .. | .build .. | .load .. | .nilCheck _ | .binOp .. | .unOp .. | .makeInterface .. | .makeFunc .. | .slice .. | .fieldAddr .. | .field .. | .indexAddr .. | .index .. | .extract .. | .typeAssert .. => true
  | .alloc _ | .box .. => match o.dst with
    | some d => !T.pub d
    | none => false
  | .call { callee := .builtin b, .. } => match b with
    | .len | .cap | .min | .max => true
    | _ => false
  | _ => false

/-- What a load gives of the cells that it reads. -/
def rdvk (agg : Bool) (cs : List Value) (k : Value → Prop) : Prop :=
  match agg with
  | true => k (.agg cs.toArray)
  | false => match cs with
    | x :: _ => k x
    | [] => False

def maskI (k : IntKind) : Int := if k.signed then -1 else k.max

def lightx (A : Ar) (T : Tab) (p : Unit → Program) (o : Oper) (ρ : Operand → SV) (L : Loc) (h : Heap) (k : SV → Option (List Value) → Prop) : Prop :=
  match o.op with
  | .move x => k (ρ x) none
  | .pick c a b => match ρ c with
    | .v (.bool true) => k (ρ a) none
    | .v (.bool false) => k (ρ b) none
    | _ => False
  | .alloc e => match (T.ty e).kd.isNone with
    | true => False
    | false => match o.dst with
      | none => False
      | some d => match lkp L d with
        | none => k (.loc d 0) (some (T.ty e).zero)
        | some _ => False
  | .box _ x => match o.dst with
    | none => False
    | some d => match ρ x with
      | .v v => match lkp L d with
        | none => k (.loc d 0) (some v.cells.toList)
        | some _ => False
      | _ => False
  | .load t a => match (T.ty t).kd.isNone with
    | true => False
    | false => match ρ a with
      | .loc s off => match lkp L s with
        | some c => match takeN c off (T.ty t).size with
          | some cs => rdvk (T.ty t).agg cs (fun x => k (.v x) none)
          | none => False
        | none => False
      | .v (.pointer (some x)) => LdX h x (T.ty t).size (fun cs => rdvk (T.ty t).agg cs (fun x => k (.v x) none))
      | _ => False
  | .nilCheck x => match ρ x with
    | .loc s off => k (.loc s off) none
    | .v (.pointer (some a)) => k (.v (.pointer (some a))) none
    | _ => False
  | .fieldAddr t x f => match (T.ty t).kd with
    | .strct fs => match fs[f]? with
      | some (ft, off) => match (T.ty ft).kd.isNone with
        | true => False
        | false => match (T.ty ft).size with
          | 0 => False
          | _ + 1 => match ρ x with
            | .loc s o => k (.loc s (o + off)) none
            | .v (.pointer (some a)) => k (.v (.pointer (some (A.off a off)))) none
            | _ => False
      | none => False
    | _ => False
  | .indexAddr t x i => match ρ i with
    | .v (.int _ n) => match (T.ty t).kd with
      | .slc e => match (T.ty e).kd.isNone with
        | true => False
        | false => match ρ x with
          | .v (.slice b len _) => Chk (fun _ => b.isSome = true ∧ 0 ≤ n ∧ n < (len : Int)) (fun _ => k (.v (.pointer (some (A.elt b n (T.ty e).size)))) none)
          | _ => False
      | .arr m e => match (T.ty e).kd.isNone with
        | true => False
        | false => match ρ x with
          | .loc s off => Chk (fun _ => 0 ≤ n ∧ n < (m : Int)) (fun _ => k (.loc s (A.ix off n (T.ty e).size)) none)
          | .v (.pointer (some a)) => Chk (fun _ => 0 ≤ n ∧ n < (m : Int)) (fun _ => k (.v (.pointer (some (A.elt (some a) n (T.ty e).size)))) none)
          | _ => False
      | _ => False
    | _ => False
  | .index t x i => match ρ i with
    | .v (.int _ n) => match (T.ty t).kd with
      | .str => match ρ x with
        | .v (.string s) => Chk (fun _ => 0 ≤ n ∧ n < (s.size : Int)) (fun _ => k (.v (.int .u8 (A.byte s n))) none)
        | _ => False
      | _ => False
    | _ => False
  | .field t x f => match (T.ty t).kd with
    | .strct fs => match fs[f]? with
      | some (ft, off) => match (T.ty ft).kd.isNone with
        | true => False
        | false => match ρ x with
          | .v (.agg cs) => match takeN cs.toList off (T.ty ft).size with
            | some ds => rdvk (T.ty ft).agg ds (fun x => k (.v x) none)
            | none => False
          | _ => False
      | none => False
    | _ => False
  | .extract x i => match ρ x with
    | .v (.tuple vs) => match vs.toList[i]? with
      | some v => k (.v v) none
      | none => False
    | _ => False
  | .build t parts => match (T.ty t).kd.isNone with
    | true => False
    | false => match partsV ρ parts.toList with
      | some ps => match buildL T (T.ty t).zero ps (T.ty t).kd with
        | some cs => k (.v (.agg cs.toArray)) none
        | none => False
      | none => False
  | .binOp op t x y _ => match ρ x with
    | .v a => match ρ y with
      | .v b => match binV A op a b with
        | some r => k (.v r) none
        | none => match cmpV A T.ty (T.ty t) op a b with
          | some r => k (.v r) none
          | none => binC A op a b (fun r => k (.v r) none) (fun _ => RunX p (fun _ => do eqGuard op t x y a b; binOp op t a b) (fun r => k (.v r) none))
      | _ => False
    | _ => False
  | .unOp op _ x => match ρ x with
    | .v (.bool b) => match op with
      | .not => k (.v (.bool (A.not b))) none
      | _ => False
    | .v (.int kd n) => match op with
      | .neg => k (.v (.int kd (A.ari .sub kd 0 n))) none
      | .xor => k (.v (.int kd (A.ari .xor kd (maskI kd) n))) none
      | _ => False
    | _ => False
  | .convert src dst x => match ρ x with
    | .v (.int j n) => match (T.ty dst).kd with
      | .int kd => match (T.ty src).kd with
        | .int _ => k (.v (.int kd (A.conv kd n))) none
        | _ => False
      | _ => RunX p (fun _ => Go.convert src dst (.int j n)) (fun r => k (.v r) none)
    | .v a => RunX p (fun _ => Go.convert src dst a) (fun r => k (.v r) none)
    | _ => False
  | .makeInterface t x => match (T.ty t).kd with
    | .ifc => False
    | .none => False
    | _ => match ρ x with
      | .v v => k (.v (.iface t v)) none
      | _ => False
  | .makeFunc fn f c => match vals (f.toList.map ρ) with
    | some fs => match vals (c.toList.map ρ) with
      | some cs => k (.v (.func fn fs.toArray cs.toArray)) none
      | none => False
    | none => False
  | .slice t x lo hi mx => match slx ρ lo, slx ρ hi, slx ρ mx with
    | some l, some hh, some m => match (T.ty t).kd with
      | .slc e => match (T.ty e).kd.isNone with
        | true => False
        | false => match ρ x with
          | .v (.slice b len cap) => sliceX A b len cap (T.ty e).size l hh m (fun r => k (.v r) none)
          | _ => False
      | .arr q e => match (T.ty e).kd.isNone with
        | true => False
        | false => match ρ x with
          | .v (.pointer (some a)) => sliceX A (some a) q q (T.ty e).size l hh m (fun r => k (.v r) none)
          | _ => False
      | .str => match ρ x with
        | .v (.string s) => match m with
          | none => sliceS A s l hh (fun r => k (.v r) none)
          | some _ => False
        | _ => False
      | _ => False
    | _, _, _ => False
  | .call { callee := .builtin b, args, argTypes } => match b with
    | .len => match argTypes[0]? with
      | some t => match vals (args.toList.map ρ) with
        | some [.slice _ n _] => match (T.ty t).kd with
          | .slc _ => k (.v (.int .i64 (A.nat n))) none
          | _ => False
        | some [.string s] => match (T.ty t).kd with
          | .str => k (.v (.int .i64 (A.sln s))) none
          | _ => False
        | _ => False
      | none => False
    | .cap => match argTypes[0]? with
      | some t => match vals (args.toList.map ρ) with
        | some [.slice _ _ n] => match (T.ty t).kd with
          | .slc _ => k (.v (.int .i64 (A.nat n))) none
          | _ => False
        | _ => False
      | none => False
    | .min => match vals (args.toList.map ρ) with
      | some [.int kd a, .int _ b] => k (.v (.int kd (A.imin a b))) none
      | _ => False
    | .max => match vals (args.toList.map ρ) with
      | some [.int kd a, .int _ b] => k (.v (.int kd (A.imax a b))) none
      | _ => False
    | _ => False
  | .typeAssert x q as ok => match ρ x with
    | .v a => RunX p (fun _ => Instr.typeAssert a q as ok) (fun r => k (.v r) none)
    | _ => False
  | _ => False

/-! The heavy ones. -/

structure StX (h : Heap) (a : Addr) (cs : List Value) (k : Heap → Prop) : Prop where
  out : ∃ c e fr, a.spot = none ∧ h a.block = some (.cells c e fr) ∧ a.off + cs.length ≤ c.size ∧ (∀ i, i < cs.length → ¬ (fr.1 ≤ a.off + i ∧ a.off + i < fr.2)) ∧
    ∀ h', h' = hset h a.block (.cells (setN c.toList a.off cs).toArray e fr) → k h'

/-- Cells at an address that need not be there where there are none of them. -/
def rdo (h : Heap) (b : Option Addr) (n : Nat) (cs : List Value) : Prop :=
  (n = 0 ∧ cs = []) ∨ ∃ a, b = some a ∧ rdc h a n cs

def StO (h : Heap) (b : Option Addr) (cs : List Value) (k : Heap → Prop) : Prop :=
  (cs = [] ∧ k h) ∨ ∃ a, b = some a ∧ StX h a cs k

def zeros (n : Nat) (z : List Value) : List Value := (List.replicate n z).flatten

/-- A string's bytes as cells. -/
def strCells (s : ByteArray) : List Value := s.data.toList.map fun b => .int .u8 b.toNat

/-- 'append': 'new' are the cells that come behind. -/
structure AppX (h : Heap) (b : Option Addr) (len cap n size bytes e : Nat) (new : List Value) (k : Value → Heap → Prop) : Prop where
  one : ones new = true
  fits : len + n ≤ cap → StO h (b.map (·.add (len * size))) new (fun h' => k (.slice b (len + n) cap) h')
  grows : cap < len + n → 2 * (len + n) * bytes ≤ 2 ^ 48 ∧ len + n ≤ 2 ^ 48 ∧ ∃ old, rdo h b (len * size) old ∧
    ∀ nb c h' rest, h nb = none → len + n ≤ c → rest.length = (c - (len + n)) * size → h' = hset h nb (.cells (old ++ new ++ rest).toArray e (0, 0)) → k (.slice (some ⟨nb, 0, none⟩) (len + n) c) h'

/-- 'append' of n zeros. -/
structure AppZX (h : Heap) (b : Option Addr) (len cap n size bytes e : Nat) (z : List Value) (k : Value → Heap → Prop) : Prop where
  out : AppX h b len cap n size bytes e (zeros n z) k

structure AppendX (h : Heap) (b : Option Addr) (len cap : Nat) (x : Option Addr) (n size bytes e : Nat) (k : Value → Heap → Prop) : Prop where
  out : ∃ new, rdo h x (n * size) new ∧ AppX h b len cap n size bytes e new k

structure MakeX (h : Heap) (e : Nat) (l c : Int) (bytes : Nat) (z : List Value) (k : Value → Heap → Prop) : Prop where
  len : 0 ≤ l ∧ l ≤ c
  room : c ≤ 2 ^ 48 ∧ (bytes : Int) * c ≤ 2 ^ 48
  out : ∀ nb h', h nb = none → h' = hset h nb (.cells (zeros c.toNat z).toArray e (0, 0)) → k (.slice (some ⟨nb, 0, none⟩) l.toNat c.toNat) h'

structure CopyX (h : Heap) (b : Option Addr) (len : Nat) (x : Option Addr) (n size : Nat) (k : Value → Heap → Prop) : Prop where
  out : ∃ cs, rdo h x (min n len * size) cs ∧ ones cs = true ∧ StO h b cs (fun h' => k (.int .i64 ((min n len : Nat) : Int)) h')

structure ClearX (h : Heap) (b : Option Addr) (len : Nat) (z : List Value) (k : Heap → Prop) : Prop where
  one : ones z = true
  out : StO h b (zeros len z) k

def hx (A : Ar) (T : Tab) (p : Unit → Program) (o : Oper) (ρ : Operand → SV) (L : Loc) (h : Heap) (k : SV → Loc → Heap → Prop) : Prop :=
  match o.op with
  | .assign x => k (ρ x) L h
  | .store t a x => match (T.ty t).kd.isNone with
    | true => False
    | false => match ρ x with
      | .v v => match v.cells.toList.length == (T.ty t).size with
        | false => False
        | true => match ones v.cells.toList with
          | false => False
          | true => match ρ a with
            | .loc s off => match lkp L s with
              | some c => match decide (off + v.cells.toList.length ≤ c.length) with
                | true => k (.v undef) (upd L s (setN c off v.cells.toList)) h
                | false => False
              | none => False
            | .v (.pointer (some y)) => StX h y v.cells.toList (fun h' => k (.v undef) L h')
            | _ => False
      | _ => False
  | .alloc e => match (T.ty e).kd.isNone with
    | true => False
    | false => ∀ n h', h n = none → h' = hset h n (.cells (T.ty e).zero.toArray e (0, 0)) → k (.v (.pointer (some ⟨n, 0, none⟩))) L h'
  | .box e x => match ρ x with
    | .v v => ∀ n h', h n = none → h' = hset h n (.cells v.cells e (0, 0)) → k (.v (.pointer (some ⟨n, 0, none⟩))) L h'
    | _ => False
  | .buildSlice t len parts => match (T.ty t).kd with
    | .slc e => match (T.ty e).kd.isNone with
      | true => False
      | false => match partsV ρ parts.toList with
        | some ps => match decide (len * (T.ty e).size ≤ 2 ^ 24), (T.ty e).zero.length == (T.ty e).size with
          | true, true => match fillL (fun i => some (i * (T.ty e).size, (T.ty e).size)) (zeros len (T.ty e).zero) ps with
            | some cs => ∀ n h', h n = none → h' = hset h n (.cells cs.toArray e (0, 0)) → k (.v (.slice (some ⟨n, 0, none⟩) len len)) L h'
            | none => False
          | _, _ => False
        | none => False
    | _ => False
  | .makeSlice t l c => match (T.ty t).kd with
    | .slc e => match (T.ty e).kd.isNone with
      | true => False
      | false => match ρ l with
        | .v (.int _ l) => match ρ c with
          | .v (.int _ c) => match (T.ty e).zero.length == (T.ty e).size with
            | true => MakeX h e l c (T.ty e).bytes (T.ty e).zero (fun x h' => k (.v x) L h')
            | false => False
          | _ => False
        | _ => False
    | _ => False
  | .makeMap t r => match r with
    | none => ∀ n h', h n = none → h' = hset h n (.map #[] 0) → k (.v (.map (some n))) L h'
    | some _ => False
  | .call { callee := .value f, args, .. } => match ρ f with
    | .v (.func (.func g) first cap) => match vals (args.toList.map ρ) with
      | some as => match T.fn g with
        | true => match T.pan g with
          | true => FnPX p g (first.toList ++ as ++ cap.toList) h (fun r h' => k (.v r) L h') (fun c h' => T.kp c (T.rs.map fun t => ρ (.tmp t)) h')
          | false => FnX p g (first.toList ++ as ++ cap.toList) h (fun r h' => k (.v r) L h')
        | false => SemX p (fun _ => extS g (first.toList ++ as ++ cap.toList)) h (fun r h' => k (.v r) L h')
      | none => False
    | .v (.func (.yield l) first _) => match vals (args.toList.map ρ) with
      | some as => YdX p l (first.toList ++ as) h (fun r h' => k (.v r) L h')
      | none => False
    | _ => False
  | .call { callee := .builtin b, args, argTypes } => match b with
    | .append => match argTypes[0]?, argTypes[1]? with
      | some t, some u => match (T.ty t).kd with
        | .slc e => match (T.ty e).kd.isNone with
          | true => False
          | false => match (T.ty e).zero.length == (T.ty e).size with
            | false => False
            | true => match vals (args.toList.map ρ) with
              | some [.slice b len cap, .slice x n _] => match (T.ty u).kd with
                | .slc _ => AppendX h b len cap x n (T.ty e).size (T.ty e).bytes e (fun v h' => k (.v v) L h')
                | _ => False
              | some [.slice b len cap, .string s] => match (T.ty u).kd with
                | .str => AppX h b len cap s.size (T.ty e).size (T.ty e).bytes e (strCells s) (fun v h' => k (.v v) L h')
                | _ => False
              | some [.slice b len cap, .int _ n] => match (T.ty u).kd with
                | .int _ => Chk (fun _ => 0 ≤ n ∧ n ≤ 2 ^ 48 ∧ n * (T.ty e).bytes ≤ 2 ^ 48) (fun _ => AppZX h b len cap (A.dif n 0) (T.ty e).size (T.ty e).bytes e (T.ty e).zero (fun v h' => k (.v v) L h'))
                | _ => False
              | _ => False
        | _ => False
      | _, _ => False
    | .copy => match argTypes[0]? with
      | some t => match (T.ty t).kd with
        | .slc e => match (T.ty e).kd.isNone with
          | true => False
          | false => match vals (args.toList.map ρ) with
            | some [.slice b len _, .slice x n _] => CopyX h b len x n (T.ty e).size (fun v h' => k (.v v) L h')
            | _ => False
        | _ => False
      | none => False
    | .clear => match argTypes[0]? with
      | some t => match (T.ty t).kd with
        | .slc e => match (T.ty e).kd.isNone with
          | true => False
          | false => match (T.ty e).zero.length == (T.ty e).size with
            | false => False
            | true => match vals (args.toList.map ρ) with
              | some [.slice b len _] => ClearX h b len (T.ty e).zero (fun h' => k (.v (.tuple #[])) L h')
              | _ => False
        | _ => False
      | none => False
    | .delete => match vals (args.toList.map ρ) with
      | some as => SemX p (fun _ => Builtin.delete_ argTypes o.type as.toArray) h (fun r h' => k (.v r) L h')
      | none => False
    | _ => False
  | .convert src dst x => match ρ x with
    | .v a => SemX p (fun _ => Go.convert src dst a) h (fun r h' => k (.v r) L h')
    | _ => False
  | .lookup t x i ok => match ρ x with
    | .v a => match ρ i with
      | .v b => SemX p (fun _ => Instr.lookup t a b ok) h (fun r h' => k (.v r) L h')
      | _ => False
    | _ => False
  | .mapUpdate t m i x => match ρ m with
    | .v a => match ρ i with
      | .v b => match ρ x with
        | .v c => SemX p (fun _ => do Instr.mapUpdate t a b c; pure undef) h (fun _ h' => k (.v undef) L h')
        | _ => False
      | _ => False
    | _ => False
  | .mapEntry t m i => match ρ m with
    | .v a => match ρ i with
      | .v b => SemX p (fun _ => Instr.mapEntry t a b) h (fun r h' => k (.v r) L h')
      | _ => False
    | _ => False
  | .entryStore t m i x => match ρ m with
    | .v a => match ρ i with
      | .v b => match ρ x with
        | .v c => SemX p (fun _ => do Instr.entryStore t a b c; pure undef) h (fun _ h' => k (.v undef) L h')
        | _ => False
      | _ => False
    | _ => False
  | .range t x => match ρ x with
    | .v a => SemX p (fun _ => Instr.range t a) h (fun r h' => k (.v r) L h')
    | _ => False
  | .next it str => match ρ it with
    | .v a => SemX p (fun _ => Instr.next a str o.type) h (fun r h' => k (.v r) L h')
    | _ => False
  | .entry it => match ρ it with
    | .v a => SemX p (fun _ => Instr.entry a) h (fun r h' => k (.v r) L h')
    | _ => False
  | .insert t m i x => match ρ m with
    | .v a => match ρ i with
      | .v b => match ρ x with
        | .v c => SemX p (fun _ => do Instr.mapUpdate t a b c; pure undef) h (fun _ h' => k (.v undef) L h')
        | _ => False
      | _ => False
    | _ => False
  | .panic x => match ρ x with
    | .v (.iface t v) => T.kp [{ v := .iface t v, recovered := false }] (T.rs.map fun t => ρ (.tmp t)) h
    | _ => False
  | _ => False

def put (env : Env) (d : Option Nat) (x : SV) : Env :=
  match d with
  | some t => env.set t x
  | none => env

def addL (L : Loc) (d : Option Nat) (nb : Option (List Value)) : Loc :=
  match d, nb with
  | some t, some c => (t, c) :: L
  | _, _ => L

/-- The guard: does the operation run? -/
def gd (ops : List Oper) (env : Env) (o : Oper) (yes no : Unit → Prop) : Prop :=
  match o.guard with
  | none => yes ()
  | some (j, want) => match ops[j]? with
    | some oj => match oj.dst with
      | some d => match env.getD d .u with
        | .v (.bool b) => match want with
          | true => bsel b yes no
          | false => bsel b no yes
        | .v (.tuple _) => no ()
        | _ => False
      | none => no ()
    | none => no ()

def sxOps (A : Ar) (T : Tab) (p : Unit → Program) (all : List Oper) (K : Env → Loc → Heap → Prop) : List Oper → Env → Loc → Heap → Prop
  | [], env, L, h => K env L h
  | o :: rest, env, L, h =>
    gd all env o
      (fun _ => match isLight T o with
        | true => lightx A T p o (sev env) L h (fun x nb => sxOps A T p all K rest (put env o.dst x) (addL L o.dst nb) h)
        | false => hx A T p o (sev env) L h (fun x L' h' => sxOps A T p all K rest (put env o.dst x) L' h'))
      (fun _ => sxOps A T p all K rest (put env o.dst (.v undef)) L h)

/-- What is asked of a load that may come behind a heavy operation: it gives what it gave. -/
def pinOk (T : Tab) (strict : Bool) (h : Heap) (L : Loc) (env : Env) (o : Oper) (rest : Unit → Prop) : Prop :=
  match o.op with
  | .load t a => match sev env a with
    | .v (.pointer (some x)) => LdX h x (T.ty t).size (fun cs => rdvk (T.ty t).agg cs (fun x => Chk (fun _ => ∃ d, o.dst = some d ∧ env[d]? = some (.v x)) rest))
    | .loc s off => match strict with
      | false => rest ()
      | true => match lkp L s with
        | some c => match takeN c off (T.ty t).size with
          | some cs => rdvk (T.ty t).agg cs (fun x => Chk (fun _ => ∃ d, o.dst = some d ∧ env[d]? = some (.v x)) rest)
          | none => False
        | none => False
    | _ => False
  | _ => rest ()

def pins (T : Tab) (strict : Bool) (all : List Oper) (h : Heap) (L : Loc) (env : Env) : List Nat → (Unit → Prop) → Prop
  | [], k => k ()
  | i :: r, k => match all[i]? with
    | some o => gd all env o (fun _ => pinOk T strict h L env o (fun _ => pins T strict all h L env r k)) (fun _ => pins T strict all h L env r k)
    | none => False

def isStore (o : Oper) : Bool := match o.op with
  | .store .. => true
  | _ => false

def sxPlan (A : Ar) (T : Tab) (p : Unit → Program) (all : List Oper) (K : Env → Loc → Heap → Prop) : Plan → Env → Loc → Heap → Prop
  | .done, env, L, h => K env L h
  | .light i rest, env, L, h => match all[i]? with
    | some o => gd all env o
      (fun _ => lightx A T p o (sev env) L h (fun x nb => sxPlan A T p all K rest (put env o.dst x) (addL L o.dst nb) h))
      (fun _ => sxPlan A T p all K rest (put env o.dst (.v undef)) L h)
    | none => False
  | .heavy i pn rest, env, L, h => match all[i]? with
    | some o => gd all env o
      (fun _ => hx A T p o (sev env) L h (fun x L' h' => pins T (isStore o) all h' L' (put env o.dst x) pn (fun _ => sxPlan A T p all K rest (put env o.dst x) L' h')))
      (fun _ => sxPlan A T p all K rest (put env o.dst (.v undef)) L h)
    | none => False
  | .fork l r, env, L, h => sxPlan A T p all K l env L h ∧ sxPlan A T p all K r env L h

/-! The code. -/

inductive Ex where
  | normal
  | exit (id : Nat)
  | ret

/-- The second state says less than the first. -/
def wk : Env → Env → Prop
  | [], [] => True
  | x :: r, y :: q => match y with
    | .u => wk r q
    | .v b => x = .v b ∧ wk r q
    | .loc s o => x = .loc s o ∧ wk r q
  | _, _ => False

def lsub (L : Loc) : Loc → Prop
  | [] => True
  | (s, c) :: r => lkp L s = some c ∧ lsub L r

def lok (L : Loc) : Env → Prop
  | [] => True
  | x :: r => match x with
    | .loc s _ => (lkp L s).isSome = true ∧ lok L r
    | _ => lok L r

structure Wk (env : Env) (L : Loc) (env1 : Env) (L1 : Loc) : Prop where
  env : wk env env1
  loc : lsub L L1
  ok : lok L1 env1

/-- Which slots does a code write? -/
def wrOps : List Oper → List Nat
  | [] => []
  | o :: r => match o.dst with
    | some d => d :: wrOps r
    | none => wrOps r
def wr : Code → List Nat
  | .region _ ops _ => wrOps ops.toList
  | .seq a b | .cond _ a b => wr a ++ wr b
  | .block _ c | .loop c | .scope c => wr c
  | _ => []

structure LoopX (ws : List Nat) (body : (Ex → Env → Loc → Heap → Prop) → Env → Loc → Heap → Prop) (K : Ex → Env → Loc → Heap → Prop) (env : Env) (L : Loc) (h : Heap) : Prop where
  out : ∃ (I : Nat → Env → Loc → Heap → Prop) (n : Nat), (∃ env1 L1, Wk env L env1 L1 ∧ I n env1 L1 h) ∧
    ∀ n env L h, I n env L h → body (fun e env' L' h' => match e with
      | .normal => ∃ m env1 L1, m < n ∧ Wk env' L' env1 L1 ∧ I m env1 L1 h'
      | e => K e env' L' h') env L h

def sx (A : Ar) (T : Tab) (p : Unit → Program) : Code → (Ex → Env → Loc → Heap → Prop) → Env → Loc → Heap → Prop
  | .skip, K, env, L, h => K .normal env L h
  | .region id ops draw, K, env, L, h => match draw with
    | false => sxOps A T p ops.toList (fun env L h => K .normal env L h) ops.toList env L h
    | true => sxPlan A T p ops.toList (fun env L h => K .normal env L h) (T.plan id) env L h
  | .seq a b, K, env, L, h => sx A T p a (fun e env L h => match e with
    | .normal => sx A T p b K env L h
    | e => K e env L h) env L h
  | .cond c a b, K, env, L, h => match sev env c with
    | .v (.bool t) => bsel t (fun _ => sx A T p a K env L h) (fun _ => sx A T p b K env L h)
    | _ => False
  | .block id c, K, env, L, h => sx A T p c (fun e env L h => match e with
    | .exit j => if j = id then K .normal env L h else K (.exit j) env L h
    | e => K e env L h) env L h
  | .loop c, K, env, L, h => LoopX (wr c) (fun K' env L h => sx A T p c K' env L h) K env L h
  | .exit id, K, env, L, h => K (.exit id) env L h
  | .ret, K, env, L, h => K .ret env L h
  | .scope c, K, env, L, h => sx A T p c K env L h
  | .label _, K, env, L, h => K .normal env L h
  | _, _, _, _, _ => False

def resv (T : Tab) (env : Env) (L : Loc) (h : Heap) : ResultVar → (Value → Prop) → Prop
  | .tmp t, k => match env.getD t .u with
    | .v x => k x
    | _ => False
  | .cell a t, k => match (T.ty t).kd, env.getD a .u with
    | .none, _ => False
    | _, .loc s off => match lkp L s with
      | some c => match takeN c off (T.ty t).size with
        | some cs => rdvk (T.ty t).agg cs k
        | none => False
      | none => False
    | _, .v (.pointer (some x)) => LdX h x (T.ty t).size (fun cs => rdvk (T.ty t).agg cs k)
    | _, _ => False

def resl (T : Tab) (env : Env) (L : Loc) (h : Heap) : List ResultVar → (List Value → Prop) → Prop
  | [], k => k []
  | r :: rs, k => resv T env L h r (fun x => resl T env L h rs (fun xs => k (x :: xs)))

def oneOr (l : List Value) (k : Value → Prop) : Prop := match l with
  | [x] => k x
  | l => k (.tuple l.toArray)

def sxFn (A : Ar) (T : Tab) (p : Unit → Program) (c : Code) (ntmps : Nat) (rs : List ResultVar) (args : List Value) (h : Heap) (R : Value → Heap → Prop) : Prop :=
  sx A T p c (fun e env L h => match e with
    | .exit _ => False
    | _ => resl T env L h rs (fun l => oneOr l (fun v => R v h))) (args.map SV.v ++ List.replicate (ntmps - args.length) (.v undef)) [] h

end Go.Sx

namespace Go.Sx
variable {P : Program} {T : Tab} {A : Ar} [ArOk A]

/-! Worlds. -/

structure Same (w w' : World) : Prop where
  os : w'.os = w.os
  tape : w'.tape = w.tape
  output : w'.output = w.output

theorem After.refl {h : Heap} {w : World} (ha : Agr h w) : After h w h w :=
  ⟨rfl, rfl, rfl, Nat.le_refl _, ha, fun _ _ hb => ⟨rfl, hb⟩⟩

theorem After.trans {h h1 h2 : Heap} {w w1 w2 : World} (a : After h w h1 w1) (b : After h1 w1 h2 w2) : After h w h2 w2 :=
  ⟨b.os.trans a.os, b.tape.trans a.tape, b.output.trans a.output, Nat.le_trans a.size b.size, b.agr, fun k hk hn =>
    have x := a.frame k hk hn
    have y := b.frame k (Nat.lt_of_lt_of_le hk a.size) x.2
    ⟨y.1.trans x.1, y.2⟩⟩

theorem Agr.none_ge {h : Heap} {w : World} (ha : Agr h w) {b : Nat} (hb : w.heap.size ≤ b) : h b = none := by
  cases hh : h b with
  | none => rfl
  | some o => have := ha b o hh; rw [Array.getElem?_eq_none hb] at this; cases this

theorem Fn.mono {f : FuncId} {args : List Value} {h : Heap} {R R' : Value → Heap → Prop} (x : Fn P f args h R) (hr : ∀ v h', R v h' → R' v h') : Fn P f args h R' :=
  fun w hw => (x w hw).mono fun e w' ⟨v, h', he, hR, ha⟩ => ⟨v, h', he, hr _ _ hR, ha⟩

theorem FnPX.mono {p : Unit → Program} {f : FuncId} {args : List Value} {h : Heap} {R R' : Value → Heap → Prop} {K K' : List PanicEntry → Heap → Prop} (x : FnPX p f args h R K) (hr : ∀ v h', R v h' → R' v h') (hk : ∀ c h', K c h' → K' c h') : FnPX p f args h R' K' :=
  ⟨fun w hw => (x.out w hw).mono fun e w' hq => by
    rcases hq with ⟨v, h', h1, h2, h3⟩ | ⟨c, h', h1, h2, h3⟩
    · exact .inl ⟨v, h', h1, hr _ _ h2, h3⟩
    · exact .inr ⟨c, h', h1, hk _ _ h2, h3⟩⟩

theorem FnX.mono {p : Unit → Program} {f : FuncId} {args : List Value} {h : Heap} {R R' : Value → Heap → Prop} (x : FnX p f args h R) (hr : ∀ v h', R v h' → R' v h') : FnX p f args h R' :=
  ⟨x.out.mono hr⟩

/-! Types. -/

structure TiOk (P : Program) (t : TypeId) (i : Ti) : Prop where
  ex : ∃ ti d z, P.info? t = some ti ∧ P.underlying t = some d ∧ ti.zero = some z ∧
    i.agg = (match d with | .struct _ | .array _ _ => true | _ => false) ∧ i.size = ti.size ∧ i.bytes = ti.bytes ∧ i.zero = z.cells.toList ∧ i.kd = kdOf d ∧ i.flat = flatOf P t d

theorem tiOk (hT : TabOk P T) {t : TypeId} (h : (T.ty t).kd ≠ .none) : TiOk P t (T.ty t) := by
  rcases hT.ty t with e | e
  · rw [e] at h ⊢
    unfold mkTi at h ⊢
    cases hi : P.info? t with
    | none => simp [hi, Ti.none] at h
    | some ti =>
      cases hu : P.underlying t with
      | none => simp [hi, hu, Ti.none] at h
      | some d =>
        cases hz : ti.zero with
        | none => simp [hi, hu, hz, Ti.none] at h
        | some z =>
          refine ⟨ti, d, z, ?_⟩
          simp only [hz, hi, hu, true_and]
          all_goals (cases d <;> simp)
  · rw [e] at h; exact absurd rfl h

theorem TiOk.run_info {t : TypeId} {i : Ti} (h : TiOk P t i) (w : World) : ∃ ti, (typeInfo t).run P w = .ok ti w ∧ i.size = ti.size ∧ i.bytes = ti.bytes := by
  obtain ⟨ti, d, z, h1, -, -, -, h2, h3, -, -, -⟩ := h.ex
  exact ⟨ti, by simp [typeInfo, h1], h2, h3⟩

theorem TiOk.run_size {t : TypeId} {i : Ti} (h : TiOk P t i) (w : World) : (sizeOf t).run P w = .ok i.size w := by
  obtain ⟨ti, h1, h2, -⟩ := h.run_info w
  simp [sizeOf, h1, h2]

theorem TiOk.run_under {t : TypeId} {i : Ti} (h : TiOk P t i) (w : World) : ∃ d, (underlying t).run P w = .ok d w ∧ P.underlying t = some d ∧ i.kd = kdOf d ∧
    i.agg = (match d with | .struct _ | .array _ _ => true | _ => false) := by
  obtain ⟨ti, d, z, -, h1, -, h2, -, -, -, h3, -⟩ := h.ex
  exact ⟨d, by simp [underlying, h1], h1, h3, h2⟩

theorem TiOk.run_isAgg {t : TypeId} {i : Ti} (h : TiOk P t i) (w : World) : (isAgg t).run P w = .ok i.agg w := by
  obtain ⟨d, h1, -, -, h2⟩ := h.run_under w
  unfold isAgg
  rw [Sem.run_bind, h1, h2]
  cases d <;> rfl

theorem TiOk.run_zero {t : TypeId} {i : Ti} (h : TiOk P t i) (w : World) : ∃ z, (zeroValue t).run P w = .ok z w ∧ z.cells.toList = i.zero := by
  obtain ⟨ti, d, z, h1, -, h3, -, -, -, h4, -, -⟩ := h.ex
  exact ⟨z, by simp [zeroValue, typeInfo, h1, h3], h4.symm⟩

/-! Reads and stores. -/

theorem add_none (b o n : Nat) : (⟨b, o, none⟩ : Addr).add n = ⟨b, o + n, none⟩ := by
  unfold Addr.add
  split
  · rename_i h; simp [h]
  · rfl

theorem cell_eq {w : World} {b o : Nat} {c : Array Value} {e : TypeId} {fr : Nat × Nat} (h : w.heap[b]? = some (.cells c e fr)) : w.cell? ⟨b, o, none⟩ = c[o]? := by
  simp [World.cell?, h]

/-- A variable is read. -/
theorem run_loadVar {t : TypeId} {i : Ti} (hi : TiOk P t i) (w : World) (b o : Nat) (cs : List Value) (hl : cs.length = i.size)
    (hc : ∀ j, j < cs.length → w.cell? ⟨b, o + j, none⟩ = cs[j]?) {k : Value → Prop} (hk : rdvk i.agg cs k) :
    ∃ v, (loadVar t ⟨b, o, none⟩).run P w = .ok v w ∧ k v := by
  unfold loadVar
  rw [Sem.run_bind, hi.run_isAgg]
  unfold rdvk at hk
  cases ha : i.agg with
  | true =>
    simp only [ha] at hk
    refine ⟨_, ?_, hk⟩
    have := run_loadCells_list (P := P) w ⟨b, o, none⟩ cs (fun j v hv => by
      rw [add_none, hc j (by rw [List.getElem?_eq_some_iff] at hv; exact hv.1), hv])
    simp [hi.run_size, ← hl, this]
  | false =>
    simp only [ha] at hk
    cases cs with
    | nil => exact hk.elim
    | cons x r =>
      refine ⟨x, ?_, hk⟩
      have := hc 0 (by simp)
      simp only [Nat.add_zero, List.getElem?_cons_zero] at this
      simp [this]

theorem rdc.cell {h : Heap} {w : World} (ha : Agr h w) {a : Addr} {n : Nat} {cs : List Value} (hr : rdc h a n cs) :
    a.spot = none ∧ cs.length = n ∧ ∀ j, j < cs.length → w.cell? ⟨a.block, a.off + j, none⟩ = cs[j]? := by
  obtain ⟨h1, h2, c, e, fr, h3, h4⟩ := hr
  refine ⟨h1, h2, fun j hj => ?_⟩
  rw [cell_eq (ha _ _ h3)]
  exact h4 j (h2 ▸ hj)

theorem one_ok {v : Value} (h : one v = true) (a : Addr) (m : Mode) (w : World) {c : Array Value} {e : TypeId} {fr : Nat × Nat} (hs : a.spot = none)
    (hb : w.heap[a.block]? = some (.cells c e fr)) (ho : a.off < c.size) (hf : ¬ (fr.1 ≤ a.off ∧ a.off < fr.2)) :
    (store a v m).run P w = .ok () (w.setCell a v) := by
  have hc : w.cell? a = some c[a.off] := by simp [World.cell?, hb, hs, ho]
  have hz : w.frozen? a = false := by
    obtain ⟨lo, hi⟩ := fr
    simp only [World.frozen?, hb]
    simp only [Bool.and_eq_false_iff, decide_eq_false_iff_not]
    simp only at hf
    omega
  cases v <;> first
    | (simp [one] at h; done)
    | (simp only [store, Sem.run, hc, hz]; rfl)

theorem setN_length (c : List Value) (o : Nat) (vs : List Value) : (setN c o vs).length = c.length := by
  induction vs generalizing c o with
  | nil => rfl
  | cons v r ih => simp [setN, ih]

theorem run_storeCells {b o : Nat} {e : TypeId} {fr : Nat × Nat} : ∀ (vs : List Value) (i : Nat) (c : Array Value) (w : World),
    w.heap[b]? = some (.cells c e fr) → o + i + vs.length ≤ c.size → (∀ j, j < vs.length → ¬ (fr.1 ≤ o + i + j ∧ o + i + j < fr.2)) → ones vs = true →
    ∃ w', (storeCells ⟨b, o, none⟩ vs i).run P w = .ok () w' ∧ w'.heap[b]? = some (.cells (setN c.toList (o + i) vs).toArray e fr) ∧
      (∀ b', b' ≠ b → w'.heap[b']? = w.heap[b']?) ∧ w'.heap.size = w.heap.size ∧ Same w w'
  | [], i, c, w, hb, _, _, _ => ⟨w, rfl, by simp [setN, hb], fun _ _ => rfl, rfl, rfl, rfl, rfl⟩
  | v :: r, i, c, w, hb, hl, hf, h1 => by
    simp only [List.length_cons] at hl hf
    have ho : one v = true := by
      unfold ones at h1; split at h1
      · assumption
      · cases h1
    have hr : ones r = true := by
      unfold ones at h1; split at h1
      · assumption
      · cases h1
    have hst := one_ok (P := P) ho ⟨b, o + i, none⟩ .plain w rfl hb (by show o + i < c.size; omega) (by simpa using hf 0 (by omega))
    have hb' : (w.setCell ⟨b, o + i, none⟩ v).heap[b]? = some (.cells (c.setIfInBounds (o + i) v) e fr) := by
      simp [World.setCell, Array.getElem?_modify, hb]
    obtain ⟨w', h2, h3, h4, h5, h6⟩ := run_storeCells (o := o) r (i + 1) (c.setIfInBounds (o + i) v) _ hb' (by simp; omega)
      (fun j hj => by have := hf (j + 1) (by omega); rw [show o + (i + 1) + j = o + i + (j + 1) by omega]; exact this) hr
    refine ⟨w', ?_, ?_, ?_, ?_, ?_⟩
    · unfold storeCells
      rw [Sem.run_bind, add_none, hst]
      exact h2
    · rw [h3]
      simp [setN, Array.toList_setIfInBounds, Nat.add_assoc]
    · intro b' hne
      rw [h4 b' hne]
      simp [World.setCell, Array.getElem?_modify, Ne.symm hne]
    · rw [h5]; simp [World.setCell]
    · exact ⟨h6.os, h6.tape, h6.output⟩

/-! The relation. -/

def svOk (β : Nat → Nat) (L : Loc) : SV → Value → Prop
  | .v x, y => y = x
  | .loc s off, y => (∃ c, lkp L s = some c) ∧ y = .pointer (some ⟨β s, off, none⟩)
  | .u, _ => True

structure SRel (ds : List Deferred) (h0 : Heap) (w0 : World) (β : Nat → Nat) (env : Env) (L : Loc) (h : Heap) (a : Act) (w : World) : Prop where
  after : After h0 w0 h w
  loc : ∀ s c, lkp L s = some c → w0.heap.size ≤ β s ∧ h (β s) = none ∧ ∃ e, w.heap[β s]? = some (.cells c.toArray e (0, 0))
  inj : ∀ s s' c c', lkp L s = some c → lkp L s' = some c' → β s = β s' → s = s'
  size : a.tmps.size = env.length
  slot : ∀ t x, env[t]? = some x → svOk β L x (a.tmps.getD t undef)
  defers : a.defers = ds

variable {ds : List Deferred} {h0 : Heap} {w0 : World} {β : Nat → Nat} {env : Env} {L : Loc} {h : Heap} {a : Act} {w : World}

theorem getD_some {env : Env} {t : Nat} {x : SV} (h : env.getD t .u = x) (hx : x ≠ .u) : env[t]? = some x := by
  rw [List.getD_eq_getElem?_getD] at h
  cases hh : env[t]? with
  | none => rw [hh] at h; exact absurd h.symm hx
  | some y => rw [hh] at h; simp at h; rw [h]

theorem SRel.sev (hs : SRel ds h0 w0 β env L h a w) (o : Operand) : svOk β L (sev env o) (a.eval o) := by
  cases o with
  | tmp t =>
    show svOk β L (env.getD t .u) _
    by_cases hu : env.getD t .u = .u
    · rw [hu]; trivial
    · exact hs.slot t _ (getD_some rfl hu)
  | const v => rfl
  | global g => rfl
  | func f => rfl

theorem SRel.eval_v (hs : SRel ds h0 w0 β env L h a w) {o : Operand} {x : Value} (hx : Sx.sev env o = .v x) : a.eval o = x := by
  have := hs.sev o; rw [hx] at this; exact this

theorem SRel.eval_loc (hs : SRel ds h0 w0 β env L h a w) {o : Operand} {s off : Nat} (hx : Sx.sev env o = .loc s off) :
    (∃ c, lkp L s = some c) ∧ a.eval o = .pointer (some ⟨β s, off, none⟩) := by
  have := hs.sev o; rw [hx] at this; exact this

theorem SRel.lt (hs : SRel ds h0 w0 β env L h a w) {s : Nat} {c : List Value} (hl : lkp L s = some c) : β s < w.heap.size := by
  obtain ⟨-, -, e, he⟩ := hs.loc s c hl
  exact (Array.getElem?_eq_some_iff.1 he).1

/-- A slot is written. -/
theorem SRel.put (hs : SRel ds h0 w0 β env L h a w) {d : Option Nat} {x : SV} {v : Value} (hv : svOk β L x v) : SRel ds h0 w0 β (put env d x) L h (a.put d v) w := by
  cases d with
  | none => exact hs
  | some t =>
    refine ⟨hs.after, hs.loc, hs.inj, by simp [Act.put, Sx.put, hs.size], fun u y hu => ?_, hs.defers⟩
    simp only [Sx.put, Act.put] at hu ⊢
    rw [List.getElem?_set] at hu
    split at hu
    · rename_i e; subst e
      split at hu
      · rename_i hlt
        cases hu
        have : t < a.tmps.size := by rw [hs.size]; exact hlt
        simpa [Array.getD_eq_getD_getElem?, Array.getElem?_setIfInBounds_self_of_lt this] using hv
      · cases hu
    · rename_i hne
      have := hs.slot u y hu
      simpa [Array.getD_eq_getD_getElem?, Array.getElem?_setIfInBounds_ne hne] using this

theorem lkp_cons {s : Nat} {c : List Value} {L : Loc} {t : Nat} : lkp ((s, c) :: L) t = if s = t then some c else lkp L t := rfl

theorem heap_push {w : World} {o : Obj} {b : Nat} (hb : b < w.heap.size) : (w.heap.push o)[b]? = w.heap[b]? := by
  rw [Array.getElem?_push, if_neg (by omega)]

/-- A new block that is not told of in the partial heap. -/
theorem After.push {h0 : Heap} {w0 : World} {h : Heap} {w : World} (x : After h0 w0 h w) (o : Obj) : After h0 w0 h { w with heap := w.heap.push o } := by
  refine x.trans ⟨rfl, rfl, rfl, by simp, fun b o' hb => ?_, fun b hb hn => ⟨heap_push hb, hn⟩⟩
  have := x.agr b o' hb
  rw [heap_push ((Array.getElem?_eq_some_iff.1 this).1)]; exact this

/-- A local box is made. -/
theorem SRel.box (hs : SRel ds h0 w0 β env L h a w) {d : Nat} (hd : lkp L d = none) (c : List Value) (e : TypeId) :
    SRel ds h0 w0 (fun s => if s = d then w.heap.size else β s) (Sx.put env (some d) (.loc d 0)) ((d, c) :: L) h (a.put (some d) (.pointer (some ⟨w.heap.size, 0, none⟩)))
      { w with heap := w.heap.push (.cells c.toArray e) } := by
  have base : SRel ds h0 w0 (fun s => if s = d then w.heap.size else β s) env ((d, c) :: L) h a { w with heap := w.heap.push (.cells c.toArray e) } := by
    refine ⟨hs.after.push _, fun s c' hl => ?_, fun s s' c1 c2 hl hl' he => ?_, hs.size, fun t x hx => ?_, hs.defers⟩
    · rw [lkp_cons] at hl
      by_cases hsd : s = d
      · rw [if_pos hsd.symm] at hl
        cases hl
        simp only [hsd, if_true]
        exact ⟨hs.after.size, hs.after.agr.none_ge (Nat.le_refl _), e, by simp⟩
      · rw [if_neg (Ne.symm hsd)] at hl
        simp only [if_neg hsd]
        obtain ⟨h1, h2, e', h3⟩ := hs.loc s c' hl
        exact ⟨h1, h2, e', by rw [heap_push (hs.lt hl)]; exact h3⟩
    · rw [lkp_cons] at hl hl'
      by_cases h1 : s = d <;> by_cases h2 : s' = d
      · rw [h1, h2]
      · rw [if_neg (Ne.symm h2)] at hl'
        simp only [h1, if_true, if_neg h2] at he
        have := hs.lt hl'; omega
      · rw [if_neg (Ne.symm h1)] at hl
        simp only [h2, if_true, if_neg h1] at he
        have := hs.lt hl; omega
      · rw [if_neg (Ne.symm h1)] at hl
        rw [if_neg (Ne.symm h2)] at hl'
        simp only [if_neg h1, if_neg h2] at he
        exact hs.inj _ _ _ _ hl hl' he
    · have := hs.slot t x hx
      cases x with
      | v y => exact this
      | u => trivial
      | loc s off =>
        obtain ⟨⟨c', hc'⟩, hv⟩ := this
        have hne : s ≠ d := fun e => by rw [e, hd] at hc'; cases hc'
        refine ⟨⟨c', by rw [lkp_cons, if_neg (Ne.symm hne)]; exact hc'⟩, ?_⟩
        simp only [if_neg hne]; exact hv
  refine base.put ?_
  refine ⟨⟨c, by rw [lkp_cons, if_pos rfl]⟩, by simp⟩

theorem lkp_upd {L : Loc} {s : Nat} {c d : List Value} (hl : lkp L s = some c) (t : Nat) : lkp (upd L s d) t = if s = t then some d else lkp L t := by
  induction L with
  | nil => cases hl
  | cons x r ih =>
    obtain ⟨k, y⟩ := x
    by_cases hk : k = s
    · subst hk
      simp only [upd, if_true, lkp]
      by_cases ht : k = t <;> simp [ht]
    · simp only [lkp, if_neg hk] at hl
      simp only [upd, if_neg hk, lkp, ih hl]
      by_cases ht : k = t
      · subst ht; simp [Ne.symm hk]
      · simp [ht]

/-- A local box is written. -/
theorem SRel.setLoc (hs : SRel ds h0 w0 β env L h a w) {s : Nat} {c c' : List Value} (hl : lkp L s = some c) {w' : World}
    (hb : ∀ e, w.heap[β s]? = some (.cells c.toArray e (0, 0)) → w'.heap[β s]? = some (.cells c'.toArray e (0, 0))) (ho : ∀ b, b ≠ β s → w'.heap[b]? = w.heap[b]?)
    (hz : w'.heap.size = w.heap.size) (hsm : Same w w') : SRel ds h0 w0 β env (upd L s c') h a w' := by
  obtain ⟨g1, g2, e, g3⟩ := hs.loc s c hl
  refine ⟨⟨hsm.os.trans hs.after.os, hsm.tape.trans hs.after.tape, hsm.output.trans hs.after.output, by rw [hz]; exact hs.after.size, fun b o hbo => ?_, fun b hbl hn => ?_⟩,
    fun t d hd => ?_, fun t t' c1 c2 h1 h2 he => ?_, hs.size, fun t x hx => ?_, hs.defers⟩
  · rw [ho b (fun e => by rw [e, g2] at hbo; cases hbo)]; exact hs.after.agr b o hbo
  · have := hs.after.frame b hbl hn
    exact ⟨by rw [ho b (by omega)]; exact this.1, this.2⟩
  · rw [lkp_upd hl] at hd
    by_cases hst : s = t
    · subst hst
      rw [if_pos rfl] at hd; cases hd
      exact ⟨g1, g2, e, hb e g3⟩
    · rw [if_neg hst] at hd
      obtain ⟨k1, k2, e', k3⟩ := hs.loc t d hd
      exact ⟨k1, k2, e', by rw [ho _ (fun q => hst (hs.inj _ _ _ _ hl hd q.symm))]; exact k3⟩
  · have q : ∀ t c, lkp (upd L s c') t = some c → ∃ c, lkp L t = some c := fun t c hq => by
      rw [lkp_upd hl] at hq
      by_cases hst : s = t
      · subst hst; exact ⟨_, hl⟩
      · rw [if_neg hst] at hq; exact ⟨_, hq⟩
    obtain ⟨_, q1⟩ := q _ _ h1
    obtain ⟨_, q2⟩ := q _ _ h2
    exact hs.inj _ _ _ _ q1 q2 he
  · have := hs.slot t x hx
    cases x with
    | v y => exact this
    | u => trivial
    | loc k off =>
      obtain ⟨⟨d, hd⟩, hv⟩ := this
      refine ⟨?_, hv⟩
      rw [lkp_upd hl]
      by_cases hst : s = k
      · exact ⟨c', by rw [if_pos hst]⟩
      · exact ⟨d, by rw [if_neg hst]; exact hd⟩

/-- The partial heap goes on: what a call, a store, a new block that is told of leaves. -/
theorem SRel.step (hs : SRel ds h0 w0 β env L h a w) {h' : Heap} {w' : World} (ha : After h w h' w') : SRel ds h0 w0 β env L h' a w' :=
  ⟨hs.after.trans ha, fun s c hl => by
    obtain ⟨g1, g2, e, g3⟩ := hs.loc s c hl
    have := ha.frame (β s) (hs.lt hl) g2
    exact ⟨g1, this.2, e, by rw [this.1]; exact g3⟩, hs.inj, hs.size, hs.slot, hs.defers⟩

/-- A new block, told of. -/
theorem After.new {h : Heap} {w : World} (ha : Agr h w) (o : Obj) : After h w (hset h w.heap.size o) { w with heap := w.heap.push o } := by
  refine ⟨rfl, rfl, rfl, by simp, fun b o' hb => ?_, fun b hb hn => ⟨heap_push hb, ?_⟩⟩
  · simp only [hset] at hb
    split at hb
    · rename_i e; subst e; cases hb; simp
    · have := ha b o' hb
      show (w.heap.push o)[b]? = _
      rw [heap_push ((Array.getElem?_eq_some_iff.1 this).1)]; exact this
  · simp only [hset]; rw [if_neg (by omega)]; exact hn

/-- A block that is told of is another one. -/
theorem After.set {h : Heap} {w w' : World} (ha : Agr h w) {n : Nat} {o o' : Obj} (hn : h n = some o) (h1 : w'.heap[n]? = some o') (h2 : ∀ b, b ≠ n → w'.heap[b]? = w.heap[b]?)
    (h3 : w'.heap.size = w.heap.size) (h4 : Same w w') : After h w (hset h n o') w' := by
  refine ⟨h4.os, h4.tape, h4.output, by omega, fun b q hb => ?_, fun b hb hh => ?_⟩
  · simp only [hset] at hb
    split at hb
    · rename_i e; subst e; cases hb; exact h1
    · rename_i e; rw [h2 b e]; exact ha b q hb
  · have : b ≠ n := fun e => by rw [e, hn] at hh; cases hh
    exact ⟨h2 b this, by simp only [hset]; rw [if_neg this]; exact hh⟩

end Go.Sx

namespace Go.Sx
variable {P : Program} {T : Tab} {A : Ar} [ArOk A]

/-! The light operations are sound. -/

theorem bsel_cases {t : Bool} {x y : Unit → Prop} (h : bsel t x y) : (t = true ∧ x ()) ∨ (t = false ∧ y ()) := by
  cases t
  · exact .inr ⟨rfl, h⟩
  · exact .inl ⟨rfl, h⟩

theorem rdvk_det {g : Bool} {cs : List Value} {k : Value → Prop} (h : rdvk g cs k) : ∃ v, rdvk g cs (fun x => x = v) ∧ k v := by
  cases g with
  | true => exact ⟨_, rfl, h⟩
  | false =>
    cases cs with
    | nil => exact h.elim
    | cons x r => exact ⟨x, rfl, h⟩

theorem rdvk_mono {g : Bool} {cs : List Value} {k k' : Value → Prop} (h : rdvk g cs k) (hk : ∀ v, k v → k' v) : rdvk g cs k' := by
  obtain ⟨v, h1, h2⟩ := rdvk_det h
  cases g with
  | true => exact hk _ h
  | false =>
    cases cs with
    | nil => exact h.elim
    | cons x r => exact hk _ h

theorem sliceX_det {b : Option Addr} {len cap size : Nat} {l hh m : Option Int} {k : Value → Prop} (hk : sliceX A b len cap size l hh m k) :
    ∃ v, k v ∧ ∀ k' : Value → Prop, k' v → sliceX A b len cap size l hh m k' := by
  cases m <;> cases hh <;> cases l <;> first
    | exact hk.elim
    | exact ⟨_, hk, fun _ h => h⟩
    | exact ⟨_, hk.out, fun _ h => ⟨hk.h, h⟩⟩

theorem sliceS_det {s : ByteArray} {l hh : Option Int} {k : Value → Prop} (hk : sliceS A s l hh k) :
    ∃ v, k v ∧ ∀ k' : Value → Prop, k' v → sliceS A s l hh k' := by
  cases hh <;> cases l <;> first
    | exact ⟨_, hk, fun _ h => h⟩
    | exact ⟨_, hk.out, fun _ h => ⟨hk.h, h⟩⟩

theorem binC_det {op : BinOp} {a b : Value} {e : (Value → Prop) → Unit → Prop} (he : ∀ k, e k () → ∃ v, k v ∧ ∀ k' : Value → Prop, k' v → e k' ()) {k : Value → Prop} (hk : binC A op a b k (e k)) :
    ∃ v, k v ∧ ∀ k' : Value → Prop, k' v → binC A op a b k' (e k') := by
  unfold binC at hk ⊢
  repeat' split at hk
  all_goals first
    | exact he _ hk
    | exact ⟨_, hk.out, fun _ h => ⟨hk.h, h⟩⟩

set_option maxHeartbeats 1000000 in
theorem lightx_det {p : Unit → Program} {o : Oper} {ρ : Operand → SV} {L : Loc} {h : Heap} {k : SV → Option (List Value) → Prop} (hk : lightx A T p o ρ L h k) :
    ∃ sv nb, k sv nb ∧ ∀ k' : SV → Option (List Value) → Prop, k' sv nb → lightx A T p o ρ L h k' := by
  unfold lightx at hk ⊢
  repeat' split at hk
  all_goals first
    | exact hk.elim
    | exact ⟨_, _, hk, fun k' h' => h'⟩
    | (obtain ⟨cs, h1, h2⟩ := (show LdX _ _ _ _ from hk).out
       obtain ⟨v, h3, h4⟩ := rdvk_det h2
       exact ⟨_, _, h4, fun k' h' => ⟨cs, h1, rdvk_mono h3 (fun v hv => by subst hv; exact h')⟩⟩)
    | (obtain ⟨v, h3, h4⟩ := rdvk_det hk
       exact ⟨_, _, h4, fun k' h' => rdvk_mono h3 (fun v hv => by subst hv; exact h')⟩)
    | (obtain ⟨v, h1, h2⟩ := (show RunX _ _ _ from hk).out
       exact ⟨_, _, h2, fun k' h' => ⟨v, h1, h'⟩⟩)
    | (obtain ⟨h1, h2⟩ := (show Chk _ _ from hk)
       exact ⟨_, _, h2, fun k' h' => ⟨h1, h'⟩⟩)
    | (obtain ⟨v, h1, h2⟩ := binC_det (e := fun k _ => RunX p _ k) (fun k h => by
         obtain ⟨v, g1, g2⟩ := h.out
         exact ⟨v, g2, fun k' h' => ⟨v, g1, h'⟩⟩) hk
       exact ⟨_, _, h1, fun k' h' => h2 (fun v => k' (.v v) none) h'⟩)
    | (obtain ⟨v, h1, h2⟩ := sliceX_det hk
       exact ⟨_, _, h1, fun k' h' => h2 _ h'⟩)
    | (obtain ⟨v, h1, h2⟩ := sliceS_det hk
       exact ⟨_, _, h1, fun k' h' => h2 _ h'⟩)
    | skip

end Go.Sx

namespace Go.Sx
variable {P : Program} {T : Tab} {A : Ar} [ArOk A]
variable {ds : List Deferred} {h0 : Heap} {w0 : World} {β : Nat → Nat} {env : Env} {L : Loc} {h : Heap} {a : Act} {w : World}

theorem vals_eval (hs : SRel ds h0 w0 β env L h a w) : ∀ {l : List Operand} {vs : List Value}, vals (l.map (sev env)) = some vs → l.map a.eval = vs
  | [], vs, hv => by simp [vals] at hv; simp [hv]
  | x :: r, vs, hv => by
    simp only [List.map_cons] at hv
    cases hx : sev env x with
    | v y =>
      rw [hx] at hv
      simp only [vals] at hv
      cases hr : vals (r.map (sev env)) with
      | none => rw [hr] at hv; cases hv
      | some l =>
        rw [hr] at hv
        simp at hv
        rw [← hv, List.map_cons, hs.eval_v hx, vals_eval hs hr]
    | loc s o => rw [hx] at hv; simp [vals] at hv
    | u => rw [hx] at hv; simp [vals] at hv

theorem vals_evalA (hs : SRel ds h0 w0 β env L h a w) {l : Array Operand} {vs : List Value} (hv : vals (l.toList.map (sev env)) = some vs) : l.map a.eval = vs.toArray := by
  rw [← vals_eval hs hv]
  apply Array.ext'
  simp

theorem partsV_eval (hs : SRel ds h0 w0 β env L h a w) : ∀ {l : List (Nat × Operand)} {vs : List (Nat × Value)}, partsV (sev env) l = some vs → l.map (fun (i, x) => (i, a.eval x)) = vs
  | [], vs, hv => by simp [partsV] at hv; simp [hv]
  | (i, x) :: r, vs, hv => by
    unfold partsV at hv
    split at hv
    · rename_i y l hx hr
      cases hv
      simp only [List.map_cons]
      rw [hs.eval_v hx, partsV_eval hs hr]
    · cases hv

theorem setN_foldl (off : Nat) : ∀ (vs : List Value) (k : Nat) (cells : Array Value),
    (vs.zipIdx k).foldl (fun cs (c, j) => cs.setIfInBounds (off + j) c) cells = (setN cells.toList (off + k) vs).toArray
  | [], k, cells => by simp [setN]
  | v :: r, k, cells => by
    simp only [List.zipIdx_cons, List.foldl_cons]
    rw [setN_foldl off r (k + 1)]
    simp [setN, Array.toList_setIfInBounds, Nat.add_assoc]

theorem fill_eq (place : Nat → Option (Nat × Nat)) : ∀ (ps : List (Nat × Value)) (cells : Array Value) (cs : List Value), fillL place cells.toList ps = some cs → Instr.fill place cells ps = some cs.toArray
  | [], cells, cs, hf => by
    simp [fillL] at hf
    simp [Instr.fill, ← hf]
  | (i, v) :: r, cells, cs, hf => by
    unfold fillL at hf
    unfold Instr.fill
    cases hp : place i with
    | none => simp [hp] at hf
    | some x =>
      obtain ⟨off, size⟩ := x
      simp only [hp] at hf ⊢
      have hlen : v.cells.toList.length = v.cells.size := by simp
      have hlc : cells.toList.length = cells.size := by simp
      rw [hlen, hlc] at hf
      split at hf
      · cases hf
      · rename_i hc
        rw [if_neg hc]
        have := fill_eq place r (setN cells.toList off v.cells.toList).toArray cs (by simpa using hf)
        rw [← this]
        congr 1
        rw [← Array.foldl_toList]
        have e := setN_foldl off v.cells.toList 0 cells
        simp only [Nat.add_zero] at e
        rw [← e]
        congr 1
        simp [Array.toList_zipIdx]

theorem notNone {k : Kd} (h : k.isNone = false) : k ≠ .none := fun e => by rw [e] at h; cases h

theorem places_run (hT : TabOk P T) (w : World) : ∀ (fs : List Field) (l : List (Nat × Nat)), placesOf T (fs.map fun f => (f.type, f.offset)) = some l →
    (fs.mapM fun f => do pure (f.offset, ← sizeOf f.type) : Sem (List (Nat × Nat))).run P w = .ok l w
  | [], l, hp => by simp [placesOf] at hp; simp [hp]
  | f :: r, l, hp => by
    simp only [List.map_cons] at hp
    unfold placesOf at hp
    split at hp
    · rename_i l' hk hr
      cases hp
      have hi := tiOk hT (notNone hk)
      have ih := places_run hT w r l' hr
      rw [List.mapM_cons]
      simp only [Sem.run_bind, hi.run_size, Result.andThen_ok, Sem.run_pure, ih]
    · cases hp

theorem isNone_strct {fs : List (Nat × Nat)} {k : Kd} (h : k = .strct fs) : k ≠ .none := by rw [h]; simp
theorem isNone_arr {n e : Nat} {k : Kd} (h : k = .arr n e) : k ≠ .none := by rw [h]; simp
theorem isNone_slc {e : Nat} {k : Kd} (h : k = .slc e) : k ≠ .none := by rw [h]; simp

theorem kd_strct {d : TypeDesc} {fs : List (Nat × Nat)} (h : kdOf d = .strct fs) : ∃ F, d = .struct F ∧ fs = F.toList.map fun f => (f.type, f.offset) := by
  cases d <;> simp [kdOf] at h
  exact ⟨_, rfl, h.symm⟩
theorem kd_arr {d : TypeDesc} {n e : Nat} (h : kdOf d = .arr n e) : d = .array n e := by
  cases d <;> simp [kdOf] at h
  rw [h.1, h.2]
theorem kd_slc {d : TypeDesc} {e : Nat} (h : kdOf d = .slc e) : d = .slice e := by
  cases d <;> simp [kdOf] at h
  rw [h]
theorem kd_str {d : TypeDesc} (h : kdOf d = .str) : d = .string := by
  cases d <;> simp [kdOf] at h
  rfl

theorem run_build (hT : TabOk P T) (w : World) {t : TypeId} {ps : List (Nat × Value)} {cs : List Value} (hk : (T.ty t).kd.isNone = false)
    (hb : buildL T (T.ty t).zero ps (T.ty t).kd = some cs) : (Instr.build t ps.toArray).run P w = .ok (.agg cs.toArray) w := by
  have hi := tiOk hT (notNone hk)
  obtain ⟨z, hz, hzc⟩ := hi.run_zero w
  obtain ⟨d, hd, -, hkd, -⟩ := hi.run_under w
  unfold Instr.build
  simp only [Sem.run_bind, hz, Result.andThen_ok, hd]
  unfold buildL at hb
  split at hb
  · rename_i fs hfs
    split at hb
    · rename_i l hl
      obtain ⟨F, rfl, hF⟩ := kd_strct (hkd ▸ hfs)
      have hp := places_run hT w F.toList l (hF ▸ hl)
      have hpa : (F.mapM fun f => do pure (f.offset, ← sizeOf f.type) : Sem (Array (Nat × Nat))).run P w = .ok l.toArray w := by
        rw [Array.mapM_eq_mapM_toList]
        simp only [Sem.run_map, hp, Result.andThen_ok]
      simp only [hpa, Result.andThen_ok, Sem.run_bind]
      have := fill_eq (fun i => l[i]?) ps z.cells cs (by rw [hzc]; exact hb)
      simp only [List.getElem?_toArray]
      rw [this]
      rfl
    · cases hb
  · rename_i n e hne
    split at hb
    · rename_i hke
      have hie := tiOk hT (notNone hke)
      obtain rfl := kd_arr (hkd ▸ hne)
      simp only [Sem.run_bind, hie.run_size, Result.andThen_ok]
      have := fill_eq (fun i => some (i * (T.ty e).size, (T.ty e).size)) ps z.cells cs (by rw [hzc]; exact hb)
      rw [this]
      rfl
    · cases hb
  · cases hb

theorem takeN_spec {c cs : List Value} {off n : Nat} (h : takeN c off n = some cs) : cs.length = n ∧ ∀ j, j < cs.length → c[off + j]? = cs[j]? := by
  unfold takeN at h
  split at h
  · rename_i hl
    cases h
    have : ((c.drop off).take n).length = n := by simp; omega
    refine ⟨this, fun j hj => ?_⟩
    rw [List.getElem?_take, if_pos (by omega), List.getElem?_drop]
  · cases h

end Go.Sx

namespace Go.Sx
variable {P : Program} {T : Tab} {A : Ar} [ArOk A]
variable {ds : List Deferred} {h0 : Heap} {w0 : World} {β : Nat → Nat} {env : Env} {L : Loc} {h : Heap} {a : Act} {w : World}

theorem run_bound {x : Int} {y : Nat} {code : BoundsCode} {k : IntKind} (h : 0 ≤ x ∧ x ≤ (y : Int)) (w : World) : (Instr.sliceBound (.int k x) y code).run P w = .ok x.toNat w := by
  simp [Instr.sliceBound, asIntOf, h]

theorem slx_eval (hs : SRel ds h0 w0 β env L h a w) {x : Option Operand} {l : Option Int} (hl : slx (sev env) x = some l) :
    (l = none ∧ x.map a.eval = none) ∨ (∃ n k, l = some n ∧ x.map a.eval = some (.int k n)) := by
  cases x with
  | none => simp [slx] at hl; exact .inl ⟨hl.symm, rfl⟩
  | some y =>
    unfold slx at hl
    simp only at hl
    split at hl
    · rename_i k n he
      cases hl
      exact .inr ⟨n, k, rfl, by simp [hs.eval_v he]⟩
    · cases hl

theorem sliceX_run {g : Bool} {b : Option Addr} {len cap size : Nat} {l hh m : Option Int} {r : Value} {lo hi mx : Option Value}
    (h1 : (l = none ∧ lo = none) ∨ (∃ n k, l = some n ∧ lo = some (.int k n)))
    (h2 : (hh = none ∧ hi = none) ∨ (∃ n k, hh = some n ∧ hi = some (.int k n)))
    (h3 : (m = none ∧ mx = none) ∨ (∃ n k, m = some n ∧ mx = some (.int k n)))
    (hk : sliceX A b len cap size l hh m (fun x => x = r)) (w : World) :
    ∃ L H M : Nat, (Instr.sliceBounds g len cap lo hi mx).run P w = .ok (L, H, M) w ∧
      r = .slice (if M = L then b else b.map (·.add (L * size))) (H - L) (M - L) := by
  rcases h1 with ⟨rfl, rfl⟩ | ⟨n1, k1, rfl, rfl⟩ <;> rcases h2 with ⟨rfl, rfl⟩ | ⟨n2, k2, rfl, rfl⟩ <;> rcases h3 with ⟨rfl, rfl⟩ | ⟨n3, k3, rfl, rfl⟩
  · refine ⟨0, len, cap, by simp [Instr.sliceBounds], ?_⟩
    have : Value.slice b len cap = r := hk
    rw [← this]
    simp [Addr.add]
  · exact hk.elim
  · obtain ⟨c, hk⟩ := (show Chk _ _ from hk)
    refine ⟨0, n2.toNat, cap, by simp [Instr.sliceBounds, run_bound c], ?_⟩
    have := hk
    simp only [A.cut_eq, A.nat_eq, A.dif_eq] at this
    rw [← this]
    simp
  · obtain ⟨c, hk⟩ := (show Chk _ _ from hk)
    refine ⟨0, n2.toNat, n3.toNat, ?_, ?_⟩
    · have c1 : 0 ≤ n3 ∧ n3 ≤ (cap : Int) := ⟨c.1, c.2.1⟩
      have c2 : 0 ≤ n2 ∧ n2 ≤ (n3.toNat : Int) := ⟨c.2.2.1, by omega⟩
      simp [Instr.sliceBounds, run_bound c1, run_bound c2]
    · have := hk
      simp only [A.cut_eq, A.nat_eq, A.dif_eq] at this
      rw [← this]
      have : (n3 = 0) ↔ (n3.toNat = 0) := by omega
      simp [this]
  · obtain ⟨c, hk⟩ := (show Chk _ _ from hk)
    refine ⟨n1.toNat, len, cap, by simp [Instr.sliceBounds, run_bound c], ?_⟩
    have := hk
    simp only [A.cut_eq, A.nat_eq, A.dif_eq] at this
    rw [← this]
    have e : (Int.ofNat cap = n1) ↔ (cap = n1.toNat) := by have := c.1; simp; omega
    simp only [e]
    congr 1 <;> (try simp) <;> omega
  · exact hk.elim
  · obtain ⟨c, hk⟩ := (show Chk _ _ from hk)
    refine ⟨n1.toNat, n2.toNat, cap, ?_, ?_⟩
    · have c1 : 0 ≤ n2 ∧ n2 ≤ (cap : Int) := ⟨c.1, c.2.1⟩
      have c2 : 0 ≤ n1 ∧ n1 ≤ (n2.toNat : Int) := ⟨c.2.2.1, by omega⟩
      simp [Instr.sliceBounds, run_bound c1, run_bound c2]
    · have := hk
      simp only [A.cut_eq, A.nat_eq, A.dif_eq] at this
      rw [← this]
      have e : (Int.ofNat cap = n1) ↔ (cap = n1.toNat) := by have := c.2.2.1; simp; omega
      simp only [e]
      congr 1 <;> (try simp) <;> omega
  · obtain ⟨c, hk⟩ := (show Chk _ _ from hk)
    refine ⟨n1.toNat, n2.toNat, n3.toNat, ?_, ?_⟩
    · have c1 : 0 ≤ n3 ∧ n3 ≤ (cap : Int) := ⟨c.1, c.2.1⟩
      have c2 : 0 ≤ n2 ∧ n2 ≤ (n3.toNat : Int) := ⟨c.2.2.1, by omega⟩
      have c3 : 0 ≤ n1 ∧ n1 ≤ (n2.toNat : Int) := ⟨c.2.2.2.2.1, by omega⟩
      simp [Instr.sliceBounds, run_bound c1, run_bound c2, run_bound c3]
    · have := hk
      simp only [A.cut_eq, A.nat_eq, A.dif_eq] at this
      rw [← this]
      have e : (n3 = n1) ↔ (n3.toNat = n1.toNat) := by omega
      simp only [e]
      congr 1 <;> omega

theorem sliceS_run {s : ByteArray} {l hh : Option Int} {r : Value} {lo hi : Option Value}
    (h1 : (l = none ∧ lo = none) ∨ (∃ n k, l = some n ∧ lo = some (.int k n)))
    (h2 : (hh = none ∧ hi = none) ∨ (∃ n k, hh = some n ∧ hi = some (.int k n)))
    (hk : sliceS A s l hh (fun x => x = r)) (w : World) :
    ∃ L H M : Nat, (Instr.sliceBounds false s.size s.size lo hi none).run P w = .ok (L, H, M) w ∧ r = .string (s.extract L H) := by
  rcases h1 with ⟨rfl, rfl⟩ | ⟨n1, k1, rfl, rfl⟩ <;> rcases h2 with ⟨rfl, rfl⟩ | ⟨n2, k2, rfl, rfl⟩
  · refine ⟨0, s.size, s.size, by simp [Instr.sliceBounds], ?_⟩
    have : Value.string s = r := hk
    rw [← this]
    simp
  · obtain ⟨c, hk⟩ := (show Chk _ _ from hk)
    refine ⟨0, n2.toNat, s.size, by simp [Instr.sliceBounds, run_bound c], ?_⟩
    have := hk
    simp only [A.sub_eq] at this
    rw [← this]; rfl
  · obtain ⟨c, hk⟩ := (show Chk _ _ from hk)
    refine ⟨n1.toNat, s.size, s.size, by simp [Instr.sliceBounds, run_bound c], ?_⟩
    have := hk
    simp only [A.sub_eq, A.sln_eq] at this
    rw [← this]; rfl
  · obtain ⟨c, hk⟩ := (show Chk _ _ from hk)
    refine ⟨n1.toNat, n2.toNat, s.size, ?_, ?_⟩
    · have c1 : 0 ≤ n2 ∧ n2 ≤ (s.size : Int) := ⟨c.1, c.2.1⟩
      have c2 : 0 ≤ n1 ∧ n1 ≤ (n2.toNat : Int) := ⟨c.2.2.1, by omega⟩
      simp [Instr.sliceBounds, run_bound c1, run_bound c2]
    · have := hk
      simp only [A.sub_eq] at this
      rw [← this]

theorem binV_run {op : BinOp} {t : TypeId} {x y : Operand} {u v r : Value} (hb : binV A op u v = some r) (w : World) :
    (do eqGuard op t x y u v; Go.binOp op t u v : Sem Value).run P w = .ok r w := by
  have hg : (eqGuard op t x y u v).run P w = .ok () w := by
    unfold binV at hb
    cases u <;> first
      | (simp at hb; done)
      | (cases v <;> first
          | (simp at hb; done)
          | (unfold eqGuard; split <;> rfl))
  rw [Sem.run_bind, hg, Result.andThen_ok]
  unfold binV at hb
  split at hb
  · rename_i k c k' d
    split at hb <;> first
      | cases hb
      | (split at hb
         · rename_i hkk
           subst hkk
           cases hb
           first
             | (simp [Go.binOp, Op.intArith, A.ari_eq, ari]; done)
             | (simp [Go.binOp, Op.intBits, A.ari_eq, ari]; done)
             | (simp [Go.binOp, Op.intCmp, A.icm_eq, icm]; done)
         · cases hb)
  · split at hb <;> first
      | (cases hb; rw [A.scm_eq]; rfl)
      | (cases hb; done)
  · cases hb

theorem binC_run {op : BinOp} {t : TypeId} {x y : Operand} {u v r : Value} {els : Unit → Prop} (hb : binC A op u v (fun z => z = r) els)
    (he : els () → ∀ w, (do eqGuard op t x y u v; Go.binOp op t u v : Sem Value).run P w = .ok r w) (w : World) :
    (do eqGuard op t x y u v; Go.binOp op t u v : Sem Value).run P w = .ok r w := by
  unfold binC at hb
  split at hb
  · rename_i ka c
    split at hb
    · rename_i kb d
      split at hb
      · split at hb
        · rename_i hk
          have hk := of_decide_eq_true hk
          subst hk
          obtain ⟨h1, h2⟩ := hb
          subst h2
          simp [eqGuard, Go.binOp, Op.intDiv, A.ari_eq, ari, h1]
        · exact he hb w
      · split at hb
        · rename_i hk
          have hk := of_decide_eq_true hk
          subst hk
          obtain ⟨h1, h2⟩ := hb
          subst h2
          simp [eqGuard, Go.binOp, Op.intDiv, A.ari_eq, ari, h1]
        · exact he hb w
      · obtain ⟨h1, h2⟩ := hb
        subst h2
        have : ¬ d < 0 := by omega
        simp [eqGuard, Go.binOp, Op.shift, A.ari_eq, ari, this]
      · obtain ⟨h1, h2⟩ := hb
        subst h2
        have : ¬ d < 0 := by omega
        simp [eqGuard, Go.binOp, Op.shift, A.ari_eq, ari, this]
      · exact he hb w
    · exact he hb w
  · rename_i c
    split at hb
    · rename_i d
      split at hb
      · obtain ⟨h1, h2⟩ := hb
        subst h2
        have hm : IntKind.i64.max = 9223372036854775807 := by decide
        have h62 : (2 : Int) ^ 62 = 4611686018427387904 := by decide
        have : ¬ (9223372036854775807 < (c.size : Int) + (d.size : Int)) := by rw [h62] at h1; omega
        have hcat : A.cat c d = c ++ d := by rw [A.cat_eq]
        rw [hcat]
        simp [eqGuard, Go.binOp, Op.stringOp, this]
      · exact he hb w
    · exact he hb w
  · exact he hb w

theorem eqFields_run (hT : TabOk P T) (d : Nat) (xs ys : Array Value) (w : World) : ∀ (fs : List Field) (i : Nat) (t : Bool),
    ((fs.zipIdx i).all fun (f, i) => f.offset == i && decide (f.name ≠ "_") && (match P.info? f.type, P.underlying f.type with
      | some i, some .bool | some i, some (.int _) | some i, some .string => i.size == 1
      | _, _ => false)) = true →
    eqCells A T.ty (fs.map fun f => (f.type, f.offset)) (xs.toList.drop i) (ys.toList.drop i) = some t → (Op.eqFields (d + 1) xs ys fs).run P w = .ok t w
  | [], i, t, _, he => by
    simp only [List.map_nil] at he
    cases hx : xs.toList.drop i with
    | cons x r => rw [hx] at he; simp [eqCells] at he
    | nil =>
      cases hy : ys.toList.drop i with
      | nil => rw [hx, hy] at he; simp [eqCells] at he; subst he; rfl
      | cons y r => rw [hx, hy] at he; simp [eqCells] at he
  | f :: fs, i, t, hall, he => by
    simp only [List.zipIdx_cons, List.all_cons, Bool.and_eq_true, beq_iff_eq, decide_eq_true_eq] at hall
    obtain ⟨⟨⟨hoff, hname⟩, htyp⟩, hrest⟩ := hall
    simp only [List.map_cons] at he
    cases hx : xs.toList.drop i with
    | nil => rw [hx] at he; simp [eqCells] at he
    | cons x r =>
      have hxi : xs[i]? = some x := by
        have := congrArg (·[0]?) hx
        simpa using this
      have hr : xs.toList.drop (i + 1) = r := by
        have := congrArg (List.drop 1) hx
        simpa [List.drop_drop, Nat.add_comm] using this
      cases hy : ys.toList.drop i with
      | nil => rw [hx, hy] at he; simp [eqCells] at he
      | cons y q =>
        have hyi : ys[i]? = some y := by
          have := congrArg (·[0]?) hy
          simpa using this
        have hq : ys.toList.drop (i + 1) = q := by
          have := congrArg (List.drop 1) hy
          simpa [List.drop_drop, Nat.add_comm] using this
        rw [hx, hy] at he
        have ih := fun t' ht' => eqFields_run hT d xs ys w fs (i + 1) t' hrest (by rw [hr, hq]; exact ht')
        have hne : f.name ≠ "_" := hname
        have hagg0 : ∀ k, (T.ty f.type).kd = k → k ≠ .none → ∃ dd, P.underlying f.type = some dd ∧ k = kdOf dd := fun k hk hkn => by
          obtain ⟨dd, -, h1, h2, -⟩ := (tiOk hT (t := f.type) (by rw [hk]; exact hkn)).run_under w
          exact ⟨dd, h1, by rw [← hk, h2]⟩
        have fin : ∀ (dd : TypeDesc) (b : Bool) (t' : Bool), P.underlying f.type = some dd → (isAgg f.type).run P w = .ok false w → (Op.equalIn (d + 1) f.type x y).run P w = .ok b w →
            eqCells A T.ty (fs.map fun f => (f.type, f.offset)) r q = some t' → t = (b && t') → (Op.eqFields (d + 1) xs ys (f :: fs)).run P w = .ok t w := fun dd b t' hdd hagg hb ht' ht => by
          have hpx : (part f.type xs f.offset).run P w = .ok x w := by
            unfold part
            rw [Sem.run_bind, hagg]
            simp [hoff, hxi]
          have hpy : (part f.type ys f.offset).run P w = .ok y w := by
            unfold part
            rw [Sem.run_bind, hagg]
            simp [hoff, hyi]
          unfold Op.eqFields
          rw [if_pos hne]
          simp only [Sem.run_bind, hpx, hpy, Result.andThen_ok, hb, ht]
          cases b with
          | false => rfl
          | true => simp [ih t' ht']
        unfold eqCells at he
        split at he
        · rename_i hk
          obtain ⟨dd, hdd, hkd⟩ := hagg0 _ hk (by simp)
          obtain ⟨k, rfl⟩ : ∃ k, dd = .int k := by cases dd <;> simp [kdOf] at hkd; exact ⟨_, rfl⟩
          split at he
          · split at he
            · split at he
              · rename_i hkk
                split at he
                · rename_i k1 a1 k2 a2 t' ht'
                  cases he
                  have hkk' := of_decide_eq_true hkk
                  subst hkk'
                  refine fin _ _ _ hdd ?_ (run_equalIn_int w d _ _ _ _ _ hdd) ht' (by rw [A.and_eq, A.icm_eq]; rfl)
                  unfold isAgg; rw [Sem.run_bind, run_underlying hdd w]; rfl
                · cases he
              · cases he
            · cases he
          · cases he
        · rename_i hk
          obtain ⟨dd, hdd, hkd⟩ := hagg0 _ hk (by simp)
          obtain rfl : dd = .string := by cases dd <;> simp [kdOf] at hkd; rfl
          split at he
          · split at he
            · split at he
              · rename_i a1 a2 t' ht'
                cases he
                refine fin _ _ _ hdd ?_ (run_equalIn_string w d _ _ _ hdd) ht' (by rw [A.and_eq, A.scm_eq]; rfl)
                unfold isAgg; rw [Sem.run_bind, run_underlying hdd w]; rfl
              · cases he
            · cases he
          · cases he
        · rename_i hk
          obtain ⟨dd, hdd, hkd⟩ := hagg0 _ hk (by simp)
          obtain rfl : dd = .bool := by cases dd <;> simp [kdOf] at hkd; rfl
          split at he
          · split at he
            · split at he
              · rename_i a1 a2 t' ht'
                cases he
                refine fin _ _ _ hdd ?_ (run_equalIn_bool' w d _ _ _ hdd) ht' (by rw [A.and_eq, A.bcm_eq]; rfl)
                unfold isAgg; rw [Sem.run_bind, run_underlying hdd w]; rfl
              · cases he
            · cases he
          · cases he
        · cases he

theorem neg_spec {op : BinOp} {b : Bool} {r : Value} (h : neg A op b = some r) : (op = .eql ∧ r = .bool b) ∨ (op = .neq ∧ r = .bool (!b)) := by
  unfold neg at h
  split at h
  · cases h; exact .inl ⟨rfl, rfl⟩
  · cases h; exact .inr ⟨rfl, by rw [A.not_eq]⟩
  · cases h

theorem cmpV_run (hT : TabOk P T) {op : BinOp} {t : TypeId} {x y : Operand} {u v r : Value} (hb : cmpV A T.ty (T.ty t) op u v = some r) (w : World) :
    (do eqGuard op t x y u v; Go.binOp op t u v : Sem Value).run P w = .ok r w := by
  unfold cmpV at hb
  split at hb
  · rename_i e he
    have hi := tiOk hT (isNone_slc he)
    obtain ⟨d, hd, hdp, hkd, -⟩ := hi.run_under w
    obtain rfl := kd_slc (hkd ▸ he)
    split at hb
    · rename_i b l c
      split at hb
      · rename_i l2 c2
        have hg : (eqGuard op t x y (.slice b l c) (.slice none l2 c2)).run P w = .ok () w := by unfold eqGuard; split <;> rfl
        have heq : (Op.equal t (.slice b l c) (.slice none l2 c2)).run P w = .ok b.isNone w := by
          unfold Op.equal Op.maxDepth Op.equalIn
          rw [Sem.run_bind, hd, Result.andThen_ok]
          cases b <;> rfl
        rw [Sem.run_bind, hg, Result.andThen_ok]
        rcases neg_spec hb with ⟨rfl, rfl⟩ | ⟨rfl, rfl⟩
        · simp [Go.binOp, heq, A.isn_eq]
        · simp [Go.binOp, heq, A.isn_eq]
      · cases hb
    · cases hb
  · rename_i he
    have hi := tiOk hT (show (T.ty t).kd ≠ .none by rw [he]; simp)
    obtain ⟨d, hd, hdp, hkd, -⟩ := hi.run_under w
    obtain rfl : d = .bool := by rw [hkd] at he; cases d <;> simp [kdOf] at he; rfl
    split at hb
    · rename_i b
      split at hb
      · rename_i c
        have hg : (eqGuard op t x y (.bool b) (.bool c)).run P w = .ok () w := by unfold eqGuard; split <;> rfl
        have heq : (Op.equal t (.bool b) (.bool c)).run P w = .ok (b == c) w := run_equalIn_bool' w 9999 t b c hdp
        rw [Sem.run_bind, hg, Result.andThen_ok]
        rcases neg_spec hb with ⟨rfl, rfl⟩ | ⟨rfl, rfl⟩
        · simp [Go.binOp, heq, A.bcm_eq, bcm]
        · simp [Go.binOp, heq, A.bcm_eq, bcm]
      · cases hb
    · cases hb
  · rename_i fs he
    have hi := tiOk hT (isNone_strct he)
    obtain ⟨ti, d, z, -, hdp, -, -, -, -, -, hkd, hflat⟩ := hi.ex
    obtain ⟨F, rfl, hF⟩ := kd_strct (hkd ▸ he)
    split at hb
    · rename_i hfl
      rw [hflat] at hfl
      simp only [flatOf, Bool.and_eq_true, Bool.not_eq_true'] at hfl
      obtain ⟨⟨h1, h2⟩, h3⟩ := hfl
      split at hb
      · rename_i xs
        split at hb
        · rename_i ys
          split at hb
          · rename_i tt htt
            have hg : (eqGuard op t x y (.agg xs) (.agg ys)).run P w = .ok () w := run_eqGuard_agg w op t x y xs ys h1
            have hfo : P.fieldsOf t = F := by simp [Program.fieldsOf, hdp]
            have hfs : P.underlying t = some (.struct (P.fieldsOf t)) := by rw [hfo]; exact hdp
            have heq : (Op.equalIn 10000 t (.agg xs) (.agg ys)).run P w = .ok tt w := by
              rw [run_equalIn_agg w 9999 t xs ys hfs h2, hfo]
              exact eqFields_run hT 9998 xs ys w F.toList 0 tt h3 (by simpa [hF] using htt)
            rw [Sem.run_bind, hg, Result.andThen_ok]
            rcases neg_spec hb with ⟨rfl, rfl⟩ | ⟨rfl, rfl⟩
            · rw [run_eql_struct, heq]; rfl
            · rw [run_neq_struct, heq]; rfl
          · cases hb
        · cases hb
      · cases hb
    · cases hb
  · cases hb

end Go.Sx

namespace Go.Sx
variable {P : Program} {T : Tab} {A : Ar} [ArOk A]
variable {ds : List Deferred} {h0 : Heap} {w0 : World} {β : Nat → Nat} {env : Env} {L : Loc} {h : Heap} {a : Act} {w : World}

theorem tryX {α : Type} {P : Program} {w : World} {x : Sem α} {f : α → Sem Next} {r : α} (hx : x.run P w = .ok r w) : (x >>= f).run P w = (f r).run P w := by
  rw [Sem.run_bind, hx]; rfl

/-- What a light operation that makes nothing comes to. -/
def Quiet (P : Program) (β : Nat → Nat) (L : Loc) (a : Act) (w : World) (o : Oper) (sv : SV) : Prop :=
  ∃ v, (execOp a.eval o).run P w = .ok (.value v) w ∧ svOk β L sv v

theorem Quiet.fin (hs : SRel ds h0 w0 β env L h a w) {o : Oper} {sv : SV} (hq : Quiet P β L a w o sv) :
    ∃ v w' β', (execOp a.eval o).run P w = .ok (.value v) w' ∧ SRel ds h0 w0 β' (put env o.dst sv) (addL L o.dst none) h (a.put o.dst v) w' := by
  obtain ⟨v, hv, hok⟩ := hq
  refine ⟨v, w, β, hv, ?_⟩
  have : addL L o.dst none = L := by unfold addL; cases o.dst <;> rfl
  rw [this]
  exact hs.put hok

theorem run_fieldPlace (hT : TabOk P T) {f : Field} {n : Nat} (hk : (T.ty f.type).kd.isNone = false) (hn : (T.ty f.type).size = n + 1) (x : Addr) (w : World) :
    (fieldPlace x f).run P w = .ok (x.add f.offset) w := by
  have hi := tiOk hT (notNone hk)
  simp [fieldPlace, hi.run_size, hn]

theorem field_at {F : Array Field} {i ft off : Nat} {fs : List (Nat × Nat)} (hF : fs = F.toList.map fun f => (f.type, f.offset)) (hf : fs[i]? = some (ft, off)) :
    ∃ f, F[i]? = some f ∧ f.type = ft ∧ f.offset = off := by
  subst hF
  rw [List.getElem?_map] at hf
  cases hh : F.toList[i]? with
  | none => simp [hh] at hf
  | some f =>
    simp [hh] at hf
    exact ⟨f, by simpa using hh, hf.1, hf.2⟩

theorem loc_load (hs : SRel ds h0 w0 β env L h a w) {s off n : Nat} {c cs : List Value} (hl : lkp L s = some c) (ht : takeN c off n = some cs) :
    cs.length = n ∧ ∀ j, j < cs.length → w.cell? ⟨β s, off + j, none⟩ = cs[j]? := by
  obtain ⟨h1, h2⟩ := takeN_spec ht
  obtain ⟨-, -, e, he⟩ := hs.loc s c hl
  refine ⟨h1, fun j hj => ?_⟩
  rw [cell_eq he, ← h2 j hj]
  simp

set_option maxHeartbeats 1000000 in
theorem light_run (hT : TabOk P T) (hs : SRel ds h0 w0 β env L h a w) {o : Oper} {sv : SV} {nb : Option (List Value)}
    (hl : lightx A T (fun _ => P) o (Sx.sev env) L h (fun x y => x = sv ∧ y = nb)) :
    ∃ v w' β', (execOp a.eval o).run P w = .ok (.value v) w' ∧ SRel ds h0 w0 β' (put env o.dst sv) (addL L o.dst nb) h (a.put o.dst v) w' := by
  unfold lightx at hl
  split at hl
  case h_1 x ho => -- move
    obtain ⟨rfl, rfl⟩ := hl
    exact Quiet.fin hs ⟨_, by simp only [execOp, ho]; rfl, hs.sev x⟩
  case h_2 c x y ho => -- pick
    split at hl
    · rename_i hc
      obtain ⟨rfl, rfl⟩ := hl
      exact Quiet.fin hs ⟨_, by simp only [execOp, ho, hs.eval_v hc]; rfl, hs.sev x⟩
    · rename_i hc
      obtain ⟨rfl, rfl⟩ := hl
      exact Quiet.fin hs ⟨_, by simp only [execOp, ho, hs.eval_v hc]; rfl, hs.sev y⟩
    · exact hl.elim
  case h_3 e ho => -- alloc
    split at hl
    · exact hl.elim
    · rename_i hk
      split at hl
      · exact hl.elim
      · rename_i d hd
        split at hl
        · rename_i hl0
          obtain ⟨rfl, rfl⟩ := hl
          obtain ⟨z, hz, hzc⟩ := (tiOk hT (notNone hk)).run_zero w
          have hb := hs.box hl0 (T.ty e).zero e
          rw [hd]
          refine ⟨_, _, _, ?_, hb⟩
          simp only [execOp, ho, Instr.alloc, Sem.run_bind, hz, Result.andThen_ok, newVar, newRow, run_newObj, Sem.run_pure]
          rw [← hzc]
        · exact hl.elim
  case h_4 e x ho => -- box
    split at hl
    · exact hl.elim
    · rename_i d hd
      split at hl
      · rename_i v hv
        split at hl
        · rename_i hl0
          obtain ⟨rfl, rfl⟩ := hl
          have hb := hs.box hl0 v.cells.toList e
          rw [hd]
          refine ⟨_, _, _, ?_, hb⟩
          simp only [execOp, ho, Instr.box, Sem.run_bind, Result.andThen_ok, newVar, newRow, run_newObj, Sem.run_pure, hs.eval_v hv]
        · exact hl.elim
      · exact hl.elim
  case h_5 t x ho => -- load
    split at hl
    · exact hl.elim
    · rename_i hk
      have hi := tiOk hT (notNone hk)
      split at hl
      · rename_i s off hx
        split at hl
        · rename_i c hc
          split at hl
          · rename_i cs hcs
            obtain ⟨h1, h2⟩ := loc_load hs hc hcs
            obtain ⟨v, h3, h4⟩ := rdvk_det hl
            obtain ⟨rfl, rfl⟩ := h4
            obtain ⟨v', h5, h6⟩ := run_loadVar hi w (β s) off cs h1 h2 h3
            subst h6
            exact Quiet.fin hs ⟨_, by simp only [execOp, ho, (hs.eval_loc hx).2, Instr.loadAt, Instr.sureAddr, Sem.run_bind, Sem.run_pure, Result.andThen_ok, h5], rfl⟩
          · exact hl.elim
        · exact hl.elim
      · rename_i y hx
        obtain ⟨cs, h1, hl⟩ := hl.out
        obtain ⟨g1, g2, g3⟩ := h1.cell hs.after.agr
        obtain ⟨v, h3, h4⟩ := rdvk_det hl
        obtain ⟨rfl, rfl⟩ := h4
        obtain ⟨v', h5, h6⟩ := run_loadVar hi w y.block y.off cs g2 g3 h3
        subst h6
        have : y = ⟨y.block, y.off, none⟩ := by cases y; simp at g1; rw [g1]
        exact Quiet.fin hs ⟨_, by simp only [execOp, ho, hs.eval_v hx, Instr.loadAt, Instr.sureAddr, Sem.run_bind, Sem.run_pure, Result.andThen_ok]; rw [this, h5]; rfl, rfl⟩
      · exact hl.elim
  case h_6 x ho => -- nilCheck
    split at hl
    · rename_i s off hx
      obtain ⟨rfl, rfl⟩ := hl
      have := hs.eval_loc hx
      exact Quiet.fin hs ⟨_, by simp only [execOp, ho, this.2]; rfl, this.1, rfl⟩
    · rename_i y hx
      obtain ⟨rfl, rfl⟩ := hl
      exact Quiet.fin hs ⟨_, by simp only [execOp, ho, hs.eval_v hx]; rfl, rfl⟩
    · exact hl.elim
  case h_7 t x f ho => -- fieldAddr
    split at hl
    · rename_i fs hfs
      have hi := tiOk hT (isNone_strct hfs)
      obtain ⟨d, hd, -, hkd, -⟩ := hi.run_under w
      obtain ⟨F, rfl, hF⟩ := kd_strct (hkd ▸ hfs)
      split at hl
      · rename_i ft off hf
        obtain ⟨fd, hfd, rfl, rfl⟩ := field_at hF hf
        split at hl
        · exact hl.elim
        · rename_i hk
          split at hl
          · exact hl.elim
          · rename_i n hn
            have hp := fun y => run_fieldPlace hT hk hn y w
            split at hl
            · rename_i s off hx
              obtain ⟨rfl, rfl⟩ := hl
              have := hs.eval_loc hx
              exact Quiet.fin hs ⟨_, by simp only [execOp, ho, this.2, Instr.fieldAt, Instr.sureAddr, Sem.run_bind, hd, Result.andThen_ok, hfd, Sem.run_pure, hp, add_none], this.1, rfl⟩
            · rename_i y hx
              obtain ⟨rfl, rfl⟩ := hl
              exact Quiet.fin hs ⟨_, by simp only [execOp, ho, hs.eval_v hx, Instr.fieldAt, Instr.sureAddr, Sem.run_bind, hd, Result.andThen_ok, hfd, Sem.run_pure, hp]; rfl, by simp [svOk, A.off_eq]⟩
            · exact hl.elim
      · exact hl.elim
    · exact hl.elim
  case h_8 t x ix ho => -- indexAddr
    split at hl
    · rename_i kk n hix
      split at hl
      · rename_i e he
        have hi := tiOk hT (isNone_slc he)
        obtain ⟨d, hd, -, hkd, -⟩ := hi.run_under w
        obtain rfl := kd_slc (hkd ▸ he)
        split at hl
        · exact hl.elim
        · rename_i hk
          have hie := tiOk hT (notNone hk)
          split at hl
          · rename_i b len cap hx
            obtain ⟨⟨g1, g2, g3⟩, rfl, rfl⟩ := (show Chk _ _ from hl)
            obtain ⟨y, rfl⟩ := Option.isSome_iff_exists.1 g1
            refine Quiet.fin hs ⟨.pointer (some (y.add (n.toNat * (T.ty e).size))), ?_, by simp [svOk, A.elt_eq, elt]⟩
            simp [execOp, ho, hs.eval_v hx, hs.eval_v hix, Instr.indexAt, asIntOf, hd, hie.run_size, g2, g3]
          · exact hl.elim
      · rename_i m e he
        have hi := tiOk hT (isNone_arr he)
        obtain ⟨d, hd, -, hkd, -⟩ := hi.run_under w
        obtain rfl := kd_arr (hkd ▸ he)
        split at hl
        · exact hl.elim
        · rename_i hk
          have hie := tiOk hT (notNone hk)
          split at hl
          · rename_i s off hx
            obtain ⟨⟨g2, g3⟩, rfl, rfl⟩ := (show Chk _ _ from hl)
            have := hs.eval_loc hx
            refine Quiet.fin hs ⟨.pointer (some ⟨β s, off + n.toNat * (T.ty e).size, none⟩), ?_, this.1, by simp [A.ix_eq]⟩
            simp [execOp, ho, this.2, hs.eval_v hix, Instr.indexAt, asIntOf, hd, hie.run_size, g2, g3, Instr.sureAddr, add_none]
          · rename_i y hx
            obtain ⟨⟨g2, g3⟩, rfl, rfl⟩ := (show Chk _ _ from hl)
            refine Quiet.fin hs ⟨.pointer (some (y.add (n.toNat * (T.ty e).size))), ?_, by simp [svOk, A.elt_eq, elt]⟩
            simp [execOp, ho, hs.eval_v hx, hs.eval_v hix, Instr.indexAt, asIntOf, hd, hie.run_size, g2, g3, Instr.sureAddr]
          · exact hl.elim
      · exact hl.elim
    · exact hl.elim
  case h_9 t x ix ho => -- index
    split at hl
    · rename_i kk n hix
      split at hl
      · rename_i he
        have hi := tiOk hT (show (T.ty t).kd ≠ .none by rw [he]; simp)
        obtain ⟨d, hd, -, hkd, -⟩ := hi.run_under w
        obtain rfl := kd_str (hkd ▸ he)
        split at hl
        · rename_i s hx
          obtain ⟨⟨g2, g3⟩, rfl, rfl⟩ := (show Chk _ _ from hl)
          have hlt : n.toNat < s.size := by omega
          refine Quiet.fin hs ⟨.int .u8 (s[n.toNat].toNat : Int), ?_, ?_⟩
          · simp [execOp, ho, hs.eval_v hx, hs.eval_v hix, Instr.index, asIntOf, hd, g2, hlt]
          · have : n.toNat < s.data.size := hlt
            simp only [svOk, A.byte_eq, Array.getD_eq_getD_getElem?, Array.getElem?_eq_getElem this]
            rfl
        · exact hl.elim
      · exact hl.elim
    · exact hl.elim
  case h_10 t x f ho => -- field
    split at hl
    · rename_i fs hfs
      have hi := tiOk hT (isNone_strct hfs)
      obtain ⟨d, hd, -, hkd, -⟩ := hi.run_under w
      obtain ⟨F, rfl, hF⟩ := kd_strct (hkd ▸ hfs)
      split at hl
      · rename_i ft off hf
        obtain ⟨fd, hfd, rfl, rfl⟩ := field_at hF hf
        split at hl
        · exact hl.elim
        · rename_i hk
          have hif := tiOk hT (notNone hk)
          split at hl
          · rename_i cs hx
            split at hl
            · rename_i ds hds
              obtain ⟨h1, h2⟩ := takeN_spec hds
              obtain ⟨v, h3, h4⟩ := rdvk_det hl
              obtain ⟨rfl, rfl⟩ := h4
              refine Quiet.fin hs ⟨v, ?_, rfl⟩
              have hpart : (part fd.type cs fd.offset).run P w = .ok v w := by
                unfold part
                rw [Sem.run_bind, hif.run_isAgg]
                unfold rdvk at h3
                cases hg : (T.ty fd.type).agg with
                | true =>
                  simp only [hg] at h3
                  subst h3
                  unfold takeN at hds
                  split at hds
                  · cases hds
                    simp only [Result.andThen_ok, if_true, Sem.run_bind, hif.run_size, Sem.run_pure]
                    congr 2
                    apply Array.ext'
                    simp [Array.toList_extract, List.extract]
                  · cases hds
                | false =>
                  simp only [hg] at h3
                  cases ds with
                  | nil => exact h3.elim
                  | cons y r =>
                    simp only at h3
                    subst h3
                    have := h2 0 (by simp)
                    simp only [Nat.add_zero, Array.getElem?_toList, List.getElem?_cons_zero] at this
                    simp [this]
              simp only [execOp, ho, hs.eval_v hx, Instr.field, Sem.run_bind, hd, Result.andThen_ok, hfd, asAgg, Sem.run_pure, hpart]
            · exact hl.elim
          · exact hl.elim
      · exact hl.elim
    · exact hl.elim
  case h_11 x i ho => -- extract
    split at hl
    · rename_i vs hx
      split at hl
      · rename_i v hv
        obtain ⟨rfl, rfl⟩ := hl
        simp only [Array.getElem?_toList] at hv
        exact Quiet.fin hs ⟨v, by simp [execOp, ho, hs.eval_v hx, Instr.extract, hv], rfl⟩
      · exact hl.elim
    · exact hl.elim
  case h_12 t parts ho => -- build
    split at hl
    · exact hl.elim
    · rename_i hk
      split at hl
      · rename_i ps hps
        split at hl
        · rename_i cs hcs
          obtain ⟨rfl, rfl⟩ := hl
          have h1 := run_build hT w hk hcs
          have h2 : (parts.map fun (i, x) => (i, a.eval x)) = ps.toArray := by
            rw [← partsV_eval hs hps]
            apply Array.ext'
            simp
          exact Quiet.fin hs ⟨_, by simp only [execOp, ho, h2, Sem.run_bind, h1, Result.andThen_ok, Sem.run_pure], rfl⟩
        · exact hl.elim
      · exact hl.elim
  case h_13 op t x y ty ho => -- binOp
    split at hl
    · rename_i u hu
      split at hl
      · rename_i v hv
        split at hl
        · rename_i r hr
          obtain ⟨rfl, rfl⟩ := hl
          have := binV_run (P := P) (A := A) (t := t) (x := x) (y := y) hr w
          exact Quiet.fin hs ⟨_, by simp only [execOp, ho, hs.eval_v hu, hs.eval_v hv]; rw [tryX this]; rfl, rfl⟩
        · split at hl
          · rename_i r hr
            obtain ⟨rfl, rfl⟩ := hl
            have := cmpV_run (A := A) hT (x := x) (y := y) hr w
            exact Quiet.fin hs ⟨_, by simp only [execOp, ho, hs.eval_v hu, hs.eval_v hv]; rw [tryX this]; rfl, rfl⟩
          · obtain ⟨r, ⟨rfl, rfl⟩, h2⟩ := binC_det (e := fun k _ => RunX _ _ k) (fun k h => by
              obtain ⟨v, g1, g2⟩ := h.out
              exact ⟨v, g2, fun k' h' => ⟨v, g1, h'⟩⟩) hl
            have := binC_run (P := P) (A := A) (t := t) (x := x) (y := y) (h2 (fun z => z = r) rfl) (fun h w => by
              obtain ⟨v, g1, rfl⟩ := h.out
              exact g1 w) w
            exact Quiet.fin hs ⟨_, by simp only [execOp, ho, hs.eval_v hu, hs.eval_v hv]; rw [tryX this]; rfl, rfl⟩
      · exact hl.elim
    · exact hl.elim
  case h_14 op t x ho => -- unOp
    split at hl
    · rename_i b hx
      split at hl
      · obtain ⟨rfl, rfl⟩ := hl
        exact Quiet.fin hs ⟨.bool (!b), by simp only [execOp, ho, hs.eval_v hx]; rfl, by simp [svOk, A.not_eq]⟩
      · exact hl.elim
    · rename_i kd n hx
      split at hl
      · obtain ⟨rfl, rfl⟩ := hl
        exact Quiet.fin hs ⟨.int kd (kd.wrap (0 - n)), by simp only [execOp, ho, hs.eval_v hx]; rfl, by simp [svOk, A.ari_eq, ari]⟩
      · obtain ⟨rfl, rfl⟩ := hl
        exact Quiet.fin hs ⟨.int kd (ari .xor kd (maskI kd) n), by simp only [execOp, ho, hs.eval_v hx]; rfl, by simp [svOk, A.ari_eq]⟩
      · exact hl.elim
    · exact hl.elim
  case h_15 src dst x ho => -- convert
    split at hl
    · rename_i q n hx
      split at hl
      · rename_i kd hkd
        split at hl
        · rename_i ks hks
          obtain ⟨rfl, rfl⟩ := hl
          obtain ⟨d1, hd1, -, hk1, -⟩ := (tiOk hT (t := dst) (by rw [hkd]; simp)).run_under w
          obtain ⟨d2, hd2, -, hk2, -⟩ := (tiOk hT (t := src) (by rw [hks]; simp)).run_under w
          have e1 : d1 = .int kd := by
            rw [hkd] at hk1; cases d1 <;> simp [kdOf] at hk1; rw [hk1]
          have e2 : d2 = .int ks := by
            rw [hks] at hk2; cases d2 <;> simp [kdOf] at hk2; rw [hk2]
          subst e1 e2
          have hr : (Go.convert src dst (.int q n)).run P w = .ok (.int kd (A.conv kd n)) w := by
            rw [A.conv_eq]
            simp [Go.convert, hd1, hd2, Conv.intToInt]
          exact Quiet.fin hs ⟨_, by simp only [execOp, ho, hs.eval_v hx]; rw [tryX hr]; rfl, rfl⟩
        · exact hl.elim
      · obtain ⟨r, h1, rfl, rfl⟩ := (show RunX _ _ _ from hl).out
        exact Quiet.fin hs ⟨r, by simp only [execOp, ho, hs.eval_v hx]; rw [tryX (h1 w)]; rfl, rfl⟩
    · rename_i u hu hx
      obtain ⟨r, h1, rfl, rfl⟩ := (show RunX _ _ _ from hl).out
      exact Quiet.fin hs ⟨r, by simp only [execOp, ho, hs.eval_v hx]; rw [tryX (h1 w)]; rfl, rfl⟩
    · exact hl.elim
  case h_16 t x ho => -- makeInterface
    split at hl
    · exact hl.elim
    · exact hl.elim
    · rename_i hk1 hk2
      split at hl
      · rename_i v hx
        obtain ⟨rfl, rfl⟩ := hl
        have hi := tiOk hT (t := t) (fun e => hk2 e)
        obtain ⟨d, hd, -, hkd, -⟩ := hi.run_under w
        refine Quiet.fin hs ⟨.iface t v, ?_, rfl⟩
        simp only [execOp, ho, hs.eval_v hx, Instr.makeInterface, Sem.run_bind, hd, Result.andThen_ok]
        cases d <;> first
          | rfl
          | (exact absurd hkd (by simpa [kdOf] using hk1))
      · exact hl.elim
  case h_17 fn f c ho => -- makeFunc
    split at hl
    · rename_i fs hfs
      split at hl
      · rename_i cs hcs
        obtain ⟨rfl, rfl⟩ := hl
        refine Quiet.fin hs ⟨.func fn fs.toArray cs.toArray, ?_, rfl⟩
        simp only [execOp, ho, vals_evalA hs hfs, vals_evalA hs hcs]
        rfl
      · exact hl.elim
    · exact hl.elim
  case h_18 t x lo hi mx ho => -- slice
    split at hl
    · rename_i l hh m h1 h2 h3
      have e1 := slx_eval hs h1
      have e2 := slx_eval hs h2
      have e3 := slx_eval hs h3
      split at hl
      · rename_i e he
        have hii := tiOk hT (isNone_slc he)
        obtain ⟨d, hd, -, hkd, -⟩ := hii.run_under w
        obtain rfl := kd_slc (hkd ▸ he)
        split at hl
        · exact hl.elim
        · rename_i hk
          have hie := tiOk hT (notNone hk)
          split at hl
          · rename_i b len cap hx
            obtain ⟨v, hv, hall⟩ := sliceX_det hl
            obtain ⟨rfl, rfl⟩ := hv
            obtain ⟨Lo, Hi, Mx, hr, rfl⟩ := sliceX_run (P := P) (A := A) (g := true) e1 e2 e3 (hall (fun x => x = v) rfl) w
            refine Quiet.fin hs ⟨_, ?_, rfl⟩
            simp only [execOp, ho, hs.eval_v hx, Instr.sliceAt, Instr.slice, Sem.run_bind, hd, Result.andThen_ok, hr, hie.run_size, Sem.run_pure]
          · exact hl.elim
      · rename_i n e he
        have hii := tiOk hT (isNone_arr he)
        obtain ⟨d, hd, -, hkd, -⟩ := hii.run_under w
        obtain rfl := kd_arr (hkd ▸ he)
        split at hl
        · exact hl.elim
        · rename_i hk
          have hie := tiOk hT (notNone hk)
          split at hl
          · rename_i b hx
            obtain ⟨v, hv, hall⟩ := sliceX_det hl
            obtain ⟨rfl, rfl⟩ := hv
            obtain ⟨Lo, Hi, Mx, hr, rfl⟩ := sliceX_run (P := P) (A := A) (g := false) e1 e2 e3 (hall (fun x => x = v) rfl) w
            refine Quiet.fin hs ⟨_, ?_, rfl⟩
            simp only [execOp, ho, hs.eval_v hx, Instr.sliceAt, Instr.sureAddr, asAddr, Sem.run_bind, hd, Result.andThen_ok, hr, hie.run_size, Sem.run_pure, Option.map_some]
            split <;> simp_all
          · exact hl.elim
      · rename_i he
        have hii := tiOk hT (show (T.ty t).kd ≠ .none by rw [he]; simp)
        obtain ⟨d, hd, -, hkd, -⟩ := hii.run_under w
        obtain rfl := kd_str (hkd ▸ he)
        split at hl
        · rename_i s hx
          split at hl
          · obtain ⟨v, hv, hall⟩ := sliceS_det hl
            obtain ⟨rfl, rfl⟩ := hv
            obtain ⟨Lo, Hi, Mx, hr, rfl⟩ := sliceS_run (P := P) (A := A) e1 e2 (hall (fun x => x = v) rfl) w
            have e3' : mx.map a.eval = none := by
              rcases e3 with e3 | ⟨n, k, e3, -⟩
              · exact e3.2
              · cases e3
            refine Quiet.fin hs ⟨_, ?_, rfl⟩
            simp [execOp, ho, hs.eval_v hx, Instr.sliceAt, Instr.slice, hd, hr, e3']
          · exact hl.elim
        · exact hl.elim
      · exact hl.elim
    · exact hl.elim
  case h_19 b args argTypes ho => -- builtins
    have hcall : ∀ (vs : List Value), vals (args.toList.map (Sx.sev env)) = some vs →
        (execOp a.eval o) = builtin b argTypes o.type (args.map fun | .const _ => true | _ => false) vs.toArray := fun vs hv => by
      simp only [execOp, ho, resolve]
      rw [vals_evalA hs hv]
      rfl
    split at hl
    · split at hl
      · rename_i t ht
        split at hl
        · rename_i q n r hv
          split at hl
          · rename_i e he
            obtain ⟨rfl, rfl⟩ := hl
            have hii := tiOk hT (isNone_slc he)
            obtain ⟨d, hd, -, hkd, -⟩ := hii.run_under w
            obtain rfl := kd_slc (hkd ▸ he)
            refine Quiet.fin hs ⟨.int .i64 (Int.ofNat n), ?_, by simp [svOk, A.nat_eq]⟩
            rw [hcall _ hv]
            simp [builtin, Builtin.len_, ht, hd, goInt]
          · exact hl.elim
        · rename_i s hv
          split at hl
          · rename_i he
            obtain ⟨rfl, rfl⟩ := hl
            have hii := tiOk hT (show (T.ty t).kd ≠ .none by rw [he]; simp)
            obtain ⟨d, hd, -, hkd, -⟩ := hii.run_under w
            obtain rfl := kd_str (hkd ▸ he)
            refine Quiet.fin hs ⟨.int .i64 (Int.ofNat s.size), ?_, by simp [svOk, A.sln_eq]⟩
            rw [hcall _ hv]
            simp [builtin, Builtin.len_, ht, hd, goInt]
          · exact hl.elim
        · exact hl.elim
      · exact hl.elim
    · split at hl
      · rename_i t ht
        split at hl
        · rename_i q r n hv
          split at hl
          · rename_i e he
            obtain ⟨rfl, rfl⟩ := hl
            have hii := tiOk hT (isNone_slc he)
            obtain ⟨d, hd, -, hkd, -⟩ := hii.run_under w
            obtain rfl := kd_slc (hkd ▸ he)
            refine Quiet.fin hs ⟨.int .i64 (Int.ofNat n), ?_, by simp [svOk, A.nat_eq]⟩
            rw [hcall _ hv]
            simp [builtin, Builtin.cap_, ht, hd, goInt]
          · exact hl.elim
        · exact hl.elim
      · exact hl.elim
    · split at hl
      · rename_i kd x kd' y hv
        obtain ⟨rfl, rfl⟩ := hl
        refine Quiet.fin hs ⟨.int kd (min x y), ?_, by simp [svOk, A.imin_eq]⟩
        rw [hcall _ hv]
        simp only [builtin, Builtin.min_, List.foldlM_cons, List.foldlM_nil, Builtin.min2, Sem.run_bind, Sem.run_pure, Result.andThen_ok]
        congr 3
        simp only [Int.min_def]
        split <;> split <;> omega
      · exact hl.elim
    · split at hl
      · rename_i kd x kd' y hv
        obtain ⟨rfl, rfl⟩ := hl
        refine Quiet.fin hs ⟨.int kd (max x y), ?_, by simp [svOk, A.imax_eq]⟩
        rw [hcall _ hv]
        simp only [builtin, Builtin.max_, List.foldlM_cons, List.foldlM_nil, Builtin.max2, Sem.run_bind, Sem.run_pure, Result.andThen_ok]
        congr 3
        simp only [Int.max_def]
        split <;> split <;> omega
      · exact hl.elim
    · exact hl.elim
  case h_20 x q as ok ho => -- typeAssert
    split at hl
    · rename_i u hu
      obtain ⟨r, h1, rfl, rfl⟩ := (show RunX _ _ _ from hl).out
      exact Quiet.fin hs ⟨r, by simp only [execOp, ho, hs.eval_v hu]; rw [tryX (h1 w)]; rfl, rfl⟩
    · exact hl.elim
  case h_21 => exact hl.elim

end Go.Sx

namespace Go.Sx
variable {P : Program} {T : Tab} {A : Ar} [ArOk A]
variable {ds : List Deferred} {h0 : Heap} {w0 : World} {β : Nat → Nat} {env : Env} {L : Loc} {h : Heap} {a : Act} {w : World}

theorem zeros_get (z : List Value) : ∀ (n i : Nat), i < n * z.length → (zeros n z)[i]? = z[i % z.length]?
  | 0, i, hi => by simp at hi
  | n + 1, i, hi => by
    unfold zeros
    rw [List.replicate_succ, List.flatten_cons]
    by_cases hl : i < z.length
    · rw [List.getElem?_append_left hl, Nat.mod_eq_of_lt hl]
    · rw [List.getElem?_append_right (by omega)]
      have := zeros_get z n (i - z.length) (by rw [Nat.succ_mul] at hi; generalize n * z.length = q at *; omega)
      unfold zeros at this
      rw [this, ← Nat.mod_eq_sub_mod (by omega)]

theorem zeros_length (z : List Value) (n : Nat) : (zeros n z).length = n * z.length := by
  simp [zeros, List.length_flatten]

theorem range_zero (z : Array Value) (n : Nat) : (Array.range (n * z.size)).map (fun i => z[i % z.size]!) = (zeros n z.toList).toArray := by
  apply Array.ext'
  apply List.ext_getElem?
  intro i
  by_cases hi : i < n * z.size
  · have := zeros_get z.toList n i (by simpa using hi)
    simp only [Array.toList_map, List.getElem?_map, List.toList_toArray] at this ⊢
    rw [this]
    have hz : 0 < z.size := by
      rcases Nat.eq_zero_or_pos z.size with e | e
      · rw [e] at hi; simp at hi
      · exact e
    have hm : i % z.size < z.size := Nat.mod_lt _ hz
    simp [Array.toList_range, hi, hm]
  · rw [List.getElem?_eq_none (by simp; omega), List.getElem?_eq_none (by simp [zeros_length]; omega)]

theorem run_first (hs : Agr h w) {b : Option Addr} {size n : Nat} {cs : List Value} (hr : rdo h b (n * size) cs) (x y : Nat) :
    (Builtin.firstCells size n (.slice b x y)).run P w = .ok cs.toArray w := by
  rcases hr with ⟨h1, rfl⟩ | ⟨q, rfl, hr⟩
  · cases b with
    | none => rfl
    | some q => simp [Builtin.firstCells, h1, loadCells, loadCellsFrom]
  · obtain ⟨g1, g2, g3⟩ := hr.cell hs
    simp only [Builtin.firstCells]
    rw [← g2]
    have : q = ⟨q.block, q.off, none⟩ := by cases q; simp at g1; rw [g1]
    rw [this]
    exact run_loadCells_list (P := P) w _ cs (fun j v hv => by
      have hj : j < cs.length := by rw [List.getElem?_eq_some_iff] at hv; exact hv.1
      rw [add_none, g3 j hj, hv])

theorem StX.run (hs : Agr h w) {q : Addr} {cs : List Value} {k : Heap → Prop} (h1 : ones cs = true) (hx : StX h q cs k) :
    ∃ w' h', (storeCells q cs).run P w = .ok () w' ∧ k h' ∧ After h w h' w' := by
  obtain ⟨c, e, fr, g1, g2, g3, g4, g5⟩ := hx.out
  have hq : q = ⟨q.block, q.off, none⟩ := by cases q; simp at g1; rw [g1]
  obtain ⟨w', k1, k2, k3, k4, k5⟩ := run_storeCells (P := P) (b := q.block) (o := q.off) (e := e) (fr := fr) cs 0 c w (hs _ _ g2) (by omega) (by simpa using g4) h1
  refine ⟨w', _, ?_, g5 _ rfl, ?_⟩
  · rw [hq]; exact k1
  · exact After.set hs g2 (by simpa using k2) k3 k4 k5

theorem StO.run (hs : Agr h w) {b : Option Addr} {cs : List Value} {k : Heap → Prop} (h1 : ones cs = true) (hx : StO h b cs k) :
    ∃ w' h', ((match b with | some q => storeCells q cs | none => pure ()) : Sem Unit).run P w = .ok () w' ∧ k h' ∧ After h w h' w' := by
  rcases hx with ⟨rfl, hk⟩ | ⟨q, rfl, hx⟩
  · refine ⟨w, h, ?_, hk, After.refl hs⟩
    cases b <;> rfl
  · exact hx.run hs h1

theorem growBy_le (n : Nat) (hn : 256 ≤ n) : ∀ (r c : Nat), c ≤ 2 * n → Builtin.growBy n r c ≤ 2 * n
  | 0, c, h => h
  | r + 1, c, h => by
    unfold Builtin.growBy
    split
    · exact h
    · exact growBy_le n hn r _ (by omega)

theorem nextcap_le (n c : Nat) (h : c < n) : Builtin.nextslicecap n c ≤ 2 * n := by
  unfold Builtin.nextslicecap
  split
  · omega
  · split
    · omega
    · exact growBy_le n (by omega) 4 c (by omega)

theorem pow48i : (2 : Int) ^ 48 = 281474976710656 := rfl
theorem pow48n : (2 : Nat) ^ 48 = 281474976710656 := rfl

theorem run_first_str (size : Nat) (s : ByteArray) (w : World) : (Builtin.firstCells size s.size (.string s)).run P w = .ok (strCells s).toArray w := by
  have h : s.extract 0 s.size = s := by
    ext1
    rw [ByteArray.data_extract]
    show s.data.extract 0 s.data.size = _
    simp
  simp only [Builtin.firstCells, h, Sem.run_pure]
  congr 1
  unfold strCells
  rw [← Array.toList_map]
theorem AppX.run (hs : Agr h w) {b : Option Addr} {len cap n size bytes e : Nat} {new : List Value} {k : Value → Heap → Prop} (hx : AppX h b len cap n size bytes e new k)
    {t u : TypeId} {argTypes : Array TypeId} (h0 : argTypes[0]? = some t) (h1 : argTypes[1]? = some u) {du : TypeDesc} (hu : P.underlying t = some (.slice e)) (huu : P.underlying u = some du)
    {ti : Ti} (hi : TiOk P e ti) (hsz : ti.size = size) (hby : ti.bytes = bytes) (hz : ti.zero.length = size) {x : Value}
    (hx0 : (∃ q m, x = .slice q n m ∧ (∀ kk, du ≠ .int kk) ∧ rdo h q (n * size) new) ∨ (∃ kk k' j, x = .int kk j ∧ du = .int k' ∧ j.toNat = n ∧ 0 ≤ j ∧ j ≤ 2 ^ 48 ∧ j * bytes ≤ 2 ^ 48 ∧ new = zeros n ti.zero) ∨ (∃ s, x = .string s ∧ du = .string ∧ s.size = n ∧ new = strCells s)) (ty : TypeId) :
    ∃ v w' h', (Builtin.append_ argTypes ty #[.slice b len cap, x]).run P w = .ok v w' ∧ k v h' ∧ After h w h' w' := by
  obtain ⟨z, hzr, hzc⟩ := hi.run_zero w
  have hsz' : z.cells.size = size := by rw [← hz, ← hzc]; simp
  have hund : ∀ W, (underlying t).run P W = .ok (.slice e) W := fun W => by simp [underlying, hu]
  have hundu : ∀ W, (underlying u).run P W = .ok du W := fun W => by simp [underlying, huu]
  have hzv : ∀ W, (zeroValue e).run P W = .ok z W := fun W => by
    obtain ⟨ti', d', z', e1, -, e3, -⟩ := hi.ex
    simp [zeroValue, typeInfo, e1, e3] at hzr ⊢
    exact hzr
  obtain ⟨tf, htf, hb1, hb2⟩ : ∃ tf, (∀ W, (typeInfo e).run P W = .ok tf W) ∧ ti.size = tf.size ∧ ti.bytes = tf.bytes := by
    obtain ⟨ti', d', z', e1, -, e3, -, e4, e5, -⟩ := hi.ex
    exact ⟨ti', fun W => by simp [typeInfo, e1], e4, e5⟩
  have hsize : ∀ W, (sizeOf e).run P W = .ok size W := fun W => by rw [hi.run_size, hsz]
  have hm : (∃ q m, x = .slice q n m ∧ (∀ kk, du ≠ .int kk) ∧ rdo h q (n * size) new) → (match du with | .int _ => true | _ => false) = false := fun ⟨_, _, _, hnk, _⟩ => by
    cases du <;> first
      | rfl
      | exact absurd rfl (hnk _)
  have hzc' : ∀ m, Builtin.zeroCells z.cells m = (zeros m ti.zero).toArray := fun m => by
    unfold Builtin.zeroCells
    rw [range_zero, hzc]
  by_cases hfit : len + n ≤ cap
  · obtain ⟨w', h', k1, k2, k3⟩ := (hx.fits hfit).run (P := P) hs hx.one
    refine ⟨_, w', h', ?_, k2, k3⟩
    have fin : Sem.run P (match b with
      | some a => Functor.map (fun a => Value.slice b (len + n) cap) (storeCells (a.add (len * size)) new)
      | x => pure (Value.slice b (len + n) cap)) w = Result.ok (Value.slice b (len + n) cap) w' := by
      cases b with
      | none => simp at k1; simp [k1]
      | some q => simp at k1; simp [k1]
    rcases hx0 with ⟨q, m, rfl, hnk, hr⟩ | ⟨kk, kq, j, rfl, rfl, hj1, hj2, hj3, hj4, rfl⟩ | ⟨s, rfl, rfl, rfl, rfl⟩
    · have hm' := hm ⟨q, m, rfl, hnk, hr⟩
      simp [Builtin.append_, h0, h1, hund, hundu, hsize, hm', Builtin.lenOf, hfit, run_first hs hr]
      exact fin
    rotate_left
    · have hfs := run_first_str (P := P) size s w
      simp [Builtin.append_, h0, h1, hund, hundu, hsize, Builtin.lenOf, hfit, hfs]
      exact fin
    · have hwr : IntKind.i64.wrap j = j := IntWalk.i64_in j (by omega)
      have hj0 : ¬ j < 0 := by omega
      have hjb : ¬ (281474976710656 : Int) < j * tf.bytes := by rw [← hb2, hby, ← pow48i]; omega
      by_cases hn0 : n * size = 0
      · have hne : zeros n ti.zero = [] := List.eq_nil_of_length_eq_zero (by rw [zeros_length, hz, hn0])
        rw [hne] at fin
        simp [Builtin.append_, h0, h1, hund, hundu, hsize, asInt, asIntOf, hwr, hj0, htf, hjb, hj1, hfit, hn0]
        exact fin
      · simp [Builtin.append_, h0, h1, hund, hundu, hsize, asInt, asIntOf, hwr, hj0, htf, hjb, hj1, hfit, hn0, hzv, hzc']
        exact fin
  · obtain ⟨b1, b2, old, ho, hgo⟩ := hx.grows (by omega)
    have hcap : ¬ (281474976710656 < Builtin.nextslicecap (len + n) cap * tf.bytes) := by
      have := nextcap_le (len + n) cap (by omega)
      have := Nat.mul_le_mul_right tf.bytes this
      rw [← hb2, hby] at this ⊢
      have e : (2 : Nat) ^ 48 = 281474976710656 := by rfl
      omega
    have hcm : ¬ ((9223372036854775807 : Int) < (len : Int) + n) := by rw [pow48n] at b2; omega
    have ha1 : Agr h w.drew := hs
    have hfo : (Question.appendCap (len + n) cap e).forced = false := rfl
    obtain ⟨c, hcc⟩ : ∃ c, (Question.appendCap (len + n) cap e).cut (w.tape w.drawn (Question.appendCap (len + n) cap e)) = c := ⟨_, rfl⟩
    have hc : len + n ≤ c := by rw [← hcc]; simp [Question.cut]
    have hold : (Builtin.firstCells size len (.slice b len cap)).run P w.drew = .ok old.toArray w.drew := run_first ha1 ho len cap
    obtain ⟨rest, hrest0⟩ : ∃ rest, rest = zeros (c - (len + n)) ti.zero := ⟨_, rfl⟩
    have hrest : rest.length = (c - (len + n)) * size := by rw [hrest0, zeros_length, hz]
    have hnew := After.new ha1 (.cells (old ++ new ++ rest).toArray e (0, 0))
    have hsz1 : w.drew.heap.size = w.heap.size := rfl
    refine ⟨.slice (some ⟨w.heap.size, 0, none⟩) (len + n) c, w.drew.alloc (.cells (old ++ (new ++ rest)).toArray e), _, ?_, hgo w.heap.size c _ rest (hs.none_ge (Nat.le_refl _)) hc hrest rfl, ?_⟩
    rotate_left
    · rw [← List.append_assoc]
      exact ⟨hnew.os, hnew.tape, hnew.output, hnew.size, hnew.agr, hnew.frame⟩
    rcases hx0 with ⟨q, m, rfl, hnk, hr⟩ | ⟨kk, kq, j, rfl, rfl, hj1, hj2, hj3, hj4, hnw⟩ | ⟨s, rfl, rfl, rfl, rfl⟩
    · have hm' := hm ⟨q, m, rfl, hnk, hr⟩
      have hr1 : (Builtin.firstCells size n (.slice q n m)).run P w.drew = .ok new.toArray w.drew := run_first ha1 hr n m
      simp [Builtin.append_, h0, h1, hund, hundu, hsize, hm', Builtin.lenOf, hfit, htf, hcap, hcm, hfo, hold, hr1, hzv, hzc', newRow, hcc, ← hrest0]
    rotate_left
    · have hfs := run_first_str (P := P) size s w.drew
      simp [Builtin.append_, h0, h1, hund, hundu, hsize, Builtin.lenOf, hfit, htf, hcap, hcm, hfo, hold, hfs, hzv, hzc', newRow, hcc, ← hrest0]
    · have hwr : IntKind.i64.wrap j = j := IntWalk.i64_in j (by rw [pow48i] at hj3; omega)
      have hj0 : ¬ j < 0 := by omega
      have hjb : ¬ (281474976710656 : Int) < j * tf.bytes := by rw [← hb2, hby, ← pow48i]; omega
      subst hj1
      have hcm2 : ¬ ((9223372036854775807 : Int) < (len : Int) + max j 0) := by rw [pow48n] at b2; omega
      by_cases hn0 : j.toNat * size = 0
      · have hne : new = [] := by rw [hnw]; exact List.eq_nil_of_length_eq_zero (by rw [zeros_length, hz, hn0])
        simp [Builtin.append_, h0, h1, hund, hundu, hsize, asInt, asIntOf, hwr, hj0, htf, hjb, hfit, hcap, hcm, hfo, hold, hn0, hzv, hzc', newRow, hcc, ← hrest0, hne, hcm2]
      · simp [Builtin.append_, h0, h1, hund, hundu, hsize, asInt, asIntOf, hwr, hj0, htf, hjb, hfit, hcap, hcm, hfo, hold, hn0, hzv, hzc', newRow, hcc, ← hrest0, ← hnw, hcm2]

end Go.Sx

namespace Go.Sx
variable {P : Program} {T : Tab} {A : Ar} [ArOk A]
variable {ds : List Deferred} {h0 : Heap} {w0 : World} {β : Nat → Nat} {env : Env} {L : Loc} {h : Heap} {a : Act} {w : World}

/-- The boxes of the walk taken as far as may be, and those of the run: written alike. -/
def LRel (Lc L Lc' L' : Loc) : Prop := (Lc' = Lc ∧ L' = L) ∨ ∃ s c x y, lkp Lc s = some x ∧ lkp L s = some y ∧ Lc' = upd Lc s c ∧ L' = upd L s c

theorem MakeX.run (hs : Agr h w) {e : Nat} {l c : Int} {kl kc : IntKind} {z : List Value} {bytes : Nat} {k : Value → Heap → Prop} (hx : MakeX h e l c bytes z k)
    {t : TypeId} (hu : P.underlying t = some (.slice e)) {ti : Ti} (hi : TiOk P e ti) (hby : ti.bytes = bytes) (hz : ti.zero = z) (hzl : z.length = ti.size) :
    ∃ v w' h', (Instr.makeSlice t (.int kl l) (.int kc c)).run P w = .ok v w' ∧ k v h' ∧ After h w h' w' := by
  obtain ⟨l0, l1⟩ := hx.len
  obtain ⟨r0, r1⟩ := hx.room
  rw [pow48i] at r0 r1
  obtain ⟨zz, hzr, hzc⟩ := hi.run_zero w
  obtain ⟨tf, htf, hb1, hb2⟩ := hi.run_info w
  have hsize := hi.run_size w
  have hund : (underlying t).run P w = .ok (.slice e) w := by simp [underlying, hu]
  have hwl : IntKind.i64.wrap l = l := IntWalk.i64_in l (by omega)
  have hwc : IntKind.i64.wrap c = c := IntWalk.i64_in c (by omega)
  have hnew := After.new hs (.cells (zeros c.toNat z).toArray e (0, 0))
  refine ⟨_, _, _, ?_, hx.out w.heap.size _ (hs.none_ge (Nat.le_refl _)) rfl, hnew⟩
  have h1 : ¬ c < 0 := by omega
  have h2 : ¬ ((281474976710656 : Int) < (tf.bytes : Int) * c) := by rw [← hb2, hby]; omega
  have h3 : ¬ l < 0 := by omega
  have h4 : ¬ c < l := by omega
  have hzs : zz.cells.size = ti.size := by rw [← hzl, ← hz, ← hzc]; simp
  have hrz := range_zero zz.cells c.toNat
  rw [hzs, hzc, hz] at hrz
  by_cases hn0 : c.toNat * ti.size = 0
  · have hne : zeros c.toNat z = [] := List.eq_nil_of_length_eq_zero (by rw [zeros_length, hzl, hn0])
    have he0 : (Array.map (fun (_ : Nat) => (default : Value)) (Array.range 0)) = #[] := by simp
    simp [Instr.makeSlice, hund, asInt, asIntOf, htf, hwl, hwc, h1, h2, h3, h4, hsize, hn0, newRow, hne, he0]
  · simp [Instr.makeSlice, hund, asInt, asIntOf, htf, hwl, hwc, h1, h2, h3, h4, hsize, hn0, newRow, hzr, hzs, hrz]

theorem zeros_nil {n : Nat} {z : List Value} (h : n * z.length = 0) : zeros n z = [] := List.eq_nil_of_length_eq_zero (by rw [zeros_length, h])

theorem ones_append {a b : List Value} (ha : ones a = true) (hb : ones b = true) : ones (a ++ b) = true := by
  induction a with
  | nil => exact hb
  | cons x r ih =>
    simp only [List.cons_append, ones] at ha ⊢
    cases h1 : one x with
    | true => simp only [h1] at ha ⊢; exact ih ha
    | false => simp only [h1] at ha; cases ha

theorem ones_zeros {z : List Value} (hz : ones z = true) : ∀ n, ones (zeros n z) = true
  | 0 => rfl
  | n + 1 => by
    unfold zeros
    rw [List.replicate_succ, List.flatten_cons]
    exact ones_append hz (ones_zeros hz n)

theorem callFunc_run (hT : TabOk P T) {g : FuncId} (hg : T.fn g = true) (args : Array Value) (w : World) : (callFunc g args).run P w = .ok (.enter g args) w := by
  obtain ⟨fn, h1, h2, h3⟩ := hT.fn g hg
  obtain ⟨c, hc⟩ := Option.isSome_iff_exists.1 h2
  simp [callFunc, h1, h3, hc]

/-- Every function may run; the frame is a round's or none. -/
abbrev FW (ro : Option Nat) : Fence := { Fence.wide with round := ro }
variable {ro : Option Nat} {n : Nat}

/-- What is asked of a panic that is let out. -/
def PanOk (T : Tab) (ds : List Deferred) (h0 : Heap) (w0 : World) (Q : Exit → Act → World → Prop) : Prop :=
  ∀ c β env L h a w, T.kp c (T.rs.map fun t => Sx.sev env (.tmp t)) h → SRel ds h0 w0 β env L h a w → Q (.panic c) a w

theorem wpIn_exec {o : Oper} {next : Act → World → Prop} {Q : Exit → Act → World → Prop} (hnd : ∀ c, o.op ≠ .defer c) {r : Result Next} (hr : (execOp a.eval o).run P w = r) (h : o.uponIn (FW ro) n P a next Q r) : o.wpIn (FW ro) n P a w next Q := by
  unfold Oper.wpIn
  refine ⟨fun _ _ => trivial, ?_⟩
  rw [Oper.semAt_eq _ _ _ hnd, hr]; exact h
theorem no_defer {o : Oper} {r : Next} {w' : World} (hr : (execOp a.eval o).run P w = .ok r w') (hn : ∀ d, r ≠ .defer d) : ∀ c, o.op ≠ .defer c := fun c hc => by
  simp only [execOp, hc, Sem.run_bind] at hr
  cases hx : (resolve a.eval c o.type).run P w with
  | ok d w1 => rw [hx] at hr; simp only [Result.andThen_ok, Sem.run_pure] at hr; cases hr; exact hn _ rfl
  | halt => rw [hx] at hr; cases hr
theorem wpIn_val {o : Oper} {next : Act → World → Prop} {Q : Exit → Act → World → Prop} {v : Value} {w' : World} (hr : (execOp a.eval o).run P w = .ok (.value v) w') (h : next (a.put o.dst v) w') : o.wpIn (FW ro) n P a w next Q :=
  wpIn_exec (no_defer hr (fun _ e => by cases e)) hr h
theorem wpIn_skp {o : Oper} {next : Act → World → Prop} {Q : Exit → Act → World → Prop} {w' : World} (hr : (execOp a.eval o).run P w = .ok .skip w') (h : next (a.put o.dst undef) w') : o.wpIn (FW ro) n P a w next Q :=
  wpIn_exec (no_defer hr (fun _ e => by cases e)) hr h

set_option maxHeartbeats 2000000 in
theorem hx_run (hT : TabOk P T) (hs : SRel ds h0 w0 β env L h a w) {Lc : Loc} (hLc : ∀ s c, lkp L s = some c → lkp Lc s = some c) {o : Oper} {k : SV → Loc → Heap → Prop}
    (hk : hx A T (fun _ => P) o (Sx.sev env) Lc h k) {next : Act → World → Prop} {Q : Exit → Act → World → Prop}
    (hpo : PanOk T ds h0 w0 Q) (hn : ∀ sv v Lc' L' h' w', k sv Lc' h' → SRel ds h0 w0 β (put env o.dst sv) L' h' (a.put o.dst v) w' → LRel Lc L Lc' L' → next (a.put o.dst v) w') : o.wpIn (FW ro) n P a w next Q := by
  have val : ∀ {v : Value} {w' : World} {h' : Heap}, (execOp a.eval o).run P w = .ok (.value v) w' → k (.v v) Lc h' → After h w h' w' → o.wpIn (FW ro) n P a w next Q := fun {v w' h'} hr hkk ha =>
    wpIn_val hr (hn _ _ _ _ _ _ hkk ((hs.step ha).put rfl) (.inl ⟨rfl, rfl⟩))
  have skp : ∀ {w' : World} {h' : Heap}, (execOp a.eval o).run P w = .ok .skip w' → k (.v undef) Lc h' → After h w h' w' → o.wpIn (FW ro) n P a w next Q := fun {w' h'} hr hkk ha =>
    wpIn_skp hr (hn _ _ _ _ _ _ hkk ((hs.step ha).put rfl) (.inl ⟨rfl, rfl⟩))
  have hag := hs.after.agr
  have sem : ∀ {s : Sem Value}, SemX (fun _ => P) (fun _ => s) h (fun r h' => k (.v r) Lc h') → execOp a.eval o = (do pure (.value (← s))) → o.wpIn (FW ro) n P a w next Q := fun {s} hx he => by
    obtain ⟨v, w', h', k1, k2, k3⟩ := hx.out w hag
    exact val (by rw [he, Sem.run_bind, k1]; rfl) k2 k3
  have semu : ∀ {s : Sem Unit}, SemX (fun _ => P) (fun _ => do s; pure undef) h (fun _ h' => k (.v undef) Lc h') → execOp a.eval o = (do s; pure .skip) → o.wpIn (FW ro) n P a w next Q := fun {s} hx he => by
    obtain ⟨v, w', h', k1, k2, k3⟩ := hx.out w hag
    rw [Sem.run_bind] at k1
    cases hr : s.run P w with
    | ok u w1 =>
      rw [hr] at k1
      simp only [Result.andThen_ok, Sem.run_pure] at k1
      cases k1
      exact skp (by rw [he, Sem.run_bind, hr]; rfl) k2 k3
    | halt => rw [hr] at k1; cases k1
  unfold hx at hk
  split at hk
  case h_1 x ho => -- assign
    have hr : (execOp a.eval o).run P w = .ok (.value (a.eval x)) w := by simp only [execOp, ho]; rfl
    refine wpIn_val hr ?_
    exact hn _ _ _ _ _ _ hk (hs.put (hs.sev x)) (.inl ⟨rfl, rfl⟩)
  case h_2 t q x ho => -- store
    split at hk
    · exact hk.elim
    · rename_i hkd
      have hi := tiOk hT (notNone hkd)
      split at hk
      · rename_i v hv
        split at hk
        · exact hk.elim
        · rename_i hsz
          have hsz' : v.cells.size = (T.ty t).size := by simpa using hsz
          split at hk
          · exact hk.elim
          · rename_i h1
            have hst : ∀ {y : Addr} {w' : World}, (storeCells y v.cells.toList).run P w = .ok () w' → (Instr.storeAt t (.pointer (some y)) v).run P w = .ok () w' := fun {y w'} hr => by
              simp only [Instr.storeAt, Instr.sureAddr, Sem.run_bind, Sem.run_pure, Result.andThen_ok, storeVar, hi.run_size, hsz']
              simp [hr]
            split at hk
            · rename_i s off hq
              split at hk
              · rename_i c hc
                obtain ⟨⟨c', hc'⟩, hev⟩ := hs.eval_loc hq
                have : c' = c := by have := hLc _ _ hc'; rw [hc] at this; cases this; rfl
                subst this
                split at hk
                · rename_i hd
                  have hd' := of_decide_eq_true hd
                  obtain ⟨-, -, e, he⟩ := hs.loc s c' hc'
                  obtain ⟨w', k1, k2, k3, k4, k5⟩ := run_storeCells (P := P) (b := β s) (o := off) (e := e) (fr := (0, 0)) v.cells.toList 0 c'.toArray w he (by simpa using hd') (by simp) h1
                  have hr : (execOp a.eval o).run P w = .ok .skip w' := by
                    simp only [execOp, ho, hev, hs.eval_v hv, Sem.run_bind, hst k1, Result.andThen_ok, Sem.run_pure]
                  refine wpIn_skp hr ?_
                  refine hn _ _ _ (upd L s (setN c' off v.cells.toList)) _ _ hk (SRel.put ?_ rfl) (.inr ⟨s, _, c', c', hc, hc', rfl, rfl⟩)
                  refine hs.setLoc hc' (fun e' he' => ?_) k3 k4 k5
                  rw [he] at he'; cases he'
                  simpa using k2
                · exact hk.elim
              · exact hk.elim
            · rename_i y hq
              obtain ⟨w', h', k1, k2, k3⟩ := (show StX h y v.cells.toList _ from hk).run (P := P) hag h1
              exact skp (by simp only [execOp, ho, hs.eval_v hq, hs.eval_v hv, Sem.run_bind, hst k1, Result.andThen_ok, Sem.run_pure]) k2 k3
            · exact hk.elim
      · exact hk.elim
  case h_3 e ho => -- alloc
    split at hk
    · exact hk.elim
    · rename_i hkd
      obtain ⟨z, hz, hzc⟩ := (tiOk hT (notNone hkd)).run_zero w
      refine val ?_ (hk w.heap.size _ (hag.none_ge (Nat.le_refl _)) rfl) (After.new hag _)
      simp only [execOp, ho, Instr.alloc, Sem.run_bind, hz, Result.andThen_ok, newVar, newRow, run_newObj, Sem.run_pure]
      rw [← hzc]
  case h_4 e x ho => -- box
    split at hk
    · rename_i v hv
      refine val ?_ (hk w.heap.size _ (hag.none_ge (Nat.le_refl _)) rfl) (After.new hag _)
      simp only [execOp, ho, Instr.box, Sem.run_bind, Result.andThen_ok, newVar, newRow, run_newObj, Sem.run_pure, hs.eval_v hv]
    · exact hk.elim
  case h_5 t len parts ho => -- buildSlice
    split at hk
    · rename_i e he
      have hii := tiOk hT (isNone_slc he)
      obtain ⟨d, hd, hdp, hkd, -⟩ := hii.run_under w
      obtain rfl := kd_slc (hkd ▸ he)
      split at hk
      · exact hk.elim
      · rename_i hke
        have hie := tiOk hT (notNone hke)
        split at hk
        · rename_i ps hps
          split at hk
          · rename_i h24 hzl
            have h24 : len * (T.ty e).size ≤ 2 ^ 24 := of_decide_eq_true h24
            have hzl' : (T.ty e).zero.length = (T.ty e).size := by simpa using hzl
            split at hk
            · rename_i cs hcs
              refine val ?_ (hk w.heap.size _ (hag.none_ge (Nat.le_refl _)) rfl) (After.new hag _)
              obtain ⟨zz, hzr, hzc⟩ := hie.run_zero w
              have hzs : zz.cells.size = (T.ty e).size := by rw [← hzl', ← hzc]; simp
              have hrz := range_zero zz.cells len
              rw [hzs, hzc] at hrz
              have hp2 : (parts.map fun (i, x) => (i, a.eval x)) = ps.toArray := by
                rw [← partsV_eval hs hps]
                apply Array.ext'
                simp
              have hfe := fill_eq (fun i => some (i * (T.ty e).size, (T.ty e).size)) ps (zeros len (T.ty e).zero).toArray cs (by simpa using hcs)
              have h24' : ¬ (2 ^ 24 < len * (T.ty e).size) := by omega
              by_cases hn0 : len * (T.ty e).size = 0
              · have hne : zeros len (T.ty e).zero = [] := zeros_nil (by rw [hzl', hn0])
                rw [hne] at hfe
                have he0 : (Array.map (fun (_ : Nat) => (default : Value)) (Array.range 0)) = #[] := by simp
                simp only [List.toArray] at hfe
                simp [execOp, ho, Instr.buildSlice, hd, hie.run_size, hn0, hp2, hfe, newRow, he0]
              · have h24'' : ¬ (16777216 < len * (T.ty e).size) := h24'
                simp [execOp, ho, Instr.buildSlice, hd, hie.run_size, h24'', hn0, hp2, hfe, newRow, hzr, hzs, hrz]
            · exact hk.elim
          · exact hk.elim
        · exact hk.elim
    · exact hk.elim
  case h_6 t l c ho => -- makeSlice
    split at hk
    · rename_i e he
      have hii := tiOk hT (isNone_slc he)
      obtain ⟨d, hd, hdp, hkd, -⟩ := hii.run_under w
      obtain rfl := kd_slc (hkd ▸ he)
      split at hk
      · exact hk.elim
      · rename_i hke
        have hie := tiOk hT (notNone hke)
        split at hk
        · rename_i kl l' hl
          split at hk
          · rename_i kc c' hc
            split at hk
            · rename_i hzl
              obtain ⟨v, w', h', k1, k2, k3⟩ := MakeX.run (P := P) (kl := kl) (kc := kc) hag hk hdp hie rfl rfl (by simpa using hzl)
              exact val (by simp only [execOp, ho, hs.eval_v hl, hs.eval_v hc, Sem.run_bind, k1, Result.andThen_ok, Sem.run_pure]) k2 k3
            · exact hk.elim
          · exact hk.elim
        · exact hk.elim
    · exact hk.elim
  case h_7 t r ho => -- makeMap
    split at hk
    · exact val (by simp [execOp, ho, Instr.makeMap]) (hk w.heap.size _ (hag.none_ge (Nat.le_refl _)) rfl) (After.new hag _)
    · exact hk.elim
  case h_8 f args argTypes ho => -- call
    split at hk
    · rename_i g first cap hf
      split at hk
      · rename_i as has
        split at hk
        · rename_i hg
          have hr : (execOp a.eval o).run P w = .ok (.enter g (first ++ as.toArray ++ cap)) w := by
            simp only [execOp, ho, resolve, hs.eval_v hf, vals_evalA hs has, Deferred.ofValue, Sem.run_bind, Sem.run_pure, Result.andThen_ok, invoke, callFunc_run hT hg]
          refine wpIn_exec (no_defer hr (fun _ e => by cases e)) hr ?_
          refine ⟨fun hd => by simp [FW, Fence.wide] at hd, ?_⟩
          have he : (first.toList ++ as ++ cap.toList).toArray = first ++ as.toArray ++ cap := by
            apply Array.ext'; simp
          split at hk
          · have := callsIn_wide (n := n - 1).2 ((show FnPX _ _ _ _ _ _ from hk).out w hag)
            rw [he] at this
            refine CallsIn.mono (F := FW ro) (show CallsIn (FW ro) (n - 1) P g _ w _ from this) fun e w' hq => ?_
            rcases hq with ⟨v, h', h1, h2, h3⟩ | ⟨c, h', h1, h2, h3⟩
            · subst h1
              exact hn _ _ _ _ _ _ h2 ((hs.step h3).put rfl) (.inl ⟨rfl, rfl⟩)
            · subst h1
              exact hpo c _ _ _ _ _ _ h2 (hs.step h3)
          · have := callsIn_wide (n := n - 1).2 ((show FnX _ _ _ _ _ from hk).out w hag)
            rw [he] at this
            refine CallsIn.mono (F := FW ro) (show CallsIn (FW ro) (n - 1) P g _ w _ from this) fun e w' ⟨v, h', h1, h2, h3⟩ => ?_
            subst h1
            exact hn _ _ _ _ _ _ h2 ((hs.step h3).put rfl) (.inl ⟨rfl, rfl⟩)
        · obtain ⟨v, w', h', k1, k2, k3⟩ := (show SemX _ _ _ _ from hk).out w hag
          refine val ?_ k2 k3
          have he : (first.toList ++ as ++ cap.toList).toArray = first ++ as.toArray ++ cap := by
            apply Array.ext'; simp
          simp only [extS] at k1
          rw [he, Sem.run_bind] at k1
          simp only [execOp, ho, resolve, hs.eval_v hf, vals_evalA hs has, Deferred.ofValue, Sem.run_bind, Sem.run_pure, Result.andThen_ok, invoke]
          cases hr : (callFunc g (first ++ as.toArray ++ cap)).run P w with
          | ok n w1 =>
            rw [hr] at k1
            simp only [Result.andThen_ok] at k1
            cases n with
            | value z => simp only [Sem.run_pure] at k1; cases k1; rfl
            | _ => simp at k1
          | halt => rw [hr] at k1; cases k1
      · exact hk.elim
    · rename_i l first cap hf
      split at hk
      · rename_i as has
        obtain ⟨fn, tmps, asg, body, g1, g2⟩ := (show YdX _ _ _ _ _ from hk).out w hag
        have he : (first.toList ++ as).toArray = first ++ as.toArray := by
          apply Array.ext'; simp
        have hr : (execOp a.eval o).run P w = .ok (.round l fn tmps asg body) w := by
          rw [he] at g1
          simp only [execOp, ho, resolve, hs.eval_v hf, vals_evalA hs has, Deferred.ofValue, Sem.run_bind, Sem.run_pure, Result.andThen_ok, invoke, g1]
        refine wpIn_exec (no_defer hr (fun _ e => by cases e)) hr ?_
        refine ⟨fun hd => by simp [FW, Fence.wide] at hd, ?_⟩
        refine RoundIn.mono (F := FW ro) (show RoundIn (FW ro) (n - 1) P l fn tmps asg body w _ from g2 (n - 1)) fun e w' ⟨v, h', h1, h2, h3⟩ => ?_
        subst h1
        exact hn _ _ _ _ _ _ h2 ((hs.step h3).put rfl) (.inl ⟨rfl, rfl⟩)
      · exact hk.elim
    · exact hk.elim
  case h_9 b args argTypes ho => -- builtins
    have hcall : ∀ (vs : List Value), vals (args.toList.map (Sx.sev env)) = some vs →
        (execOp a.eval o) = builtin b argTypes o.type (args.map fun | .const _ => true | _ => false) vs.toArray := fun vs hv => by
      simp only [execOp, ho, resolve]
      rw [vals_evalA hs hv]
      rfl
    split at hk
    · split at hk -- append
      · rename_i t u ht hu
        split at hk
        · rename_i e he
          have hii := tiOk hT (isNone_slc he)
          obtain ⟨d, hd, hdp, hkd, -⟩ := hii.run_under w
          obtain rfl := kd_slc (hkd ▸ he)
          split at hk
          · exact hk.elim
          · rename_i hke
            have hie := tiOk hT (notNone hke)
            split at hk
            · exact hk.elim
            · rename_i hzl
              have hzl' : (T.ty e).zero.length = (T.ty e).size := by simpa using hzl
              split at hk
              · rename_i b' len cap x n q hv
                split at hk
                · rename_i e2 he2
                  obtain ⟨d2, -, hdp2, hkd2, -⟩ := (tiOk hT (isNone_slc he2)).run_under w
                  obtain rfl := kd_slc (hkd2 ▸ he2)
                  obtain ⟨new, g1, g2⟩ := (show AppendX _ _ _ _ _ _ _ _ _ _ from hk).out
                  obtain ⟨v, w', h', k1, k2, k3⟩ := g2.run (P := P) hag ht hu hdp hdp2 hie rfl rfl hzl' (.inl ⟨x, q, rfl, fun _ => by simp, g1⟩) o.type
                  exact val (by rw [hcall _ hv]; simp only [builtin, Sem.run_bind, k1, Result.andThen_ok, Sem.run_pure]) k2 k3
                · exact hk.elim
              · rename_i b' len cap s hv
                split at hk
                · rename_i he2
                  obtain ⟨d2, -, hdp2, hkd2, -⟩ := (tiOk hT (show (T.ty u).kd ≠ .none by rw [he2]; simp)).run_under w
                  obtain rfl : d2 = .string := by
                    rw [hkd2] at he2
                    cases d2 <;> simp [kdOf] at he2
                    rfl
                  obtain ⟨v, w', h', k1, k2, k3⟩ := AppX.run (P := P) hag hk ht hu hdp hdp2 hie rfl rfl hzl' (x := .string s) (.inr (.inr ⟨s, rfl, rfl, rfl, rfl⟩)) o.type
                  exact val (by rw [hcall _ hv]; simp only [builtin, Sem.run_bind, k1, Result.andThen_ok, Sem.run_pure]) k2 k3
                · exact hk.elim
              · rename_i b' len cap kk n hv
                split at hk
                · rename_i he2
                  obtain ⟨d2, -, hdp2, hkd2, -⟩ := (tiOk hT (show (T.ty u).kd ≠ .none by rw [he2]; simp)).run_under w
                  obtain ⟨k', rfl⟩ : ∃ k', d2 = .int k' := by
                    rw [hkd2] at he2
                    cases d2 <;> simp [kdOf] at he2
                    exact ⟨_, rfl⟩
                  obtain ⟨⟨c1, c2, c3⟩, g2⟩ := (show Chk _ _ from hk)
                  have g2 := g2.out
                  rw [show A.dif n 0 = n.toNat by rw [A.dif_eq]; simp] at g2
                  obtain ⟨v, w', h', k1, k2, k3⟩ := AppX.run (P := P) hag g2 ht hu hdp hdp2 hie rfl rfl hzl' (x := .int kk n) (.inr (.inl ⟨kk, k', n, rfl, rfl, rfl, c1, c2, c3, rfl⟩)) o.type
                  exact val (by rw [hcall _ hv]; simp only [builtin, Sem.run_bind, k1, Result.andThen_ok, Sem.run_pure]) k2 k3
                · exact hk.elim
              · exact hk.elim
        · exact hk.elim
      · exact hk.elim
    · split at hk -- copy
      · rename_i t ht
        split at hk
        · rename_i e he
          have hii := tiOk hT (isNone_slc he)
          obtain ⟨d, hd, hdp, hkd, -⟩ := hii.run_under w
          obtain rfl := kd_slc (hkd ▸ he)
          split at hk
          · exact hk.elim
          · rename_i hke
            have hie := tiOk hT (notNone hke)
            split at hk
            · rename_i b' len q x n q' hv
              obtain ⟨cs, g1, g2, g3⟩ := (show CopyX _ _ _ _ _ _ _ from hk).out
              obtain ⟨w', h', k1, k2, k3⟩ := g3.run (P := P) hag g2
              refine val ?_ k2 k3
              rw [hcall _ hv]
              have hf := run_first (P := P) hag g1 n q'
              have hmin : Nat.min n len = min n len := rfl
              simp [builtin, Builtin.copy_, ht, hd, Builtin.lenOf, hie.run_size, hmin, hf, goInt]
              cases b' with
              | none => simp at k1; simp [k1]
              | some y => simp at k1; simp [k1]
            · exact hk.elim
        · exact hk.elim
      · exact hk.elim
    · split at hk -- clear
      · rename_i t ht
        split at hk
        · rename_i e he
          have hii := tiOk hT (isNone_slc he)
          obtain ⟨d, hd, hdp, hkd, -⟩ := hii.run_under w
          obtain rfl := kd_slc (hkd ▸ he)
          split at hk
          · exact hk.elim
          · rename_i hke
            have hie := tiOk hT (notNone hke)
            split at hk
            · exact hk.elim
            · rename_i hzl
              have hzl' : (T.ty e).zero.length = (T.ty e).size := by simpa using hzl
              split at hk
              · rename_i b' len q hv
                obtain ⟨g2, g3⟩ := (show ClearX _ _ _ _ _ from hk)
                obtain ⟨w', h', k1, k2, k3⟩ := g3.run (P := P) hag (ones_zeros g2 len)
                refine val ?_ k2 k3
                rw [hcall _ hv]
                obtain ⟨zz, hzr, hzc⟩ := hie.run_zero w
                have hzcc : Builtin.zeroCells zz.cells len = (zeros len (T.ty e).zero).toArray := by
                  unfold Builtin.zeroCells
                  rw [range_zero, hzc]
                cases b' with
                | none => simp at k1; subst k1; simp [builtin, Builtin.clear_, ht, hd]
                | some y =>
                  simp at k1
                  cases len with
                  | zero =>
                    have : zeros 0 (T.ty e).zero = [] := rfl
                    rw [this] at k1
                    simp [storeCells] at k1
                    subst k1
                    simp [builtin, Builtin.clear_, ht, hd]
                  | succ m => simp [builtin, Builtin.clear_, ht, hd, hzr, hzcc, k1]
              · exact hk.elim
        · exact hk.elim
      · exact hk.elim
    · split at hk -- delete
      · rename_i as has
        exact sem hk (by rw [hcall _ has]; rfl)
      · exact hk.elim
    · exact hk.elim
  case h_10 src dst x ho => -- convert
    split at hk
    · rename_i u hu
      exact sem hk (by simp only [execOp, ho, hs.eval_v hu])
    · exact hk.elim
  case h_11 t x i b ho => -- lookup
    split at hk
    · rename_i u hu
      split at hk
      · rename_i v hv
        exact sem hk (by simp only [execOp, ho, hs.eval_v hu, hs.eval_v hv])
      · exact hk.elim
    · exact hk.elim
  case h_12 t m i x ho => -- mapUpdate
    split at hk
    · rename_i u hu
      split at hk
      · rename_i v hv
        split at hk
        · rename_i z hz
          exact semu hk (by simp only [execOp, ho, hs.eval_v hu, hs.eval_v hv, hs.eval_v hz])
        · exact hk.elim
      · exact hk.elim
    · exact hk.elim
  case h_13 t m i ho => -- mapEntry
    split at hk
    · rename_i u hu
      split at hk
      · rename_i v hv
        exact sem hk (by simp only [execOp, ho, hs.eval_v hu, hs.eval_v hv])
      · exact hk.elim
    · exact hk.elim
  case h_14 t m i x ho => -- entryStore
    split at hk
    · rename_i u hu
      split at hk
      · rename_i v hv
        split at hk
        · rename_i z hz
          exact semu hk (by simp only [execOp, ho, hs.eval_v hu, hs.eval_v hv, hs.eval_v hz])
        · exact hk.elim
      · exact hk.elim
    · exact hk.elim
  case h_15 t x ho => -- range
    split at hk
    · rename_i u hu
      exact sem hk (by simp only [execOp, ho, hs.eval_v hu])
    · exact hk.elim
  case h_16 it str ho => -- next
    split at hk
    · rename_i u hu
      exact sem hk (by simp only [execOp, ho, hs.eval_v hu])
    · exact hk.elim
  case h_17 it ho => -- entry
    split at hk
    · rename_i u hu
      exact sem hk (by simp only [execOp, ho, hs.eval_v hu])
    · exact hk.elim
  case h_18 t m i x ho => -- insert
    split at hk
    · rename_i u hu
      split at hk
      · rename_i v hv
        split at hk
        · rename_i z hz
          exact semu hk (by simp only [execOp, ho, hs.eval_v hu, hs.eval_v hv, hs.eval_v hz])
        · exact hk.elim
      · exact hk.elim
    · exact hk.elim
  case h_19 x ho => -- panic
    split at hk
    · rename_i t v hv
      have hr : (execOp a.eval o).run P w = .halt (.panic (.iface t v)) w := by
        simp only [execOp, ho, hs.eval_v hv, Sem.run_bind, show (Instr.panic (.iface t v)).run P w = .halt (.panic (.iface t v)) w from rfl]; rfl
      refine wpIn_exec (fun c hc => by rw [hc] at ho; cases ho) hr ?_
      rw [Oper.uponIn_panic]
      exact hpo _ _ _ _ _ _ _ hk hs
    · exact hk.elim
  case h_20 => exact hk.elim

end Go.Sx

