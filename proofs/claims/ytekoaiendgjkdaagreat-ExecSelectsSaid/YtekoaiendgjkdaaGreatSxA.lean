import Derived.Orders
import Derived.OrdersIn
import Derived.TacticsIn
import Derived.RangeFuncRecord
import Derived.Sort.LoopGhostIn
import Derived.Laws.Entries
import Derived.Laws.Cells
import Derived.Laws.StructEq
import Derived.IntWalk
set_option linter.unusedVariables false
set_option linter.unusedSimpArgs false
set_option linter.unusedSectionVars false
namespace Go.Sx
abbrev ad:=Nat->Option Obj
def uc(h:ad)(w:World):Prop:=∀b o,h b=some o->w.heap[b]? =some o
structure aY(h:ad)(w:World)(h':ad)(w':World):Prop where
 os:w'.os=w.os
 tape:w'.tape=w.tape
 output:w'.output=w.output
 size:w.heap.size<=w'.heap.size
 wU:uc h' w'
 frame:∀b,b<w.heap.size->h b=none->w'.heap[b]? =w.heap[b]? /\h' b=none
def Fn(P:Program)(f:FuncId)(args:List Value)(h:ad)(R:Value->ad->Prop):Prop:=
 ∀w,uc h w->Calls P f args.toArray w fun e w'=>∃v h',e=.returned v/\R v h'/\aY h w h' w'
structure IC(p:Unit->Program)(f:FuncId)(args:List Value)(h:ad)(R:Value->ad->Prop):Prop where
 out:Fn (p ()) f args h R
structure CK(p:Unit->Program)(f:FuncId)(args:List Value)(h:ad)(R:Value->ad->Prop)(K:List PanicEntry->ad->Prop):Prop where
 out:∀w,uc h w->Calls (p ()) f args.toArray w fun e w'=>(∃v h',e=.returned v/\R v h'/\aY h w h' w')\/(∃c h',e=.panicked c/\K c h'/\aY h w h' w')
structure Qj(p:Unit->Program)(l:Nat)(args:List Value)(h:ad)(R:Value->ad->Prop):Prop where
 out:∀w,uc h w->∃fn tmps ua body,(Instr.yield l args.toArray).run (p ()) w=.ok (.round l fn tmps ua body) w/\∀n,RoundIn Fence.wide n (p ()) l fn tmps ua body w fun e w'=>∃v h',e=.returned v/\R v h'/\aY h w h' w'
def bp(h:ad)(n:Nat)(o:Obj):ad:=fun b=>if b=n then some o else h b
def ja(a:Option Addr)(i:Int)(size:Nat):Addr:=((a.getD ⟨0,0,none⟩).add (i.toNat*size))
def bA(op:BinOp)(k:IntKind)(a b:Int):Int:=
 match op with
 | .add=>k.wrap (a+b)
 | .sub=>k.wrap (a-b)
 | .mul=>k.wrap (a*b)
 | .quo=>k.wrap (a.tdiv b)
 | .rem=>a.tmod b
 | .and=>k.wrap ((BitVec.ofInt k.bits a&&& BitVec.ofInt k.bits b).toNat)
 | .or=>k.wrap ((BitVec.ofInt k.bits a|||BitVec.ofInt k.bits b).toNat)
 | .xor=>k.wrap ((BitVec.ofInt k.bits a^^^BitVec.ofInt k.bits b).toNat)
 | .andNot=>k.wrap ((BitVec.ofInt k.bits a&&& ~~~ BitVec.ofInt k.bits b).toNat)
 | .shl=>k.wrap (a*2^(min b.toNat k.bits))
 | .shr=>a.fdiv (2^(min b.toNat k.bits))
 |_=>0
def aG(op:BinOp)(a b:Int):Bool:=
 match op with
 | .eql=>a==b
 | .neq=>a !=b
 | .lss=>decide (a<b)
 | .leq=>decide (a<=b)
 | .gtr=>decide (a>b)
 | .geq=>decide (a>=b)
 |_=>false
def iY(op:BinOp)(a b:ByteArray):Bool:=
 match op with
 | .eql=>a.toList==b.toList
 | .neq=> !(a.toList==b.toList)
 | .lss=>Op.bytesLess a.toList b.toList
 | .leq=>Op.bytesLess a.toList b.toList||a.toList==b.toList
 | .gtr=> !(Op.bytesLess a.toList b.toList||a.toList==b.toList)
 | .geq=> !(Op.bytesLess a.toList b.toList)
 |_=>false
def AA(op:BinOp)(a b:Bool):Bool:=
 match op with
 | .eql=>a==b
 | .neq=> !(a==b)
 |_=>false
inductive Tg where
 |ja|ix|off|bA|aG|iY|AA|not|and|cat|byte|sub|conv|nat|xy|cut|sC|lq|imax|iq
abbrev Tg.T:Tg->Type
 | .ja=>Option Addr->Int->Nat->Addr
 | .ix=>Nat->Int->Nat->Nat
 | .off=>Addr->Nat->Addr
 | .bA=>BinOp->IntKind->Int->Int->Int
 | .aG=>BinOp->Int->Int->Bool
 | .iY=>BinOp->ByteArray->ByteArray->Bool
 | .AA=>BinOp->Bool->Bool->Bool
 | .not=>Bool->Bool
 | .and=>Bool->Bool->Bool
 | .cat=>ByteArray->ByteArray->ByteArray
 | .byte=>ByteArray->Int->Int
 | .sub=>ByteArray->Int->Int->ByteArray
 | .conv=>IntKind->Int->Int
 | .nat=>Nat->Int
 | .xy=>Option Addr->Bool
 | .cut=>Option Addr->Int->Int->Nat->Option Addr
 | .sC=>Int->Int->Nat
 | .lq=>Int->Int->Int
 | .imax=>Int->Int->Int
 | .iq=>ByteArray->Int
abbrev Ar:=(t:Tg)->t.T
def Ar.ja(A:Ar):Option Addr->Int->Nat->Addr:=A .ja
def Ar.ix(A:Ar):Nat->Int->Nat->Nat:=A .ix
def Ar.off(A:Ar):Addr->Nat->Addr:=A .off
def Ar.bA(A:Ar):BinOp->IntKind->Int->Int->Int:=A .bA
def Ar.aG(A:Ar):BinOp->Int->Int->Bool:=A .aG
def Ar.iY(A:Ar):BinOp->ByteArray->ByteArray->Bool:=A .iY
def Ar.AA(A:Ar):BinOp->Bool->Bool->Bool:=A .AA
def Ar.not(A:Ar):Bool->Bool:=A .not
def Ar.and(A:Ar):Bool->Bool->Bool:=A .and
def Ar.cat(A:Ar):ByteArray->ByteArray->ByteArray:=A .cat
def Ar.byte(A:Ar):ByteArray->Int->Int:=A .byte
def Ar.sub(A:Ar):ByteArray->Int->Int->ByteArray:=A .sub
def Ar.conv(A:Ar):IntKind->Int->Int:=A .conv
def Ar.nat(A:Ar):Nat->Int:=A .nat
def Ar.xy(A:Ar):Option Addr->Bool:=A .xy
def Ar.cut(A:Ar):Option Addr->Int->Int->Nat->Option Addr:=A .cut
def Ar.sC(A:Ar):Int->Int->Nat:=A .sC
def Ar.lq(A:Ar):Int->Int->Int:=A .lq
def Ar.imax(A:Ar):Int->Int->Int:=A .imax
def Ar.iq(A:Ar):ByteArray->Int:=A .iq
class aV (A:Ar):Prop where
 ja:A .ja=Sx.ja
 ix:A .ix=fun o i n=>o+i.toNat*n
 off:A .off=fun a n=>a.add n
 bA:A .bA=Sx.bA
 aG:A .aG=Sx.aG
 iY:A .iY=Sx.iY
 AA:A .AA=Sx.AA
 not:A .not=fun b=> !b
 and:A .and=fun a b=>a&&b
 cat:A .cat=fun a b=>a++b
 byte:A .byte=fun s i=>((s.data.getD i.toNat 0).toNat:Int)
 sub:A .sub=fun s l h=>s.extract l.toNat h.toNat
 conv:A .conv=fun k n=>k.wrap n
 nat:A .nat=Int.ofNat
 xy:A .xy=fun a=>a.isNone
 cut:A .cut=fun a l m size=>if m=l then a else a.map (·.add (l.toNat*size))
 sC:A .sC=fun h l=>(h-l).toNat
 lq:A .lq=fun a b=>min a b
 imax:A .imax=fun a b=>max a b
 iq:A .iq=fun s=>(s.size:Int)
def Ar.qb:Ar
 | .ja=>Sx.ja
 | .ix=>fun o i n=>o+i.toNat*n
 | .off=>fun a n=>a.add n
 | .bA=>Sx.bA
 | .aG=>Sx.aG
 | .iY=>Sx.iY
 | .AA=>Sx.AA
 | .not=>fun b=> !b
 | .and=>fun a b=>a&&b
 | .cat=>fun a b=>a++b
 | .byte=>fun s i=>((s.data.getD i.toNat 0).toNat:Int)
 | .sub=>fun s l h=>s.extract l.toNat h.toNat
 | .conv=>fun k n=>k.wrap n
 | .nat=>Int.ofNat
 | .xy=>fun a=>a.isNone
 | .cut=>fun a l m size=>if m=l then a else a.map (·.add (l.toNat*size))
 | .sC=>fun h l=>(h-l).toNat
 | .lq=>fun a b=>min a b
 | .imax=>fun a b=>max a b
 | .iq=>fun s=>(s.size:Int)
inductive Kd where
 |none
 |h4
 |bool
 |int (k:IntKind)
 |str
 |cS (fs:List (Nat×Nat))
 |arr (n e:Nat)
 |mu (e:Nat)
 |mp (k e:Nat)
 |ptr (e:Nat)
 |fn
 |ib
 deriving Inhabited
structure Ti where
 flat:Bool
 agg:Bool
 size:Nat
 bytes:Nat
 zero:List Value
 kd:Kd
def Ti.none:Ti:=⟨false,false,0,0,[],.none⟩
def mB:TypeDesc->Kd
 | .bool=>.bool
 | .int k=>.int k
 | .string=>.str
 | .struct fs=>.cS (fs.toList.map fun f=>(f.type,f.offset))
 | .array n e=>.arr n e
 | .slice e=>.mu e
 | .map k e=>.mp k e
 | .pointer e=>.ptr e
 | .func .. =>.fn
 | .interface _=>.ib
 |_=>.h4
def Eg(P:Program)(t:TypeId):TypeDesc->Bool
 | .struct fs=> !P.eqGuardType P.depth t&& !P.stoodInHeld t&&(fs.toList.zipIdx.all fun(f,i)=>f.offset==i&&decide (f.name≠ "_")&&(match P.info? f.type,P.underlying f.type with
  |some i,some .bool|some i,some (.int _) |some i,some .string=>i.size==1
  |_,_=>false))
 |_=>false
def Ts(P:Program)(t:TypeId):Ti:=
 match P.info? t,P.underlying t with
 |some i,some d=>
  match i.zero with
  |some z=>⟨Eg P t d,match d with| .struct _| .array _ _=>true|_=>false,i.size,i.bytes,z.cells.toList,mB d⟩
  |none=>.none
 |_,_=>.none
inductive pF where
 |done
 |aa (i:Nat) (rest:pF)
 |aq (i:Nat) (pins:List Nat) (rest:pF)
 |fork (l r:pF)
 deriving Inhabited
inductive SV where
 |v (x:Value)
 |loc (s off:Nat)
 |u
 deriving Inhabited
structure aU where
 ty:Nat->Ti
 fn:Nat->Bool
 aA:Nat->pF
 bm:Nat->Bool
 nd:Nat->Bool:=fun _=>false
 rs:List Nat:=[]
 kp:List PanicEntry->List SV->ad->Prop:=fun _ _ _=>False
structure dU(P:Program)(T:aU):Prop where
 ty:∀t,T.ty t=Ts P t\/T.ty t=.none
 fn:∀f,T.fn f=true->∃fn,P.funcs[f]? =some fn/\fn.body.isSome=true/\fn.name≠ "runtime.NumGoroutine"
 mixed:P.follows .mixedOrders=true
abbrev Env:=List SV
abbrev Loc:=List (Nat×List Value)
def iM:Loc->Nat->Option (List Value)
 | [],_=>none
 | (s,c)::r,t=>if s=t then some c else iM r t
def Gf:Loc->Nat->List Value->Loc
 | [],_,_=>[]
 | (s,c)::r,t,d=>if s=t then(s,d)::r else(s,c)::Gf r t d
def kE(env:Env):Operand->SV
 | .tmp t=>env.getD t .u
 | .const v=>.v v
 | .global g=>.v (.pointer (some ⟨g,0,none⟩))
 | .func f=>.v (.func (.func f) #[] #[])
def kG:List SV->Option (List Value)
 | []=>some []
 | .v x::r=>match kG r with
  |some l=>some (x::l)
  |none=>none
 |_::_=>none
structure nQ(p:Unit->Prop)(k:Unit->Prop):Prop where
 h:p ()
 out:k ()
def EV(h:ad)(a:Addr)(n:Nat)(cs:List Value):Prop:=
 a.spot=none/\cs.length=n/\∃c e fr,h a.block=some (.cells c e fr)/\∀i,i<n->c[a.off+i]? =cs[i]?
structure tq(h:ad)(a:Addr)(n:Nat)(k:List Value->Prop):Prop where
 out:∃cs,EV h a n cs/\k cs
def HT:Bool->(Unit->Prop)->(Unit->Prop)->Prop
 |true,a,_=>a ()
 |false,_,b=>b ()
def takeN(c:List Value)(off n:Nat):Option (List Value):=
 if off+n<=c.length then some ((c.drop off).take n)else none
def ff(c:List Value)(off:Nat):List Value->List Value
 | []=>c
 |x::r=>ff (c.set off x) (off+1) r
structure tp(p:Unit->Program)(s:Unit->Sem Value)(k:Value->Prop):Prop where
 out:∃v,(∀w,(s ()).run (p ()) w=.ok v w)/\k v
structure dq(p:Unit->Program)(s:Unit->Sem Value)(h:ad)(k:Value->ad->Prop):Prop where
 out:∀w,uc h w->∃v w' h',(s ()).run (p ()) w=.ok v w'/\k v h'/\aY h w h' w'
def wy(g:FuncId)(args:List Value):Sem Value:=do
 match <-callFunc g args.toArray with
 | .value v=>pure v
 |_=>stuck ""
def P6(A:Ar)(op:BinOp):Value->Value->Option Value
 | .int k a,.int k' b=>
  match op with
  | .add| .sub| .mul| .and| .or| .xor| .andNot=>if k=k' then some (.int k (A.bA op k a b))else none
  | .eql| .neq| .lss| .leq| .gtr| .geq=>if k=k' then some (.bool (A.aG op a b))else none
  |_=>none
 | .string a,.string b=>
  match op with
  | .eql| .neq| .lss| .leq| .gtr| .geq=>some (.bool (A.iY op a b))
  |_=>none
 |_,_=>none
def Cw(A:Ar)(op:BinOp)(a b:Value)(k:Value->Prop)(PH:Unit->Prop):Prop:=
 match a with
 | .int ka x=>match b with
  | .int kb y=>match op with
   | .quo| .rem=>match decide (ka=kb)with
    |true=>nQ (fun _=>y≠0) (fun _=>k (.int ka (A.bA op ka x y)))
    |false=>PH ()
   | .shl| .shr=>nQ (fun _=>0<=y) (fun _=>k (.int ka (A.bA op ka x y)))
   |_=>PH ()
  |_=>PH ()
 | .string x=>match b with
  | .string y=>match op with
   | .add=>nQ (fun _=>((x.size+y.size:Nat):Int)<=2^62) (fun _=>k (.string (A.cat x y)))
   |_=>PH ()
  |_=>PH ()
 |_=>PH ()
def one:Value->Bool
 | .agg _| .tuple _=>false
 |_=>true
def jo:List Value->Bool
 | []=>true
 |x::r=>match one x with
  |true=>jo r
  |false=>false
def wv(place:Nat->Option (Nat×Nat))(cells:List Value):List (Nat×Value)->Option (List Value)
 | []=>some cells
 | (i,v)::rest=>
  match place i with
  |none=>none
  |some (off,size)=>
   if v.cells.toList.length≠size||off+v.cells.toList.length>cells.length then none
   else wv place (ff cells off v.cells.toList) rest
def gU(A:Ar)(ty:Nat->Ti):List (Nat×Nat)->List Value->List Value->Option Bool
 | [],[],[]=>some true
 | (t,_)::fs,x::r,y::q=>match (ty t).kd with
  | .int _=>match x with
   | .int k a=>match y with
    | .int k' b=>match decide (k=k')with
     |true=>match gU A ty fs r q with
      |some t=>some (A.and (A.aG .eql a b) t)
      |none=>none
     |false=>none
    |_=>none
   |_=>none
  | .str=>match x with
   | .string a=>match y with
    | .string b=>match gU A ty fs r q with
     |some t=>some (A.and (A.iY .eql a b) t)
     |none=>none
    |_=>none
   |_=>none
  | .bool=>match x with
   | .bool a=>match y with
    | .bool b=>match gU A ty fs r q with
     |some t=>some (A.and (A.AA .eql a b) t)
     |none=>none
    |_=>none
   |_=>none
  |_=>none
 |_,_,_=>none
def neg(A:Ar)(op:BinOp)(b:Bool):Option Value:=
 match op with
 | .eql=>some (.bool b)
 | .neq=>some (.bool (A.not b))
 |_=>none
def Wq(A:Ar)(ty:Nat->Ti)(i:Ti)(op:BinOp)(x y:Value):Option Value:=
 match i.kd with
 | .mu _=>match x with
  | .slice b _ _=>match y with
   | .slice none _ _=>neg A op (A.xy b)
   |_=>none
  |_=>none
 | .bool=>match x with
  | .bool a=>match y with
   | .bool b=>neg A op (A.AA .eql a b)
   |_=>none
  |_=>none
 | .cS fs=>match i.flat with
  |true=>match x with
   | .agg a=>match y with
    | .agg b=>match gU A ty fs a.toList b.toList with
     |some t=>neg A op t
     |none=>none
    |_=>none
   |_=>none
  |false=>none
 |_=>none
def jV(ρ:Operand->SV):List (Nat×Operand)->Option (List (Nat×Value))
 | []=>some []
 | (i,x)::r=>match ρ x,jV ρ r with
  | .v y,some l=>some ((i,y)::l)
  |_,_=>none
def Kd.isNone:Kd->Bool
 | .none=>true
 |_=>false
def placesOf(T:aU):List (Nat×Nat)->Option (List (Nat×Nat))
 | []=>some []
 | (t,off)::r=>match (T.ty t).kd.isNone,placesOf T r with
  |false,some l=>some ((off,(T.ty t).size)::l)
  |_,_=>none
def Ev(T:aU)(zero:List Value)(ps:List (Nat×Value)):Kd->Option (List Value)
 | .cS fs=>match placesOf T fs with
  |some l=>wv (fun i=>l[i]?) zero ps
  |none=>none
 | .arr _ e=>match (T.ty e).kd.isNone with
  |false=>wv (fun i=>some (i*(T.ty e).size,(T.ty e).size)) zero ps
  |true=>none
 |_=>none
def NQ(ρ:Operand->SV):Option Operand->Option (Option Int)
 |none=>some none
 |some x=>match ρ x with
  | .v (.int _ n)=>some (some n)
  |_=>none
def vd(A:Ar)(b:Option Addr)(len cap size:Nat)(l hh m:Option Int)(k:Value->Prop):Prop:=
 match m with
 |none=>match hh with
  |none=>match l with
   |none=>k (.slice b len cap)
   |some l=>nQ (fun _=>0<=l/\l<=(len:Int)) (fun _=>k (.slice (A.cut b l (A.nat cap) size) (A.sC (A.nat len) l) (A.sC (A.nat cap) l)))
  |some q=>match l with
   |none=>nQ (fun _=>0<=q/\q<=(cap:Int)) (fun _=>k (.slice (A.cut b 0 (A.nat cap) size) (A.sC q 0) cap))
   |some l=>nQ (fun _=>0<=q/\q<=(cap:Int)/\0<=l/\l<=q) (fun _=>k (.slice (A.cut b l (A.nat cap) size) (A.sC q l) (A.sC (A.nat cap) l)))
 |some m=>match hh with
  |none=>False
  |some q=>match l with
   |none=>nQ (fun _=>0<=m/\m<=(cap:Int)/\0<=q/\q<=m) (fun _=>k (.slice (A.cut b 0 m size) (A.sC q 0) (A.sC m 0)))
   |some l=>nQ (fun _=>0<=m/\m<=(cap:Int)/\0<=q/\q<=m/\0<=l/\l<=q) (fun _=>k (.slice (A.cut b l m size) (A.sC q l) (A.sC m l)))
def ve(A:Ar)(s:ByteArray)(l hh:Option Int)(k:Value->Prop):Prop:=
 match hh with
 |none=>match l with
  |none=>k (.string s)
  |some l=>nQ (fun _=>0<=l/\l<=(s.size:Int)) (fun _=>k (.string (A.sub s l (A.iq s))))
 |some q=>match l with
  |none=>nQ (fun _=>0<=q/\q<=(s.size:Int)) (fun _=>k (.string (A.sub s 0 q)))
  |some l=>nQ (fun _=>0<=q/\q<=(s.size:Int)/\0<=l/\l<=q) (fun _=>k (.string (A.sub s l q)))
def iP(T:aU)(o:Oper):Bool:=
 match o.op with
 | .convert s d _=>match (T.ty s).kd with
  | .mu _=>false
  | .ptr _=>false
  |_=>match (T.ty d).kd with
   | .mu _=>false
   |_=>true
 | .move _| .pick .. | .build .. | .load .. | .nilCheck _| .binOp .. | .unOp .. | .makeInterface .. | .makeFunc .. | .slice .. | .fieldAddr .. | .field .. | .indexAddr .. | .index .. | .extract .. | .typeAssert .. =>true
 | .alloc _| .box .. =>match o.dst with
  |some d=> !T.bm d
  |none=>false
 | .call { callee:=.builtin b, .. }=>match b with
  | .len| .cap| .min| .max=>true
  |_=>false
 |_=>false
def nK(agg:Bool)(cs:List Value)(k:Value->Prop):Prop:=
 match agg with
 |true=>k (.agg cs.toArray)
 |false=>match cs with
  |x::_=>k x
  | []=>False
def fD(A:Ar)(T:aU)(p:Unit->Program)(o:Oper)(ρ:Operand->SV)(L:Loc)(h:ad)(k:SV->Option (List Value)->Prop):Prop:=
 match o.op with
 | .move x=>k (ρ x) none
 | .pick c a b=>match ρ c with
  | .v (.bool true)=>k (ρ a) none
  | .v (.bool false)=>k (ρ b) none
  |_=>False
 | .alloc e=>match (T.ty e).kd.isNone with
  |true=>False
  |false=>match o.dst with
   |none=>False
   |some d=>match iM L d with
    |none=>k (.loc d 0) (some (T.ty e).zero)
    |some _=>False
 | .box _ x=>match o.dst with
  |none=>False
  |some d=>match ρ x with
   | .v v=>match iM L d with
    |none=>k (.loc d 0) (some v.cells.toList)
    |some _=>False
   |_=>False
 | .load t a=>match (T.ty t).kd.isNone with
  |true=>False
  |false=>match ρ a with
   | .loc s off=>match iM L s with
    |some c=>match takeN c off (T.ty t).size with
     |some cs=>nK (T.ty t).agg cs (fun x=>k (.v x) none)
     |none=>False
    |none=>False
   | .v (.pointer (some x))=>tq h x (T.ty t).size (fun cs=>nK (T.ty t).agg cs (fun x=>k (.v x) none))
   |_=>False
 | .nilCheck x=>match ρ x with
  | .loc s off=>k (.loc s off) none
  | .v (.pointer (some a))=>k (.v (.pointer (some a))) none
  |_=>False
 | .fieldAddr t x f=>match (T.ty t).kd with
  | .cS fs=>match fs[f]? with
   |some (ft,off)=>match (T.ty ft).kd.isNone with
    |true=>False
    |false=>match (T.ty ft).size with
     |0=>False
     |_+1=>match ρ x with
      | .loc s o=>k (.loc s (o+off)) none
      | .v (.pointer (some a))=>k (.v (.pointer (some (A.off a off)))) none
      |_=>False
   |none=>False
  |_=>False
 | .indexAddr t x i=>match ρ i with
  | .v (.int _ n)=>match (T.ty t).kd with
   | .mu e=>match (T.ty e).kd.isNone with
    |true=>False
    |false=>match ρ x with
     | .v (.slice b len _)=>nQ (fun _=>b.isSome=true/\0<=n/\n<(len:Int)) (fun _=>k (.v (.pointer (some (A.ja b n (T.ty e).size)))) none)
     |_=>False
   | .arr m e=>match (T.ty e).kd.isNone with
    |true=>False
    |false=>match ρ x with
     | .loc s off=>nQ (fun _=>0<=n/\n<(m:Int)) (fun _=>k (.loc s (A.ix off n (T.ty e).size)) none)
     | .v (.pointer (some a))=>nQ (fun _=>0<=n/\n<(m:Int)) (fun _=>k (.v (.pointer (some (A.ja (some a) n (T.ty e).size)))) none)
     |_=>False
   |_=>False
  |_=>False
 | .index t x i=>match ρ i with
  | .v (.int _ n)=>match (T.ty t).kd with
   | .str=>match ρ x with
    | .v (.string s)=>nQ (fun _=>0<=n/\n<(s.size:Int)) (fun _=>k (.v (.int .u8 (A.byte s n))) none)
    |_=>False
   |_=>False
  |_=>False
 | .field t x f=>match (T.ty t).kd with
  | .cS fs=>match fs[f]? with
   |some (ft,off)=>match (T.ty ft).kd.isNone with
    |true=>False
    |false=>match ρ x with
     | .v (.agg cs)=>match takeN cs.toList off (T.ty ft).size with
      |some ds=>nK (T.ty ft).agg ds (fun x=>k (.v x) none)
      |none=>False
     |_=>False
   |none=>False
  |_=>False
 | .extract x i=>match ρ x with
  | .v (.tuple vs)=>match vs.toList[i]? with
   |some v=>k (.v v) none
   |none=>False
  |_=>False
 | .build t parts=>match (T.ty t).kd.isNone with
  |true=>False
  |false=>match jV ρ parts.toList with
   |some ps=>match Ev T (T.ty t).zero ps (T.ty t).kd with
    |some cs=>k (.v (.agg cs.toArray)) none
    |none=>False
   |none=>False
 | .binOp op t x y _=>match ρ x with
  | .v a=>match ρ y with
   | .v b=>match P6 A op a b with
    |some r=>k (.v r) none
    |none=>match Wq A T.ty (T.ty t) op a b with
     |some r=>k (.v r) none
     |none=>Cw A op a b (fun r=>k (.v r) none) (fun _=>tp p (fun _=>do eqGuard op t x y a b;binOp op t a b) (fun r=>k (.v r) none))
   |_=>False
  |_=>False
 | .unOp op _ x=>match ρ x with
  | .v (.bool b)=>match op with
   | .not=>k (.v (.bool (A.not b))) none
   |_=>False
  | .v (.int kd n)=>match op with
   | .neg=>k (.v (.int kd (A.bA .sub kd 0 n))) none
   |_=>False
  |_=>False
 | .convert src dst x=>match ρ x with
  | .v (.int j n)=>match (T.ty dst).kd with
   | .int kd=>match (T.ty src).kd with
    | .int _=>k (.v (.int kd (A.conv kd n))) none
    |_=>False
   |_=>tp p (fun _=>Go.convert src dst (.int j n)) (fun r=>k (.v r) none)
  | .v a=>tp p (fun _=>Go.convert src dst a) (fun r=>k (.v r) none)
  |_=>False
 | .makeInterface t x=>match (T.ty t).kd with
  | .ib=>False
  | .none=>False
  |_=>match ρ x with
   | .v v=>k (.v (.iface t v)) none
   |_=>False
 | .makeFunc fn f c=>match kG (f.toList.map ρ)with
  |some fs=>match kG (c.toList.map ρ)with
   |some cs=>k (.v (.func fn fs.toArray cs.toArray)) none
   |none=>False
  |none=>False
 | .slice t x lo hi mx=>match NQ ρ lo,NQ ρ hi,NQ ρ mx with
  |some l,some hh,some m=>match (T.ty t).kd with
   | .mu e=>match (T.ty e).kd.isNone with
    |true=>False
    |false=>match ρ x with
     | .v (.slice b len cap)=>vd A b len cap (T.ty e).size l hh m (fun r=>k (.v r) none)
     |_=>False
   | .str=>match ρ x with
    | .v (.string s)=>match m with
     |none=>ve A s l hh (fun r=>k (.v r) none)
     |some _=>False
    |_=>False
   |_=>False
  |_,_,_=>False
 | .call { callee:=.builtin b,args,argTypes }=>match b with
  | .len=>match argTypes[0]? with
   |some t=>match kG (args.toList.map ρ)with
    |some [.slice _ n _]=>match (T.ty t).kd with
     | .mu _=>k (.v (.int .i64 (A.nat n))) none
     |_=>False
    |some [.string s]=>match (T.ty t).kd with
     | .str=>k (.v (.int .i64 (A.iq s))) none
     |_=>False
    |_=>False
   |none=>False
  | .cap=>match argTypes[0]? with
   |some t=>match kG (args.toList.map ρ)with
    |some [.slice _ _ n]=>match (T.ty t).kd with
     | .mu _=>k (.v (.int .i64 (A.nat n))) none
     |_=>False
    |_=>False
   |none=>False
  | .min=>match kG (args.toList.map ρ)with
   |some [.int kd a,.int _ b]=>k (.v (.int kd (A.lq a b))) none
   |_=>False
  | .max=>match kG (args.toList.map ρ)with
   |some [.int kd a,.int _ b]=>k (.v (.int kd (A.imax a b))) none
   |_=>False
  |_=>False
 | .typeAssert x q as ok=>match ρ x with
  | .v a=>tp p (fun _=>Instr.typeAssert a q as ok) (fun r=>k (.v r) none)
  |_=>False
 |_=>False
structure CI(h:ad)(a:Addr)(cs:List Value)(k:ad->Prop):Prop where
 out:∃c e fr,a.spot=none/\h a.block=some (.cells c e fr)/\a.off+cs.length<=c.size/\(∀i,i<cs.length->¬(fr.1<=a.off+i/\a.off+i<fr.2))/\
  ∀h',h'=bp h a.block (.cells (ff c.toList a.off cs).toArray e fr)->k h'
def SN(h:ad)(b:Option Addr)(n:Nat)(cs:List Value):Prop:=
 (n=0/\cs=[])\/∃a,b=some a/\EV h a n cs
def R5(h:ad)(b:Option Addr)(cs:List Value)(k:ad->Prop):Prop:=
 (cs=[]/\k h)\/∃a,b=some a/\CI h a cs k
def fq(n:Nat)(z:List Value):List Value:=(List.replicate n z).flatten
structure wZ(h:ad)(b:Option Addr)(len cap n size bytes e:Nat)(new:List Value)(k:Value->ad->Prop):Prop where
 one:jo new=true
 fits:len+n<=cap->R5 h (b.map (·.add (len*size))) new (fun h'=>k (.slice b (len+n) cap) h')
 RE:cap<len+n->2*(len+n)*bytes<=2^48/\len+n<=2^48/\∃JP,SN h b (len*size) JP/\
  ∀nb c h' rest,h nb=none->len+n<=c->rest.length=(c-(len+n))*size->h'=bp h nb (.cells (JP++new++rest).toArray e (0,0))->k (.slice (some ⟨nb,0,none⟩) (len+n) c) h'
structure R8(h:ad)(b:Option Addr)(len cap n size bytes e:Nat)(z:List Value)(k:Value->ad->Prop):Prop where
 out:wZ h b len cap n size bytes e (fq n z) k
structure gD(h:ad)(b:Option Addr)(len cap:Nat)(x:Option Addr)(n size bytes e:Nat)(k:Value->ad->Prop):Prop where
 out:∃new,SN h x (n*size) new/\wZ h b len cap n size bytes e new k
structure pP(h:ad)(e:Nat)(l c:Int)(bytes:Nat)(z:List Value)(k:Value->ad->Prop):Prop where
 len:0<=l/\l<=c
 room:c<=2^48/\(bytes:Int)*c<=2^48
 out:∀nb h',h nb=none->h'=bp h nb (.cells (fq c.toNat z).toArray e (0,0))->k (.slice (some ⟨nb,0,none⟩) l.toNat c.toNat) h'
structure wY(h:ad)(b:Option Addr)(len:Nat)(x:Option Addr)(n size:Nat)(k:Value->ad->Prop):Prop where
 out:∃cs,SN h x (min n len*size) cs/\jo cs=true/\R5 h b cs (fun h'=>k (.int .i64 ((min n len:Nat):Int)) h')
structure qG(h:ad)(b:Option Addr)(len:Nat)(z:List Value)(k:ad->Prop):Prop where
 one:jo z=true
 out:R5 h b (fq len z) k
def hx(A:Ar)(T:aU)(p:Unit->Program)(o:Oper)(ρ:Operand->SV)(L:Loc)(h:ad)(k:SV->Loc->ad->Prop):Prop:=
 match o.op with
 | .assign x=>k (ρ x) L h
 | .store t a x=>match (T.ty t).kd.isNone with
  |true=>False
  |false=>match ρ x with
   | .v v=>match v.cells.toList.length==(T.ty t).size with
    |false=>False
    |true=>match jo v.cells.toList with
     |false=>False
     |true=>match ρ a with
      | .loc s off=>match iM L s with
       |some c=>match decide (off+v.cells.toList.length<=c.length)with
        |true=>k (.v undef) (Gf L s (ff c off v.cells.toList)) h
        |false=>False
       |none=>False
      | .v (.pointer (some y))=>CI h y v.cells.toList (fun h'=>k (.v undef) L h')
      |_=>False
   |_=>False
 | .alloc e=>match (T.ty e).kd.isNone with
  |true=>False
  |false=>∀n h',h n=none->h'=bp h n (.cells (T.ty e).zero.toArray e (0,0))->k (.v (.pointer (some ⟨n,0,none⟩))) L h'
 | .box e x=>match ρ x with
  | .v v=>∀n h',h n=none->h'=bp h n (.cells v.cells e (0,0))->k (.v (.pointer (some ⟨n,0,none⟩))) L h'
  |_=>False
 | .buildSlice t len parts=>match (T.ty t).kd with
  | .mu e=>match (T.ty e).kd.isNone with
   |true=>False
   |false=>match jV ρ parts.toList with
    |some ps=>match decide (len*(T.ty e).size<=2^24),(T.ty e).zero.length==(T.ty e).size with
     |true,true=>match wv (fun i=>some (i*(T.ty e).size,(T.ty e).size)) (fq len (T.ty e).zero) ps with
      |some cs=>∀n h',h n=none->h'=bp h n (.cells cs.toArray e (0,0))->k (.v (.slice (some ⟨n,0,none⟩) len len)) L h'
      |none=>False
     |_,_=>False
    |none=>False
  |_=>False
 | .makeSlice t l c=>match (T.ty t).kd with
  | .mu e=>match (T.ty e).kd.isNone with
   |true=>False
   |false=>match ρ l with
    | .v (.int _ l)=>match ρ c with
     | .v (.int _ c)=>match (T.ty e).zero.length==(T.ty e).size with
      |true=>pP h e l c (T.ty e).bytes (T.ty e).zero (fun x h'=>k (.v x) L h')
      |false=>False
     |_=>False
    |_=>False
  |_=>False
 | .makeMap t r=>match r with
  |none=>∀n h',h n=none->h'=bp h n (.map #[] 0)->k (.v (.map (some n))) L h'
  |some _=>False
 | .call { callee:=.value f,args, .. }=>match ρ f with
  | .v (.func (.func g) first cap)=>match kG (args.toList.map ρ)with
   |some as=>match T.fn g with
    |true=>match T.nd g with
     |true=>CK p g (first.toList++as++cap.toList) h (fun r h'=>k (.v r) L h') (fun c h'=>T.kp c (T.rs.map fun t=>ρ (.tmp t)) h')
     |false=>IC p g (first.toList++as++cap.toList) h (fun r h'=>k (.v r) L h')
    |false=>dq p (fun _=>wy g (first.toList++as++cap.toList)) h (fun r h'=>k (.v r) L h')
   |none=>False
  | .v (.func (.yield l) first _)=>match kG (args.toList.map ρ)with
   |some as=>Qj p l (first.toList++as) h (fun r h'=>k (.v r) L h')
   |none=>False
  |_=>False
 | .call { callee:=.builtin b,args,argTypes }=>match b with
  | .append=>match argTypes[0]?,argTypes[1]? with
   |some t,some u=>match (T.ty t).kd with
    | .mu e=>match (T.ty e).kd.isNone with
     |true=>False
     |false=>match (T.ty e).zero.length==(T.ty e).size with
      |false=>False
      |true=>match kG (args.toList.map ρ)with
       |some [.slice b len cap,.slice x n _]=>match (T.ty u).kd with
        | .mu _=>gD h b len cap x n (T.ty e).size (T.ty e).bytes e (fun v h'=>k (.v v) L h')
        |_=>False
       |some [.slice b len cap,.int _ n]=>match (T.ty u).kd with
        | .int _=>nQ (fun _=>0<=n/\n<=2^48/\n*(T.ty e).bytes<=2^48) (fun _=>R8 h b len cap (A.sC n 0) (T.ty e).size (T.ty e).bytes e (T.ty e).zero (fun v h'=>k (.v v) L h'))
        |_=>False
       |_=>False
    |_=>False
   |_,_=>False
  | .copy=>match argTypes[0]? with
   |some t=>match (T.ty t).kd with
    | .mu e=>match (T.ty e).kd.isNone with
     |true=>False
     |false=>match kG (args.toList.map ρ)with
      |some [.slice b len _,.slice x n _]=>wY h b len x n (T.ty e).size (fun v h'=>k (.v v) L h')
      |_=>False
    |_=>False
   |none=>False
  | .clear=>match argTypes[0]? with
   |some t=>match (T.ty t).kd with
    | .mu e=>match (T.ty e).kd.isNone with
     |true=>False
     |false=>match (T.ty e).zero.length==(T.ty e).size with
      |false=>False
      |true=>match kG (args.toList.map ρ)with
       |some [.slice b len _]=>qG h b len (T.ty e).zero (fun h'=>k (.v (.tuple #[])) L h')
       |_=>False
    |_=>False
   |none=>False
  | .delete=>match kG (args.toList.map ρ)with
   |some as=>dq p (fun _=>Builtin.delete_ argTypes o.type as.toArray) h (fun r h'=>k (.v r) L h')
   |none=>False
  |_=>False
 | .convert src dst x=>match ρ x with
  | .v a=>dq p (fun _=>Go.convert src dst a) h (fun r h'=>k (.v r) L h')
  |_=>False
 | .lookup t x i ok=>match ρ x with
  | .v a=>match ρ i with
   | .v b=>dq p (fun _=>Instr.lookup t a b ok) h (fun r h'=>k (.v r) L h')
   |_=>False
  |_=>False
 | .mapUpdate t m i x=>match ρ m with
  | .v a=>match ρ i with
   | .v b=>match ρ x with
    | .v c=>dq p (fun _=>do Instr.mapUpdate t a b c;pure undef) h (fun _ h'=>k (.v undef) L h')
    |_=>False
   |_=>False
  |_=>False
 | .mapEntry t m i=>match ρ m with
  | .v a=>match ρ i with
   | .v b=>dq p (fun _=>Instr.mapEntry t a b) h (fun r h'=>k (.v r) L h')
   |_=>False
  |_=>False
 | .entryStore t m i x=>match ρ m with
  | .v a=>match ρ i with
   | .v b=>match ρ x with
    | .v c=>dq p (fun _=>do Instr.entryStore t a b c;pure undef) h (fun _ h'=>k (.v undef) L h')
    |_=>False
   |_=>False
  |_=>False
 | .range t x=>match ρ x with
  | .v a=>dq p (fun _=>Instr.range t a) h (fun r h'=>k (.v r) L h')
  |_=>False
 | .next it str=>match ρ it with
  | .v a=>dq p (fun _=>Instr.next a str o.type) h (fun r h'=>k (.v r) L h')
  |_=>False
 | .entry it=>match ρ it with
  | .v a=>dq p (fun _=>Instr.entry a) h (fun r h'=>k (.v r) L h')
  |_=>False
 | .insert t m i x=>match ρ m with
  | .v a=>match ρ i with
   | .v b=>match ρ x with
    | .v c=>dq p (fun _=>do Instr.mapUpdate t a b c;pure undef) h (fun _ h'=>k (.v undef) L h')
    |_=>False
   |_=>False
  |_=>False
 | .panic x=>match ρ x with
  | .v (.iface t v)=>T.kp [{ v:=.iface t v,recovered:=false }] (T.rs.map fun t=>ρ (.tmp t)) h
  |_=>False
 |_=>False
def put(env:Env)(d:Option Nat)(x:SV):Env:=
 match d with
 |some t=>env.set t x
 |none=>env
def nB(L:Loc)(d:Option Nat)(nb:Option (List Value)):Loc:=
 match d,nb with
 |some t,some c=>(t,c)::L
 |_,_=>L
def gd(ops:List Oper)(env:Env)(o:Oper)(yes no:Unit->Prop):Prop:=
 match o.guard with
 |none=>yes ()
 |some (j,want)=>match ops[j]? with
  |some oj=>match oj.dst with
   |some d=>match env.getD d .u with
    | .v (.bool b)=>match want with
     |true=>HT b yes no
     |false=>HT b no yes
    | .v (.tuple _)=>no ()
    |_=>False
   |none=>no ()
  |none=>no ()
def xZ(A:Ar)(T:aU)(p:Unit->Program)(all:List Oper)(K:Env->Loc->ad->Prop):List Oper->Env->Loc->ad->Prop
 | [],env,L,h=>K env L h
 |o::rest,env,L,h=>
  gd all env o
   (fun _=>match iP T o with
    |true=>fD A T p o (kE env) L h (fun x nb=>xZ A T p all K rest (put env o.dst x) (nB L o.dst nb) h)
    |false=>hx A T p o (kE env) L h (fun x L' h'=>xZ A T p all K rest (put env o.dst x) L' h'))
   (fun _=>xZ A T p all K rest (put env o.dst (.v undef)) L h)
def yj(T:aU)(strict:Bool)(h:ad)(L:Loc)(env:Env)(o:Oper)(rest:Unit->Prop):Prop:=
 match o.op with
 | .load t a=>match kE env a with
  | .v (.pointer (some x))=>tq h x (T.ty t).size (fun cs=>nK (T.ty t).agg cs (fun x=>nQ (fun _=>∃d,o.dst=some d/\env[d]? =some (.v x)) rest))
  | .loc s off=>match strict with
   |false=>rest ()
   |true=>match iM L s with
    |some c=>match takeN c off (T.ty t).size with
     |some cs=>nK (T.ty t).agg cs (fun x=>nQ (fun _=>∃d,o.dst=some d/\env[d]? =some (.v x)) rest)
     |none=>False
    |none=>False
  |_=>False
 |_=>rest ()
def pins(T:aU)(strict:Bool)(all:List Oper)(h:ad)(L:Loc)(env:Env):List Nat->(Unit->Prop)->Prop
 | [],k=>k ()
 |i::r,k=>match all[i]? with
  |some o=>gd all env o (fun _=>yj T strict h L env o (fun _=>pins T strict all h L env r k)) (fun _=>pins T strict all h L env r k)
  |none=>False
def dP(o:Oper):Bool:=match o.op with
 | .store .. =>true
 |_=>false
def gI(A:Ar)(T:aU)(p:Unit->Program)(all:List Oper)(K:Env->Loc->ad->Prop):pF->Env->Loc->ad->Prop
 | .done,env,L,h=>K env L h
 | .aa i rest,env,L,h=>match all[i]? with
  |some o=>gd all env o
   (fun _=>fD A T p o (kE env) L h (fun x nb=>gI A T p all K rest (put env o.dst x) (nB L o.dst nb) h))
   (fun _=>gI A T p all K rest (put env o.dst (.v undef)) L h)
  |none=>False
 | .aq i pn rest,env,L,h=>match all[i]? with
  |some o=>gd all env o
   (fun _=>hx A T p o (kE env) L h (fun x L' h'=>pins T (dP o) all h' L' (put env o.dst x) pn (fun _=>gI A T p all K rest (put env o.dst x) L' h')))
   (fun _=>gI A T p all K rest (put env o.dst (.v undef)) L h)
  |none=>False
 | .fork l r,env,L,h=>gI A T p all K l env L h/\gI A T p all K r env L h
inductive Ex where
 |normal
 |exit (id:Nat)
 |ret
def wk:Env->Env->Prop
 | [],[]=>True
 |x::r,y::q=>match y with
  | .u=>wk r q
  | .v b=>x=.v b/\wk r q
  | .loc s o=>x=.loc s o/\wk r q
 |_,_=>False
def Ok(L:Loc):Loc->Prop
 | []=>True
 | (s,c)::r=>iM L s=some c/\Ok L r
def YJ(L:Loc):Env->Prop
 | []=>True
 |x::r=>match x with
  | .loc s _=>(iM L s).isSome=true/\YJ L r
  |_=>YJ L r
structure Wk(env:Env)(L:Loc)(ig:Env)(L1:Loc):Prop where
 env:wk env ig
 loc:Ok L L1
 ok:YJ L1 ig
def IF:List Oper->List Nat
 | []=>[]
 |o::r=>match o.dst with
  |some d=>d::IF r
  |none=>IF r
def wr:Code->List Nat
 | .region _ ops _=>IF ops.toList
 | .seq a b| .cond _ a b=>wr a++wr b
 | .block _ c| .loop c=>wr c
 |_=>[]
structure aX(ws:List Nat)(body:(Ex->Env->Loc->ad->Prop)->Env->Loc->ad->Prop)(K:Ex->Env->Loc->ad->Prop)(env:Env)(L:Loc)(h:ad):Prop where
 out:∃(I:Nat->Env->Loc->ad->Prop) (n:Nat),(∃ig L1,Wk env L ig L1/\I n ig L1 h)/\
  ∀n env L h,I n env L h->body (fun e bX L' h'=>match e with
   | .normal=>∃m ig L1,m<n/\Wk bX L' ig L1/\I m ig L1 h'
   |e=>K e bX L' h') env L h
def sx(A:Ar)(T:aU)(p:Unit->Program):Code->(Ex->Env->Loc->ad->Prop)->Env->Loc->ad->Prop
 | .skip,K,env,L,h=>K .normal env L h
 | .region id ops draw,K,env,L,h=>match draw with
  |false=>xZ A T p ops.toList (fun env L h=>K .normal env L h) ops.toList env L h
  |true=>gI A T p ops.toList (fun env L h=>K .normal env L h) (T.aA id) env L h
 | .seq a b,K,env,L,h=>sx A T p a (fun e env L h=>match e with
  | .normal=>sx A T p b K env L h
  |e=>K e env L h) env L h
 | .cond c a b,K,env,L,h=>match kE env c with
  | .v (.bool t)=>HT t (fun _=>sx A T p a K env L h) (fun _=>sx A T p b K env L h)
  |_=>False
 | .block id c,K,env,L,h=>sx A T p c (fun e env L h=>match e with
  | .exit j=>if j=id then K .normal env L h else K (.exit j) env L h
  |e=>K e env L h) env L h
 | .loop c,K,env,L,h=>aX (wr c) (fun K' env L h=>sx A T p c K' env L h) K env L h
 | .exit id,K,env,L,h=>K (.exit id) env L h
 | .ret,K,env,L,h=>K .ret env L h
 |_,_,_,_,_=>False
def N0(T:aU)(env:Env)(L:Loc)(h:ad):ResultVar->(Value->Prop)->Prop
 | .tmp t,k=>match env.getD t .u with
  | .v x=>k x
  |_=>False
 | .cell a t,k=>match (T.ty t).kd,env.getD a .u with
  | .none,_=>False
  |_,.loc s off=>match iM L s with
   |some c=>match takeN c off (T.ty t).size with
    |some cs=>nK (T.ty t).agg cs k
    |none=>False
   |none=>False
  |_,.v (.pointer (some x))=>tq h x (T.ty t).size (fun cs=>nK (T.ty t).agg cs k)
  |_,_=>False
def mw(T:aU)(env:Env)(L:Loc)(h:ad):List ResultVar->(List Value->Prop)->Prop
 | [],k=>k []
 |r::rs,k=>N0 T env L h r (fun x=>mw T env L h rs (fun xs=>k (x::xs)))
def jH(l:List Value)(k:Value->Prop):Prop:=match l with
 | [x]=>k x
 |l=>k (.tuple l.toArray)
def Sp(A:Ar)(T:aU)(p:Unit->Program)(c:Code)(ntmps:Nat)(rs:List ResultVar)(args:List Value)(h:ad)(R:Value->ad->Prop):Prop:=
 sx A T p c (fun e env L h=>match e with
  | .exit _=>False
  |_=>mw T env L h rs (fun l=>jH l (fun v=>R v h))) (args.map SV.v++List.replicate (ntmps-args.length) (.v undef)) [] h
variable {P:Program}{T:aU}{A:Ar}[aV A]
structure WZ(w w':World):Prop where
 os:w'.os=w.os
 tape:w'.tape=w.tape
 output:w'.output=w.output
structure sh(P:Program)(t:TypeId)(i:Ti):Prop where
 ex:∃ti d z,P.info? t=some ti/\P.underlying t=some d/\ti.zero=some z/\
  i.agg=(match d with| .struct _| .array _ _=>true|_=>false)/\i.size=ti.size/\i.bytes=ti.bytes/\i.zero=z.cells.toList/\i.kd=mB d/\i.flat=Eg P t d
def mP(β:Nat->Nat)(L:Loc):SV->Value->Prop
 | .v x,y=>y=x
 | .loc s off,y=>(∃c,iM L s=some c)/\y=.pointer (some ⟨β s,off,none⟩)
 | .u,_=>True
structure cC(ds:List Deferred)(h0:ad)(w0:World)(β:Nat->Nat)(env:Env)(L:Loc)(h:ad)(a:Act)(w:World):Prop where
 after:aY h0 w0 h w
 loc:∀s c,iM L s=some c->w0.heap.size<=β s/\h (β s)=none/\∃e,w.heap[β s]? =some (.cells c.toArray e (0,0))
 inj:∀s s' c c',iM L s=some c->iM L s'=some c'->β s=β s'->s=s'
 size:a.tmps.size=env.length
 slot:∀t x,env[t]? =some x->mP β L x (a.tmps.getD t undef)
 defers:a.defers=ds
variable {ds:List Deferred}{h0:ad}{w0:World}{β:Nat->Nat}{env:Env}{L:Loc}{h:ad}{a:Act}{w:World}
variable {P:Program}{T:aU}{A:Ar}[aV A]
set_option maxHeartbeats 1000000 in
variable {P:Program}{T:aU}{A:Ar}[aV A]
variable {ds:List Deferred}{h0:ad}{w0:World}{β:Nat->Nat}{env:Env}{L:Loc}{h:ad}{a:Act}{w:World}
variable {P:Program}{T:aU}{A:Ar}[aV A]
variable {ds:List Deferred}{h0:ad}{w0:World}{β:Nat->Nat}{env:Env}{L:Loc}{h:ad}{a:Act}{w:World}
variable {P:Program}{T:aU}{A:Ar}[aV A]
variable {ds:List Deferred}{h0:ad}{w0:World}{β:Nat->Nat}{env:Env}{L:Loc}{h:ad}{a:Act}{w:World}
def dx(P:Program)(β:Nat->Nat)(L:Loc)(a:Act)(w:World)(o:Oper)(sv:SV):Prop:=
 ∃v,(execOp a.eval o).run P w=.ok (.value v) w/\mP β L sv v
set_option maxHeartbeats 1000000 in
variable {P:Program}{T:aU}{A:Ar}[aV A]
variable {ds:List Deferred}{h0:ad}{w0:World}{β:Nat->Nat}{env:Env}{L:Loc}{h:ad}{a:Act}{w:World}
variable {P:Program}{T:aU}{A:Ar}[aV A]
variable {ds:List Deferred}{h0:ad}{w0:World}{β:Nat->Nat}{env:Env}{L:Loc}{h:ad}{a:Act}{w:World}
def o4(Lc L uz L':Loc):Prop:=(uz=Lc/\L'=L)\/∃s c x y,iM Lc s=some x/\iM L s=some y/\uz=Gf Lc s c/\L'=Gf L s c
abbrev FW(ro:Option Nat):Fence:={ Fence.wide with round:=ro }
variable {ro:Option Nat}{n:Nat}
def ki(T:aU)(ds:List Deferred)(h0:ad)(w0:World)(Q:Exit->Act->World->Prop):Prop:=
 ∀c β env L h a w,T.kp c (T.rs.map fun t=>Sx.kE env (.tmp t)) h->cC ds h0 w0 β env L h a w->Q (.panic c) a w
set_option maxHeartbeats 2000000 in
end Go.Sx
