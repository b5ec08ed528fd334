import Derived.Orders
import Derived.OrdersIn
import Derived.TacticsIn
import Derived.RangeFuncRecord
import Derived.Sort.LoopGhostIn
import Derived.Laws.Entries
import Derived.Laws.Cells
import Derived.Laws.StructEq
import Derived.IntWalk
set_option linter.unusedVariables false
set_option linter.unusedSimpArgs false
set_option linter.unusedSectionVars false
namespace Go.Sx
abbrev ad:=Nat->Option Obj
def uc(h:ad)(w:World):Prop:=∀b o,h b=some o->w.heap[b]? =some o
structure aY(h:ad)(w:World)(h':ad)(w':World):Prop where
 os:w'.os=w.os
 tape:w'.tape=w.tape
 output:w'.output=w.output
 size:w.heap.size<=w'.heap.size
 wU:uc h' w'
 frame:∀b,b<w.heap.size->h b=none->w'.heap[b]? =w.heap[b]? /\h' b=none
def Fn(P:Program)(f:FuncId)(args:List Value)(h:ad)(R:Value->ad->Prop):Prop:=
 ∀w,uc h w->Calls P f args.toArray w fun e w'=>∃v h',e=.returned v/\R v h'/\aY h w h' w'
structure IC(p:Unit->Program)(f:FuncId)(args:List Value)(h:ad)(R:Value->ad->Prop):Prop where
 out:Fn (p ()) f args h R
structure CK(p:Unit->Program)(f:FuncId)(args:List Value)(h:ad)(R:Value->ad->Prop)(K:List PanicEntry->ad->Prop):Prop where
 out:∀w,uc h w->Calls (p ()) f args.toArray w fun e w'=>(∃v h',e=.returned v/\R v h'/\aY h w h' w')\/(∃c h',e=.panicked c/\K c h'/\aY h w h' w')
structure Qj(p:Unit->Program)(l:Nat)(args:List Value)(h:ad)(R:Value->ad->Prop):Prop where
 out:∀w,uc h w->∃fn tmps ua body,(Instr.yield l args.toArray).run (p ()) w=.ok (.round l fn tmps ua body) w/\∀n,RoundIn Fence.wide n (p ()) l fn tmps ua body w fun e w'=>∃v h',e=.returned v/\R v h'/\aY h w h' w'
def bp(h:ad)(n:Nat)(o:Obj):ad:=fun b=>if b=n then some o else h b
def ja(a:Option Addr)(i:Int)(size:Nat):Addr:=((a.getD ⟨0,0,none⟩).add (i.toNat*size))
def bA(op:BinOp)(k:IntKind)(a b:Int):Int:=
 match op with
 | .add=>k.wrap (a+b)
 | .sub=>k.wrap (a-b)
 | .mul=>k.wrap (a*b)
 | .quo=>k.wrap (a.tdiv b)
 | .rem=>a.tmod b
 | .and=>k.wrap ((BitVec.ofInt k.bits a&&& BitVec.ofInt k.bits b).toNat)
 | .or=>k.wrap ((BitVec.ofInt k.bits a|||BitVec.ofInt k.bits b).toNat)
 | .xor=>k.wrap ((BitVec.ofInt k.bits a^^^BitVec.ofInt k.bits b).toNat)
 | .andNot=>k.wrap ((BitVec.ofInt k.bits a&&& ~~~ BitVec.ofInt k.bits b).toNat)
 | .shl=>k.wrap (a*2^(min b.toNat k.bits))
 | .shr=>a.fdiv (2^(min b.toNat k.bits))
 |_=>0
def aG(op:BinOp)(a b:Int):Bool:=
 match op with
 | .eql=>a==b
 | .neq=>a !=b
 | .lss=>decide (a<b)
 | .leq=>decide (a<=b)
 | .gtr=>decide (a>b)
 | .geq=>decide (a>=b)
 |_=>false
def iY(op:BinOp)(a b:ByteArray):Bool:=
 match op with
 | .eql=>a.toList==b.toList
 | .neq=> !(a.toList==b.toList)
 | .lss=>Op.bytesLess a.toList b.toList
 | .leq=>Op.bytesLess a.toList b.toList||a.toList==b.toList
 | .gtr=> !(Op.bytesLess a.toList b.toList||a.toList==b.toList)
 | .geq=> !(Op.bytesLess a.toList b.toList)
 |_=>false
def AA(op:BinOp)(a b:Bool):Bool:=
 match op with
 | .eql=>a==b
 | .neq=> !(a==b)
 |_=>false
inductive Tg where
 |ja|ix|off|bA|aG|iY|AA|not|and|cat|byte|sub|conv|nat|xy|cut|sC|lq|imax|iq
abbrev Tg.T:Tg->Type
 | .ja=>Option Addr->Int->Nat->Addr
 | .ix=>Nat->Int->Nat->Nat
 | .off=>Addr->Nat->Addr
 | .bA=>BinOp->IntKind->Int->Int->Int
 | .aG=>BinOp->Int->Int->Bool
 | .iY=>BinOp->ByteArray->ByteArray->Bool
 | .AA=>BinOp->Bool->Bool->Bool
 | .not=>Bool->Bool
 | .and=>Bool->Bool->Bool
 | .cat=>ByteArray->ByteArray->ByteArray
 | .byte=>ByteArray->Int->Int
 | .sub=>ByteArray->Int->Int->ByteArray
 | .conv=>IntKind->Int->Int
 | .nat=>Nat->Int
 | .xy=>Option Addr->Bool
 | .cut=>Option Addr->Int->Int->Nat->Option Addr
 | .sC=>Int->Int->Nat
 | .lq=>Int->Int->Int
 | .imax=>Int->Int->Int
 | .iq=>ByteArray->Int
abbrev Ar:=(t:Tg)->t.T
def Ar.ja(A:Ar):Option Addr->Int->Nat->Addr:=A .ja
def Ar.ix(A:Ar):Nat->Int->Nat->Nat:=A .ix
def Ar.off(A:Ar):Addr->Nat->Addr:=A .off
def Ar.bA(A:Ar):BinOp->IntKind->Int->Int->Int:=A .bA
def Ar.aG(A:Ar):BinOp->Int->Int->Bool:=A .aG
def Ar.iY(A:Ar):BinOp->ByteArray->ByteArray->Bool:=A .iY
def Ar.AA(A:Ar):BinOp->Bool->Bool->Bool:=A .AA
def Ar.not(A:Ar):Bool->Bool:=A .not
def Ar.and(A:Ar):Bool->Bool->Bool:=A .and
def Ar.cat(A:Ar):ByteArray->ByteArray->ByteArray:=A .cat
def Ar.byte(A:Ar):ByteArray->Int->Int:=A .byte
def Ar.sub(A:Ar):ByteArray->Int->Int->ByteArray:=A .sub
def Ar.conv(A:Ar):IntKind->Int->Int:=A .conv
def Ar.nat(A:Ar):Nat->Int:=A .nat
def Ar.xy(A:Ar):Option Addr->Bool:=A .xy
def Ar.cut(A:Ar):Option Addr->Int->Int->Nat->Option Addr:=A .cut
def Ar.sC(A:Ar):Int->Int->Nat:=A .sC
def Ar.lq(A:Ar):Int->Int->Int:=A .lq
def Ar.imax(A:Ar):Int->Int->Int:=A .imax
def Ar.iq(A:Ar):ByteArray->Int:=A .iq
class aV (A:Ar):Prop where
 ja:A .ja=Sx.ja
 ix:A .ix=fun o i n=>o+i.toNat*n
 off:A .off=fun a n=>a.add n
 bA:A .bA=Sx.bA
 aG:A .aG=Sx.aG
 iY:A .iY=Sx.iY
 AA:A .AA=Sx.AA
 not:A .not=fun b=> !b
 and:A .and=fun a b=>a&&b
 cat:A .cat=fun a b=>a++b
 byte:A .byte=fun s i=>((s.data.getD i.toNat 0).toNat:Int)
 sub:A .sub=fun s l h=>s.extract l.toNat h.toNat
 conv:A .conv=fun k n=>k.wrap n
 nat:A .nat=Int.ofNat
 xy:A .xy=fun a=>a.isNone
 cut:A .cut=fun a l m size=>if m=l then a else a.map (·.add (l.toNat*size))
 sC:A .sC=fun h l=>(h-l).toNat
 lq:A .lq=fun a b=>min a b
 imax:A .imax=fun a b=>max a b
 iq:A .iq=fun s=>(s.size:Int)
theorem Ar.oT(A:Ar)[aV A]:A.ja=Sx.ja:=aV.ja
theorem Ar.YV(A:Ar)[aV A]:A.ix=fun o i n=>o+i.toNat*n:=aV.ix
theorem Ar.Td(A:Ar)[aV A]:A.off=fun a n=>a.add n:=aV.off
theorem Ar.qF(A:Ar)[aV A]:A.bA=Sx.bA:=aV.bA
theorem Ar.KC(A:Ar)[aV A]:A.aG=Sx.aG:=aV.aG
theorem Ar.Jp(A:Ar)[aV A]:A.iY=Sx.iY:=aV.iY
theorem Ar.Ew(A:Ar)[aV A]:A.AA=Sx.AA:=aV.AA
theorem Ar.not_eq(A:Ar)[aV A]:A.not=fun b=> !b:=aV.not
theorem Ar.and_eq(A:Ar)[aV A]:A.and=fun a b=>a&&b:=aV.and
theorem Ar.Ww(A:Ar)[aV A]:A.cat=fun a b=>a++b:=aV.cat
theorem Ar.P5(A:Ar)[aV A]:A.byte=fun s i=>((s.data.getD i.toNat 0).toNat:Int):=aV.byte
theorem Ar.sub_eq(A:Ar)[aV A]:A.sub=fun s l h=>s.extract l.toNat h.toNat:=aV.sub
theorem Ar.PO(A:Ar)[aV A]:A.conv=fun k n=>k.wrap n:=aV.conv
theorem Ar.nat_eq(A:Ar)[aV A]:A.nat=Int.ofNat:=aV.nat
theorem Ar.Kq(A:Ar)[aV A]:A.xy=fun a=>a.isNone:=aV.xy
theorem Ar.wG(A:Ar)[aV A]:A.cut=fun a l m size=>if m=l then a else a.map (·.add (l.toNat*size)):=aV.cut
theorem Ar.ta(A:Ar)[aV A]:A.sC=fun h l=>(h-l).toNat:=aV.sC
theorem Ar.OI(A:Ar)[aV A]:A.lq=fun a b=>min a b:=aV.lq
theorem Ar.OJ(A:Ar)[aV A]:A.imax=fun a b=>max a b:=aV.imax
theorem Ar.Jf(A:Ar)[aV A]:A.iq=fun s=>(s.size:Int):=aV.iq
def Ar.std:Ar
 | .ja=>Sx.ja
 | .ix=>fun o i n=>o+i.toNat*n
 | .off=>fun a n=>a.add n
 | .bA=>Sx.bA
 | .aG=>Sx.aG
 | .iY=>Sx.iY
 | .AA=>Sx.AA
 | .not=>fun b=> !b
 | .and=>fun a b=>a&&b
 | .cat=>fun a b=>a++b
 | .byte=>fun s i=>((s.data.getD i.toNat 0).toNat:Int)
 | .sub=>fun s l h=>s.extract l.toNat h.toNat
 | .conv=>fun k n=>k.wrap n
 | .nat=>Int.ofNat
 | .xy=>fun a=>a.isNone
 | .cut=>fun a l m size=>if m=l then a else a.map (·.add (l.toNat*size))
 | .sC=>fun h l=>(h-l).toNat
 | .lq=>fun a b=>min a b
 | .imax=>fun a b=>max a b
 | .iq=>fun s=>(s.size:Int)
theorem Ar.ex:∃A:Ar,aV A:=⟨Ar.std,⟨rfl,rfl,rfl,rfl,rfl,rfl,rfl,rfl,rfl,rfl,rfl,rfl,rfl,rfl,rfl,rfl,rfl,rfl,rfl,rfl⟩⟩
inductive Kd where
 |none
 |oth
 |bool
 |int (k:IntKind)
 |str
 |cS (fs:List (Nat×Nat))
 |arr (n e:Nat)
 |mu (e:Nat)
 |mp (k e:Nat)
 |ptr (e:Nat)
 |fn
 |ifc
 deriving Inhabited
structure Ti where
 flat:Bool
 agg:Bool
 size:Nat
 bytes:Nat
 zero:List Value
 kd:Kd
def Ti.none:Ti:=⟨false,false,0,0,[],.none⟩
def mB:TypeDesc->Kd
 | .bool=>.bool
 | .int k=>.int k
 | .string=>.str
 | .struct fs=>.cS (fs.toList.map fun f=>(f.type,f.offset))
 | .array n e=>.arr n e
 | .slice e=>.mu e
 | .map k e=>.mp k e
 | .pointer e=>.ptr e
 | .func .. =>.fn
 | .interface _=>.ifc
 |_=>.oth
def Eg(P:Program)(t:TypeId):TypeDesc->Bool
 | .struct fs=> !P.eqGuardType P.depth t&& !P.stoodInHeld t&&(fs.toList.zipIdx.all fun(f,i)=>f.offset==i&&decide (f.name≠ "_")&&(match P.info? f.type,P.underlying f.type with
  |some i,some .bool|some i,some (.int _) |some i,some .string=>i.size==1
  |_,_=>false))
 |_=>false
def Ts(P:Program)(t:TypeId):Ti:=
 match P.info? t,P.underlying t with
 |some i,some d=>
  match i.zero with
  |some z=>⟨Eg P t d,match d with| .struct _| .array _ _=>true|_=>false,i.size,i.bytes,z.cells.toList,mB d⟩
  |none=>.none
 |_,_=>.none
inductive pF where
 |done
 |aa (i:Nat) (rest:pF)
 |aq (i:Nat) (pins:List Nat) (rest:pF)
 |fork (l r:pF)
 deriving Inhabited
inductive SV where
 |v (x:Value)
 |loc (s off:Nat)
 |u
 deriving Inhabited
structure aU where
 ty:Nat->Ti
 fn:Nat->Bool
 aA:Nat->pF
 bm:Nat->Bool
 pan:Nat->Bool:=fun _=>false
 rs:List Nat:=[]
 kp:List PanicEntry->List SV->ad->Prop:=fun _ _ _=>False
structure dU(P:Program)(T:aU):Prop where
 ty:∀t,T.ty t=Ts P t\/T.ty t=.none
 fn:∀f,T.fn f=true->∃fn,P.funcs[f]? =some fn/\fn.body.isSome=true/\fn.name≠ "runtime.NumGoroutine"
 mixed:P.follows .mixedOrders=true
abbrev Env:=List SV
abbrev Loc:=List (Nat×List Value)
def iM:Loc->Nat->Option (List Value)
 | [],_=>none
 | (s,c)::r,t=>if s=t then some c else iM r t
def Gf:Loc->Nat->List Value->Loc
 | [],_,_=>[]
 | (s,c)::r,t,d=>if s=t then(s,d)::r else(s,c)::Gf r t d
def kE(env:Env):Operand->SV
 | .tmp t=>env.getD t .u
 | .const v=>.v v
 | .global g=>.v (.pointer (some ⟨g,0,none⟩))
 | .func f=>.v (.func (.func f) #[] #[])
def kG:List SV->Option (List Value)
 | []=>some []
 | .v x::r=>match kG r with
  |some l=>some (x::l)
  |none=>none
 |_::_=>none
structure nQ(p:Unit->Prop)(k:Unit->Prop):Prop where
 h:p ()
 out:k ()
def EV(h:ad)(a:Addr)(n:Nat)(cs:List Value):Prop:=
 a.spot=none/\cs.length=n/\∃c e fr,h a.block=some (.cells c e fr)/\∀i,i<n->c[a.off+i]? =cs[i]?
structure tq(h:ad)(a:Addr)(n:Nat)(k:List Value->Prop):Prop where
 out:∃cs,EV h a n cs/\k cs
def HT:Bool->(Unit->Prop)->(Unit->Prop)->Prop
 |true,a,_=>a ()
 |false,_,b=>b ()
def takeN(c:List Value)(off n:Nat):Option (List Value):=
 if off+n<=c.length then some ((c.drop off).take n)else none
def ff(c:List Value)(off:Nat):List Value->List Value
 | []=>c
 |x::r=>ff (c.set off x) (off+1) r
structure tp(p:Unit->Program)(s:Unit->Sem Value)(k:Value->Prop):Prop where
 out:∃v,(∀w,(s ()).run (p ()) w=.ok v w)/\k v
structure dq(p:Unit->Program)(s:Unit->Sem Value)(h:ad)(k:Value->ad->Prop):Prop where
 out:∀w,uc h w->∃v w' h',(s ()).run (p ()) w=.ok v w'/\k v h'/\aY h w h' w'
def wy(g:FuncId)(args:List Value):Sem Value:=do
 match <-callFunc g args.toArray with
 | .value v=>pure v
 |_=>stuck ""
def P6(A:Ar)(op:BinOp):Value->Value->Option Value
 | .int k a,.int k' b=>
  match op with
  | .add| .sub| .mul| .and| .or| .xor| .andNot=>if k=k' then some (.int k (A.bA op k a b))else none
  | .eql| .neq| .lss| .leq| .gtr| .geq=>if k=k' then some (.bool (A.aG op a b))else none
  |_=>none
 | .string a,.string b=>
  match op with
  | .eql| .neq| .lss| .leq| .gtr| .geq=>some (.bool (A.iY op a b))
  |_=>none
 |_,_=>none
def Cw(A:Ar)(op:BinOp)(a b:Value)(k:Value->Prop)(PH:Unit->Prop):Prop:=
 match a with
 | .int ka x=>match b with
  | .int kb y=>match op with
   | .quo| .rem=>match decide (ka=kb)with
    |true=>nQ (fun _=>y≠0) (fun _=>k (.int ka (A.bA op ka x y)))
    |false=>PH ()
   | .shl| .shr=>nQ (fun _=>0<=y) (fun _=>k (.int ka (A.bA op ka x y)))
   |_=>PH ()
  |_=>PH ()
 | .string x=>match b with
  | .string y=>match op with
   | .add=>nQ (fun _=>((x.size+y.size:Nat):Int)<=2^62) (fun _=>k (.string (A.cat x y)))
   |_=>PH ()
  |_=>PH ()
 |_=>PH ()
def one:Value->Bool
 | .agg _| .tuple _=>false
 |_=>true
def jo:List Value->Bool
 | []=>true
 |x::r=>match one x with
  |true=>jo r
  |false=>false
def wv(place:Nat->Option (Nat×Nat))(cells:List Value):List (Nat×Value)->Option (List Value)
 | []=>some cells
 | (i,v)::rest=>
  match place i with
  |none=>none
  |some (off,size)=>
   if v.cells.toList.length≠size||off+v.cells.toList.length>cells.length then none
   else wv place (ff cells off v.cells.toList) rest
def gU(A:Ar)(ty:Nat->Ti):List (Nat×Nat)->List Value->List Value->Option Bool
 | [],[],[]=>some true
 | (t,_)::fs,x::r,y::q=>match (ty t).kd with
  | .int _=>match x with
   | .int k a=>match y with
    | .int k' b=>match decide (k=k')with
     |true=>match gU A ty fs r q with
      |some t=>some (A.and (A.aG .eql a b) t)
      |none=>none
     |false=>none
    |_=>none
   |_=>none
  | .str=>match x with
   | .string a=>match y with
    | .string b=>match gU A ty fs r q with
     |some t=>some (A.and (A.iY .eql a b) t)
     |none=>none
    |_=>none
   |_=>none
  | .bool=>match x with
   | .bool a=>match y with
    | .bool b=>match gU A ty fs r q with
     |some t=>some (A.and (A.AA .eql a b) t)
     |none=>none
    |_=>none
   |_=>none
  |_=>none
 |_,_,_=>none
def neg(A:Ar)(op:BinOp)(b:Bool):Option Value:=
 match op with
 | .eql=>some (.bool b)
 | .neq=>some (.bool (A.not b))
 |_=>none
def Wq(A:Ar)(ty:Nat->Ti)(i:Ti)(op:BinOp)(x y:Value):Option Value:=
 match i.kd with
 | .mu _=>match x with
  | .slice b _ _=>match y with
   | .slice none _ _=>neg A op (A.xy b)
   |_=>none
  |_=>none
 | .bool=>match x with
  | .bool a=>match y with
   | .bool b=>neg A op (A.AA .eql a b)
   |_=>none
  |_=>none
 | .cS fs=>match i.flat with
  |true=>match x with
   | .agg a=>match y with
    | .agg b=>match gU A ty fs a.toList b.toList with
     |some t=>neg A op t
     |none=>none
    |_=>none
   |_=>none
  |false=>none
 |_=>none
def jV(ρ:Operand->SV):List (Nat×Operand)->Option (List (Nat×Value))
 | []=>some []
 | (i,x)::r=>match ρ x,jV ρ r with
  | .v y,some l=>some ((i,y)::l)
  |_,_=>none
def Kd.isNone:Kd->Bool
 | .none=>true
 |_=>false
def placesOf(T:aU):List (Nat×Nat)->Option (List (Nat×Nat))
 | []=>some []
 | (t,off)::r=>match (T.ty t).kd.isNone,placesOf T r with
  |false,some l=>some ((off,(T.ty t).size)::l)
  |_,_=>none
def Ev(T:aU)(zero:List Value)(ps:List (Nat×Value)):Kd->Option (List Value)
 | .cS fs=>match placesOf T fs with
  |some l=>wv (fun i=>l[i]?) zero ps
  |none=>none
 | .arr _ e=>match (T.ty e).kd.isNone with
  |false=>wv (fun i=>some (i*(T.ty e).size,(T.ty e).size)) zero ps
  |true=>none
 |_=>none
def NQ(ρ:Operand->SV):Option Operand->Option (Option Int)
 |none=>some none
 |some x=>match ρ x with
  | .v (.int _ n)=>some (some n)
  |_=>none
def vd(A:Ar)(b:Option Addr)(len cap size:Nat)(l hh m:Option Int)(k:Value->Prop):Prop:=
 match m with
 |none=>match hh with
  |none=>match l with
   |none=>k (.slice b len cap)
   |some l=>nQ (fun _=>0<=l/\l<=(len:Int)) (fun _=>k (.slice (A.cut b l (A.nat cap) size) (A.sC (A.nat len) l) (A.sC (A.nat cap) l)))
  |some q=>match l with
   |none=>nQ (fun _=>0<=q/\q<=(cap:Int)) (fun _=>k (.slice (A.cut b 0 (A.nat cap) size) (A.sC q 0) cap))
   |some l=>nQ (fun _=>0<=q/\q<=(cap:Int)/\0<=l/\l<=q) (fun _=>k (.slice (A.cut b l (A.nat cap) size) (A.sC q l) (A.sC (A.nat cap) l)))
 |some m=>match hh with
  |none=>False
  |some q=>match l with
   |none=>nQ (fun _=>0<=m/\m<=(cap:Int)/\0<=q/\q<=m) (fun _=>k (.slice (A.cut b 0 m size) (A.sC q 0) (A.sC m 0)))
   |some l=>nQ (fun _=>0<=m/\m<=(cap:Int)/\0<=q/\q<=m/\0<=l/\l<=q) (fun _=>k (.slice (A.cut b l m size) (A.sC q l) (A.sC m l)))
def ve(A:Ar)(s:ByteArray)(l hh:Option Int)(k:Value->Prop):Prop:=
 match hh with
 |none=>match l with
  |none=>k (.string s)
  |some l=>nQ (fun _=>0<=l/\l<=(s.size:Int)) (fun _=>k (.string (A.sub s l (A.iq s))))
 |some q=>match l with
  |none=>nQ (fun _=>0<=q/\q<=(s.size:Int)) (fun _=>k (.string (A.sub s 0 q)))
  |some l=>nQ (fun _=>0<=q/\q<=(s.size:Int)/\0<=l/\l<=q) (fun _=>k (.string (A.sub s l q)))
def iP(T:aU)(o:Oper):Bool:=
 match o.op with
 | .convert s d _=>match (T.ty s).kd with
  | .mu _=>false
  | .ptr _=>false
  |_=>match (T.ty d).kd with
   | .mu _=>false
   |_=>true
 | .move _| .pick .. | .build .. | .load .. | .nilCheck _| .binOp .. | .unOp .. | .makeInterface .. | .makeFunc .. | .slice .. | .fieldAddr .. | .field .. | .indexAddr .. | .index .. | .extract .. | .typeAssert .. =>true
 | .alloc _| .box .. =>match o.dst with
  |some d=> !T.bm d
  |none=>false
 | .call { callee:=.builtin b, .. }=>match b with
  | .len| .cap| .min| .max=>true
  |_=>false
 |_=>false
def nK(agg:Bool)(cs:List Value)(k:Value->Prop):Prop:=
 match agg with
 |true=>k (.agg cs.toArray)
 |false=>match cs with
  |x::_=>k x
  | []=>False
def fD(A:Ar)(T:aU)(p:Unit->Program)(o:Oper)(ρ:Operand->SV)(L:Loc)(h:ad)(k:SV->Option (List Value)->Prop):Prop:=
 match o.op with
 | .move x=>k (ρ x) none
 | .pick c a b=>match ρ c with
  | .v (.bool true)=>k (ρ a) none
  | .v (.bool false)=>k (ρ b) none
  |_=>False
 | .alloc e=>match (T.ty e).kd.isNone with
  |true=>False
  |false=>match o.dst with
   |none=>False
   |some d=>match iM L d with
    |none=>k (.loc d 0) (some (T.ty e).zero)
    |some _=>False
 | .box _ x=>match o.dst with
  |none=>False
  |some d=>match ρ x with
   | .v v=>match iM L d with
    |none=>k (.loc d 0) (some v.cells.toList)
    |some _=>False
   |_=>False
 | .load t a=>match (T.ty t).kd.isNone with
  |true=>False
  |false=>match ρ a with
   | .loc s off=>match iM L s with
    |some c=>match takeN c off (T.ty t).size with
     |some cs=>nK (T.ty t).agg cs (fun x=>k (.v x) none)
     |none=>False
    |none=>False
   | .v (.pointer (some x))=>tq h x (T.ty t).size (fun cs=>nK (T.ty t).agg cs (fun x=>k (.v x) none))
   |_=>False
 | .nilCheck x=>match ρ x with
  | .loc s off=>k (.loc s off) none
  | .v (.pointer (some a))=>k (.v (.pointer (some a))) none
  |_=>False
 | .fieldAddr t x f=>match (T.ty t).kd with
  | .cS fs=>match fs[f]? with
   |some (ft,off)=>match (T.ty ft).kd.isNone with
    |true=>False
    |false=>match (T.ty ft).size with
     |0=>False
     |_+1=>match ρ x with
      | .loc s o=>k (.loc s (o+off)) none
      | .v (.pointer (some a))=>k (.v (.pointer (some (A.off a off)))) none
      |_=>False
   |none=>False
  |_=>False
 | .indexAddr t x i=>match ρ i with
  | .v (.int _ n)=>match (T.ty t).kd with
   | .mu e=>match (T.ty e).kd.isNone with
    |true=>False
    |false=>match ρ x with
     | .v (.slice b len _)=>nQ (fun _=>b.isSome=true/\0<=n/\n<(len:Int)) (fun _=>k (.v (.pointer (some (A.ja b n (T.ty e).size)))) none)
     |_=>False
   | .arr m e=>match (T.ty e).kd.isNone with
    |true=>False
    |false=>match ρ x with
     | .loc s off=>nQ (fun _=>0<=n/\n<(m:Int)) (fun _=>k (.loc s (A.ix off n (T.ty e).size)) none)
     | .v (.pointer (some a))=>nQ (fun _=>0<=n/\n<(m:Int)) (fun _=>k (.v (.pointer (some (A.ja (some a) n (T.ty e).size)))) none)
     |_=>False
   |_=>False
  |_=>False
 | .index t x i=>match ρ i with
  | .v (.int _ n)=>match (T.ty t).kd with
   | .str=>match ρ x with
    | .v (.string s)=>nQ (fun _=>0<=n/\n<(s.size:Int)) (fun _=>k (.v (.int .u8 (A.byte s n))) none)
    |_=>False
   |_=>False
  |_=>False
 | .field t x f=>match (T.ty t).kd with
  | .cS fs=>match fs[f]? with
   |some (ft,off)=>match (T.ty ft).kd.isNone with
    |true=>False
    |false=>match ρ x with
     | .v (.agg cs)=>match takeN cs.toList off (T.ty ft).size with
      |some ds=>nK (T.ty ft).agg ds (fun x=>k (.v x) none)
      |none=>False
     |_=>False
   |none=>False
  |_=>False
 | .extract x i=>match ρ x with
  | .v (.tuple vs)=>match vs.toList[i]? with
   |some v=>k (.v v) none
   |none=>False
  |_=>False
 | .build t parts=>match (T.ty t).kd.isNone with
  |true=>False
  |false=>match jV ρ parts.toList with
   |some ps=>match Ev T (T.ty t).zero ps (T.ty t).kd with
    |some cs=>k (.v (.agg cs.toArray)) none
    |none=>False
   |none=>False
 | .binOp op t x y _=>match ρ x with
  | .v a=>match ρ y with
   | .v b=>match P6 A op a b with
    |some r=>k (.v r) none
    |none=>match Wq A T.ty (T.ty t) op a b with
     |some r=>k (.v r) none
     |none=>Cw A op a b (fun r=>k (.v r) none) (fun _=>tp p (fun _=>do eqGuard op t x y a b;binOp op t a b) (fun r=>k (.v r) none))
   |_=>False
  |_=>False
 | .unOp op _ x=>match ρ x with
  | .v (.bool b)=>match op with
   | .not=>k (.v (.bool (A.not b))) none
   |_=>False
  | .v (.int kd n)=>match op with
   | .neg=>k (.v (.int kd (A.bA .sub kd 0 n))) none
   |_=>False
  |_=>False
 | .convert src dst x=>match ρ x with
  | .v (.int j n)=>match (T.ty dst).kd with
   | .int kd=>match (T.ty src).kd with
    | .int _=>k (.v (.int kd (A.conv kd n))) none
    |_=>False
   |_=>tp p (fun _=>Go.convert src dst (.int j n)) (fun r=>k (.v r) none)
  | .v a=>tp p (fun _=>Go.convert src dst a) (fun r=>k (.v r) none)
  |_=>False
 | .makeInterface t x=>match (T.ty t).kd with
  | .ifc=>False
  | .none=>False
  |_=>match ρ x with
   | .v v=>k (.v (.iface t v)) none
   |_=>False
 | .makeFunc fn f c=>match kG (f.toList.map ρ)with
  |some fs=>match kG (c.toList.map ρ)with
   |some cs=>k (.v (.func fn fs.toArray cs.toArray)) none
   |none=>False
  |none=>False
 | .slice t x lo hi mx=>match NQ ρ lo,NQ ρ hi,NQ ρ mx with
  |some l,some hh,some m=>match (T.ty t).kd with
   | .mu e=>match (T.ty e).kd.isNone with
    |true=>False
    |false=>match ρ x with
     | .v (.slice b len cap)=>vd A b len cap (T.ty e).size l hh m (fun r=>k (.v r) none)
     |_=>False
   | .str=>match ρ x with
    | .v (.string s)=>match m with
     |none=>ve A s l hh (fun r=>k (.v r) none)
     |some _=>False
    |_=>False
   |_=>False
  |_,_,_=>False
 | .call { callee:=.builtin b,args,argTypes }=>match b with
  | .len=>match argTypes[0]? with
   |some t=>match kG (args.toList.map ρ)with
    |some [.slice _ n _]=>match (T.ty t).kd with
     | .mu _=>k (.v (.int .i64 (A.nat n))) none
     |_=>False
    |some [.string s]=>match (T.ty t).kd with
     | .str=>k (.v (.int .i64 (A.iq s))) none
     |_=>False
    |_=>False
   |none=>False
  | .cap=>match argTypes[0]? with
   |some t=>match kG (args.toList.map ρ)with
    |some [.slice _ _ n]=>match (T.ty t).kd with
     | .mu _=>k (.v (.int .i64 (A.nat n))) none
     |_=>False
    |_=>False
   |none=>False
  | .min=>match kG (args.toList.map ρ)with
   |some [.int kd a,.int _ b]=>k (.v (.int kd (A.lq a b))) none
   |_=>False
  | .max=>match kG (args.toList.map ρ)with
   |some [.int kd a,.int _ b]=>k (.v (.int kd (A.imax a b))) none
   |_=>False
  |_=>False
 | .typeAssert x q as ok=>match ρ x with
  | .v a=>tp p (fun _=>Instr.typeAssert a q as ok) (fun r=>k (.v r) none)
  |_=>False
 |_=>False
structure CI(h:ad)(a:Addr)(cs:List Value)(k:ad->Prop):Prop where
 out:∃c e fr,a.spot=none/\h a.block=some (.cells c e fr)/\a.off+cs.length<=c.size/\(∀i,i<cs.length->¬(fr.1<=a.off+i/\a.off+i<fr.2))/\
  ∀h',h'=bp h a.block (.cells (ff c.toList a.off cs).toArray e fr)->k h'
def SN(h:ad)(b:Option Addr)(n:Nat)(cs:List Value):Prop:=
 (n=0/\cs=[])\/∃a,b=some a/\EV h a n cs
def R5(h:ad)(b:Option Addr)(cs:List Value)(k:ad->Prop):Prop:=
 (cs=[]/\k h)\/∃a,b=some a/\CI h a cs k
def fq(n:Nat)(z:List Value):List Value:=(List.replicate n z).flatten
structure wZ(h:ad)(b:Option Addr)(len cap n size bytes e:Nat)(new:List Value)(k:Value->ad->Prop):Prop where
 one:jo new=true
 fits:len+n<=cap->R5 h (b.map (·.add (len*size))) new (fun h'=>k (.slice b (len+n) cap) h')
 RE:cap<len+n->2*(len+n)*bytes<=2^48/\len+n<=2^48/\∃JP,SN h b (len*size) JP/\
  ∀nb c h' rest,h nb=none->len+n<=c->rest.length=(c-(len+n))*size->h'=bp h nb (.cells (JP++new++rest).toArray e (0,0))->k (.slice (some ⟨nb,0,none⟩) (len+n) c) h'
structure R8(h:ad)(b:Option Addr)(len cap n size bytes e:Nat)(z:List Value)(k:Value->ad->Prop):Prop where
 out:wZ h b len cap n size bytes e (fq n z) k
structure gD(h:ad)(b:Option Addr)(len cap:Nat)(x:Option Addr)(n size bytes e:Nat)(k:Value->ad->Prop):Prop where
 out:∃new,SN h x (n*size) new/\wZ h b len cap n size bytes e new k
structure pP(h:ad)(e:Nat)(l c:Int)(bytes:Nat)(z:List Value)(k:Value->ad->Prop):Prop where
 len:0<=l/\l<=c
 room:c<=2^48/\(bytes:Int)*c<=2^48
 out:∀nb h',h nb=none->h'=bp h nb (.cells (fq c.toNat z).toArray e (0,0))->k (.slice (some ⟨nb,0,none⟩) l.toNat c.toNat) h'
structure wY(h:ad)(b:Option Addr)(len:Nat)(x:Option Addr)(n size:Nat)(k:Value->ad->Prop):Prop where
 out:∃cs,SN h x (min n len*size) cs/\jo cs=true/\R5 h b cs (fun h'=>k (.int .i64 ((min n len:Nat):Int)) h')
structure qG(h:ad)(b:Option Addr)(len:Nat)(z:List Value)(k:ad->Prop):Prop where
 one:jo z=true
 out:R5 h b (fq len z) k
def hx(A:Ar)(T:aU)(p:Unit->Program)(o:Oper)(ρ:Operand->SV)(L:Loc)(h:ad)(k:SV->Loc->ad->Prop):Prop:=
 match o.op with
 | .assign x=>k (ρ x) L h
 | .store t a x=>match (T.ty t).kd.isNone with
  |true=>False
  |false=>match ρ x with
   | .v v=>match v.cells.toList.length==(T.ty t).size with
    |false=>False
    |true=>match jo v.cells.toList with
     |false=>False
     |true=>match ρ a with
      | .loc s off=>match iM L s with
       |some c=>match decide (off+v.cells.toList.length<=c.length)with
        |true=>k (.v undef) (Gf L s (ff c off v.cells.toList)) h
        |false=>False
       |none=>False
      | .v (.pointer (some y))=>CI h y v.cells.toList (fun h'=>k (.v undef) L h')
      |_=>False
   |_=>False
 | .alloc e=>match (T.ty e).kd.isNone with
  |true=>False
  |false=>∀n h',h n=none->h'=bp h n (.cells (T.ty e).zero.toArray e (0,0))->k (.v (.pointer (some ⟨n,0,none⟩))) L h'
 | .box e x=>match ρ x with
  | .v v=>∀n h',h n=none->h'=bp h n (.cells v.cells e (0,0))->k (.v (.pointer (some ⟨n,0,none⟩))) L h'
  |_=>False
 | .buildSlice t len parts=>match (T.ty t).kd with
  | .mu e=>match (T.ty e).kd.isNone with
   |true=>False
   |false=>match jV ρ parts.toList with
    |some ps=>match decide (len*(T.ty e).size<=2^24),(T.ty e).zero.length==(T.ty e).size with
     |true,true=>match wv (fun i=>some (i*(T.ty e).size,(T.ty e).size)) (fq len (T.ty e).zero) ps with
      |some cs=>∀n h',h n=none->h'=bp h n (.cells cs.toArray e (0,0))->k (.v (.slice (some ⟨n,0,none⟩) len len)) L h'
      |none=>False
     |_,_=>False
    |none=>False
  |_=>False
 | .makeSlice t l c=>match (T.ty t).kd with
  | .mu e=>match (T.ty e).kd.isNone with
   |true=>False
   |false=>match ρ l with
    | .v (.int _ l)=>match ρ c with
     | .v (.int _ c)=>match (T.ty e).zero.length==(T.ty e).size with
      |true=>pP h e l c (T.ty e).bytes (T.ty e).zero (fun x h'=>k (.v x) L h')
      |false=>False
     |_=>False
    |_=>False
  |_=>False
 | .makeMap t r=>match r with
  |none=>∀n h',h n=none->h'=bp h n (.map #[] 0)->k (.v (.map (some n))) L h'
  |some _=>False
 | .call { callee:=.value f,args, .. }=>match ρ f with
  | .v (.func (.func g) first cap)=>match kG (args.toList.map ρ)with
   |some as=>match T.fn g with
    |true=>match T.pan g with
     |true=>CK p g (first.toList++as++cap.toList) h (fun r h'=>k (.v r) L h') (fun c h'=>T.kp c (T.rs.map fun t=>ρ (.tmp t)) h')
     |false=>IC p g (first.toList++as++cap.toList) h (fun r h'=>k (.v r) L h')
    |false=>dq p (fun _=>wy g (first.toList++as++cap.toList)) h (fun r h'=>k (.v r) L h')
   |none=>False
  | .v (.func (.yield l) first _)=>match kG (args.toList.map ρ)with
   |some as=>Qj p l (first.toList++as) h (fun r h'=>k (.v r) L h')
   |none=>False
  |_=>False
 | .call { callee:=.builtin b,args,argTypes }=>match b with
  | .append=>match argTypes[0]?,argTypes[1]? with
   |some t,some u=>match (T.ty t).kd with
    | .mu e=>match (T.ty e).kd.isNone with
     |true=>False
     |false=>match (T.ty e).zero.length==(T.ty e).size with
      |false=>False
      |true=>match kG (args.toList.map ρ)with
       |some [.slice b len cap,.slice x n _]=>match (T.ty u).kd with
        | .mu _=>gD h b len cap x n (T.ty e).size (T.ty e).bytes e (fun v h'=>k (.v v) L h')
        |_=>False
       |some [.slice b len cap,.int _ n]=>match (T.ty u).kd with
        | .int _=>nQ (fun _=>0<=n/\n<=2^48/\n*(T.ty e).bytes<=2^48) (fun _=>R8 h b len cap (A.sC n 0) (T.ty e).size (T.ty e).bytes e (T.ty e).zero (fun v h'=>k (.v v) L h'))
        |_=>False
       |_=>False
    |_=>False
   |_,_=>False
  | .copy=>match argTypes[0]? with
   |some t=>match (T.ty t).kd with
    | .mu e=>match (T.ty e).kd.isNone with
     |true=>False
     |false=>match kG (args.toList.map ρ)with
      |some [.slice b len _,.slice x n _]=>wY h b len x n (T.ty e).size (fun v h'=>k (.v v) L h')
      |_=>False
    |_=>False
   |none=>False
  | .clear=>match argTypes[0]? with
   |some t=>match (T.ty t).kd with
    | .mu e=>match (T.ty e).kd.isNone with
     |true=>False
     |false=>match (T.ty e).zero.length==(T.ty e).size with
      |false=>False
      |true=>match kG (args.toList.map ρ)with
       |some [.slice b len _]=>qG h b len (T.ty e).zero (fun h'=>k (.v (.tuple #[])) L h')
       |_=>False
    |_=>False
   |none=>False
  | .delete=>match kG (args.toList.map ρ)with
   |some as=>dq p (fun _=>Builtin.delete_ argTypes o.type as.toArray) h (fun r h'=>k (.v r) L h')
   |none=>False
  |_=>False
 | .convert src dst x=>match ρ x with
  | .v a=>dq p (fun _=>Go.convert src dst a) h (fun r h'=>k (.v r) L h')
  |_=>False
 | .lookup t x i ok=>match ρ x with
  | .v a=>match ρ i with
   | .v b=>dq p (fun _=>Instr.lookup t a b ok) h (fun r h'=>k (.v r) L h')
   |_=>False
  |_=>False
 | .mapUpdate t m i x=>match ρ m with
  | .v a=>match ρ i with
   | .v b=>match ρ x with
    | .v c=>dq p (fun _=>do Instr.mapUpdate t a b c;pure undef) h (fun _ h'=>k (.v undef) L h')
    |_=>False
   |_=>False
  |_=>False
 | .mapEntry t m i=>match ρ m with
  | .v a=>match ρ i with
   | .v b=>dq p (fun _=>Instr.mapEntry t a b) h (fun r h'=>k (.v r) L h')
   |_=>False
  |_=>False
 | .entryStore t m i x=>match ρ m with
  | .v a=>match ρ i with
   | .v b=>match ρ x with
    | .v c=>dq p (fun _=>do Instr.entryStore t a b c;pure undef) h (fun _ h'=>k (.v undef) L h')
    |_=>False
   |_=>False
  |_=>False
 | .range t x=>match ρ x with
  | .v a=>dq p (fun _=>Instr.range t a) h (fun r h'=>k (.v r) L h')
  |_=>False
 | .next it str=>match ρ it with
  | .v a=>dq p (fun _=>Instr.next a str o.type) h (fun r h'=>k (.v r) L h')
  |_=>False
 | .entry it=>match ρ it with
  | .v a=>dq p (fun _=>Instr.entry a) h (fun r h'=>k (.v r) L h')
  |_=>False
 | .insert t m i x=>match ρ m with
  | .v a=>match ρ i with
   | .v b=>match ρ x with
    | .v c=>dq p (fun _=>do Instr.mapUpdate t a b c;pure undef) h (fun _ h'=>k (.v undef) L h')
    |_=>False
   |_=>False
  |_=>False
 | .panic x=>match ρ x with
  | .v (.iface t v)=>T.kp [{ v:=.iface t v,recovered:=false }] (T.rs.map fun t=>ρ (.tmp t)) h
  |_=>False
 |_=>False
def put(env:Env)(d:Option Nat)(x:SV):Env:=
 match d with
 |some t=>env.set t x
 |none=>env
def nB(L:Loc)(d:Option Nat)(nb:Option (List Value)):Loc:=
 match d,nb with
 |some t,some c=>(t,c)::L
 |_,_=>L
def gd(ops:List Oper)(env:Env)(o:Oper)(yes no:Unit->Prop):Prop:=
 match o.guard with
 |none=>yes ()
 |some (j,want)=>match ops[j]? with
  |some oj=>match oj.dst with
   |some d=>match env.getD d .u with
    | .v (.bool b)=>match want with
     |true=>HT b yes no
     |false=>HT b no yes
    | .v (.tuple _)=>no ()
    |_=>False
   |none=>no ()
  |none=>no ()
def xZ(A:Ar)(T:aU)(p:Unit->Program)(all:List Oper)(K:Env->Loc->ad->Prop):List Oper->Env->Loc->ad->Prop
 | [],env,L,h=>K env L h
 |o::rest,env,L,h=>
  gd all env o
   (fun _=>match iP T o with
    |true=>fD A T p o (kE env) L h (fun x nb=>xZ A T p all K rest (put env o.dst x) (nB L o.dst nb) h)
    |false=>hx A T p o (kE env) L h (fun x L' h'=>xZ A T p all K rest (put env o.dst x) L' h'))
   (fun _=>xZ A T p all K rest (put env o.dst (.v undef)) L h)
def yj(T:aU)(strict:Bool)(h:ad)(L:Loc)(env:Env)(o:Oper)(rest:Unit->Prop):Prop:=
 match o.op with
 | .load t a=>match kE env a with
  | .v (.pointer (some x))=>tq h x (T.ty t).size (fun cs=>nK (T.ty t).agg cs (fun x=>nQ (fun _=>∃d,o.dst=some d/\env[d]? =some (.v x)) rest))
  | .loc s off=>match strict with
   |false=>rest ()
   |true=>match iM L s with
    |some c=>match takeN c off (T.ty t).size with
     |some cs=>nK (T.ty t).agg cs (fun x=>nQ (fun _=>∃d,o.dst=some d/\env[d]? =some (.v x)) rest)
     |none=>False
    |none=>False
  |_=>False
 |_=>rest ()
def pins(T:aU)(strict:Bool)(all:List Oper)(h:ad)(L:Loc)(env:Env):List Nat->(Unit->Prop)->Prop
 | [],k=>k ()
 |i::r,k=>match all[i]? with
  |some o=>gd all env o (fun _=>yj T strict h L env o (fun _=>pins T strict all h L env r k)) (fun _=>pins T strict all h L env r k)
  |none=>False
def dP(o:Oper):Bool:=match o.op with
 | .store .. =>true
 |_=>false
def gI(A:Ar)(T:aU)(p:Unit->Program)(all:List Oper)(K:Env->Loc->ad->Prop):pF->Env->Loc->ad->Prop
 | .done,env,L,h=>K env L h
 | .aa i rest,env,L,h=>match all[i]? with
  |some o=>gd all env o
   (fun _=>fD A T p o (kE env) L h (fun x nb=>gI A T p all K rest (put env o.dst x) (nB L o.dst nb) h))
   (fun _=>gI A T p all K rest (put env o.dst (.v undef)) L h)
  |none=>False
 | .aq i pn rest,env,L,h=>match all[i]? with
  |some o=>gd all env o
   (fun _=>hx A T p o (kE env) L h (fun x L' h'=>pins T (dP o) all h' L' (put env o.dst x) pn (fun _=>gI A T p all K rest (put env o.dst x) L' h')))
   (fun _=>gI A T p all K rest (put env o.dst (.v undef)) L h)
  |none=>False
 | .fork l r,env,L,h=>gI A T p all K l env L h/\gI A T p all K r env L h
inductive Ex where
 |normal
 |exit (id:Nat)
 |ret
def wk:Env->Env->Prop
 | [],[]=>True
 |x::r,y::q=>match y with
  | .u=>wk r q
  | .v b=>x=.v b/\wk r q
  | .loc s o=>x=.loc s o/\wk r q
 |_,_=>False
def Ok(L:Loc):Loc->Prop
 | []=>True
 | (s,c)::r=>iM L s=some c/\Ok L r
def YJ(L:Loc):Env->Prop
 | []=>True
 |x::r=>match x with
  | .loc s _=>(iM L s).isSome=true/\YJ L r
  |_=>YJ L r
structure Wk(env:Env)(L:Loc)(ig:Env)(L1:Loc):Prop where
 env:wk env ig
 loc:Ok L L1
 ok:YJ L1 ig
def IF:List Oper->List Nat
 | []=>[]
 |o::r=>match o.dst with
  |some d=>d::IF r
  |none=>IF r
def wr:Code->List Nat
 | .region _ ops _=>IF ops.toList
 | .seq a b| .cond _ a b=>wr a++wr b
 | .block _ c| .loop c=>wr c
 |_=>[]
structure aX(ws:List Nat)(body:(Ex->Env->Loc->ad->Prop)->Env->Loc->ad->Prop)(K:Ex->Env->Loc->ad->Prop)(env:Env)(L:Loc)(h:ad):Prop where
 out:∃(I:Nat->Env->Loc->ad->Prop) (n:Nat),(∃ig L1,Wk env L ig L1/\I n ig L1 h)/\
  ∀n env L h,I n env L h->body (fun e bX L' h'=>match e with
   | .normal=>∃m ig L1,m<n/\Wk bX L' ig L1/\I m ig L1 h'
   |e=>K e bX L' h') env L h
def sx(A:Ar)(T:aU)(p:Unit->Program):Code->(Ex->Env->Loc->ad->Prop)->Env->Loc->ad->Prop
 | .skip,K,env,L,h=>K .normal env L h
 | .region id ops draw,K,env,L,h=>match draw with
  |false=>xZ A T p ops.toList (fun env L h=>K .normal env L h) ops.toList env L h
  |true=>gI A T p ops.toList (fun env L h=>K .normal env L h) (T.aA id) env L h
 | .seq a b,K,env,L,h=>sx A T p a (fun e env L h=>match e with
  | .normal=>sx A T p b K env L h
  |e=>K e env L h) env L h
 | .cond c a b,K,env,L,h=>match kE env c with
  | .v (.bool t)=>HT t (fun _=>sx A T p a K env L h) (fun _=>sx A T p b K env L h)
  |_=>False
 | .block id c,K,env,L,h=>sx A T p c (fun e env L h=>match e with
  | .exit j=>if j=id then K .normal env L h else K (.exit j) env L h
  |e=>K e env L h) env L h
 | .loop c,K,env,L,h=>aX (wr c) (fun K' env L h=>sx A T p c K' env L h) K env L h
 | .exit id,K,env,L,h=>K (.exit id) env L h
 | .ret,K,env,L,h=>K .ret env L h
 |_,_,_,_,_=>False
def N0(T:aU)(env:Env)(L:Loc)(h:ad):ResultVar->(Value->Prop)->Prop
 | .tmp t,k=>match env.getD t .u with
  | .v x=>k x
  |_=>False
 | .cell a t,k=>match (T.ty t).kd,env.getD a .u with
  | .none,_=>False
  |_,.loc s off=>match iM L s with
   |some c=>match takeN c off (T.ty t).size with
    |some cs=>nK (T.ty t).agg cs k
    |none=>False
   |none=>False
  |_,.v (.pointer (some x))=>tq h x (T.ty t).size (fun cs=>nK (T.ty t).agg cs k)
  |_,_=>False
def mw(T:aU)(env:Env)(L:Loc)(h:ad):List ResultVar->(List Value->Prop)->Prop
 | [],k=>k []
 |r::rs,k=>N0 T env L h r (fun x=>mw T env L h rs (fun xs=>k (x::xs)))
def jH(l:List Value)(k:Value->Prop):Prop:=match l with
 | [x]=>k x
 |l=>k (.tuple l.toArray)
def Sp(A:Ar)(T:aU)(p:Unit->Program)(c:Code)(ntmps:Nat)(rs:List ResultVar)(args:List Value)(h:ad)(R:Value->ad->Prop):Prop:=
 sx A T p c (fun e env L h=>match e with
  | .exit _=>False
  |_=>mw T env L h rs (fun l=>jH l (fun v=>R v h))) (args.map SV.v++List.replicate (ntmps-args.length) (.v undef)) [] h
variable {P:Program}{T:aU}{A:Ar}[aV A]
structure WZ(w w':World):Prop where
 os:w'.os=w.os
 tape:w'.tape=w.tape
 output:w'.output=w.output
theorem aY.refl{h:ad}{w:World}(ha:uc h w):aY h w h w:=
 ⟨rfl,rfl,rfl,Nat.le_refl _,ha,fun _ _ hb=>⟨rfl,hb⟩⟩
theorem aY.trans{h h1 h2:ad}{w w1 w2:World}(a:aY h w h1 w1)(b:aY h1 w1 h2 w2):aY h w h2 w2:=
 ⟨b.os.trans a.os,b.tape.trans a.tape,b.output.trans a.output,Nat.le_trans a.size b.size,b.wU,fun k hk hn=>
  have x:=a.frame k hk hn;have y:=b.frame k (Nat.lt_of_lt_of_le hk a.size) x.2
  ⟨y.1.trans x.1,y.2⟩⟩
theorem uc.km{h:ad}{w:World}(ha:uc h w){b:Nat}(hb:w.heap.size<=b):h b=none:=by
 cases hh:h b with
 |none=>rfl
 |some o=>have:=ha b o hh;rw[Array.getElem?_eq_none hb]at this;cases this
theorem Fn.mono{f:FuncId}{args:List Value}{h:ad}{R R':Value->ad->Prop}(x:Fn P f args h R)(hr:∀v h',R v h'->R' v h'):Fn P f args h R':=
 fun w hw=>(x w hw).mono fun e w' ⟨v,h',he,hR,ha⟩=>⟨v,h',he,hr _ _ hR,ha⟩
theorem CK.mono{p:Unit->Program}{f:FuncId}{args:List Value}{h:ad}{R R':Value->ad->Prop}{K K':List PanicEntry->ad->Prop}(x:CK p f args h R K)(hr:∀v h',R v h'->R' v h')(hk:∀c h',K c h'->K' c h'):CK p f args h R' K':=
 ⟨fun w hw=>(x.out w hw).mono fun e w' hq=>by
  rcases hq with ⟨v,h',h1,h2,h3⟩ | ⟨c,h',h1,h2,h3⟩
  ·exact .inl ⟨v,h',h1,hr _ _ h2,h3⟩
  ·exact .inr ⟨c,h',h1,hk _ _ h2,h3⟩⟩
theorem IC.mono{p:Unit->Program}{f:FuncId}{args:List Value}{h:ad}{R R':Value->ad->Prop}(x:IC p f args h R)(hr:∀v h',R v h'->R' v h'):IC p f args h R':=
 ⟨x.out.mono hr⟩
structure sh(P:Program)(t:TypeId)(i:Ti):Prop where
 ex:∃ti d z,P.info? t=some ti/\P.underlying t=some d/\ti.zero=some z/\
  i.agg=(match d with| .struct _| .array _ _=>true|_=>false)/\i.size=ti.size/\i.bytes=ti.bytes/\i.zero=z.cells.toList/\i.kd=mB d/\i.flat=Eg P t d
theorem eL(hT:dU P T){t:TypeId}(h:(T.ty t).kd≠.none):sh P t (T.ty t):=by
 rcases hT.ty t with e|e
 ·rw[e]at h |-;unfold Ts at h |-;cases hi:P.info? t with
  |none=>simp[hi,Ti.none]at h
  |some ti=>
   cases hu:P.underlying t with
   |none=>simp[hi,hu,Ti.none]at h
   |some d=>
    cases hz:ti.zero with
    |none=>simp[hi,hu,hz,Ti.none]at h
    |some z=>refine⟨ti,d,z,?_⟩;simp only[hz,hi,hu,true_and];all_goals (cases d<;>simp)
 ·rw[e]at h;exact absurd rfl h
theorem sh.Bh{t:TypeId}{i:Ti}(h:sh P t i)(w:World):∃ti,(typeInfo t).run P w=.ok ti w/\i.size=ti.size/\i.bytes=ti.bytes:=by obtain⟨ti,d,z,h1,-,-,-,h2,h3,-,-,-⟩:=h.ex;exact⟨ti,by simp[typeInfo,h1],h2,h3⟩
theorem sh.ee{t:TypeId}{i:Ti}(h:sh P t i)(w:World):(sizeOf t).run P w=.ok i.size w:=by obtain⟨ti,h1,h2,-⟩:=h.Bh w;simp[sizeOf,h1,h2]
theorem sh.bN{t:TypeId}{i:Ti}(h:sh P t i)(w:World):∃d,(underlying t).run P w=.ok d w/\P.underlying t=some d/\i.kd=mB d/\
 i.agg=(match d with| .struct _| .array _ _=>true|_=>false):=by
 obtain⟨ti,d,z,-,h1,-,h2,-,-,-,h3,-⟩:=h.ex;exact⟨d,by simp[underlying,h1],h1,h3,h2⟩
theorem sh.yh{t:TypeId}{i:Ti}(h:sh P t i)(w:World):(isAgg t).run P w=.ok i.agg w:=by obtain⟨d,h1,-,-,h2⟩:=h.bN w;unfold isAgg;rw[Sem.run_bind,h1,h2];cases d<;>rfl
theorem sh.kL{t:TypeId}{i:Ti}(h:sh P t i)(w:World):∃z,(zeroValue t).run P w=.ok z w/\z.cells.toList=i.zero:=by obtain⟨ti,d,z,h1,-,h3,-,-,-,h4,-,-⟩:=h.ex;exact⟨z,by simp[zeroValue,typeInfo,h1,h3],h4.symm⟩
theorem bY(b o n:Nat):(⟨b,o,none⟩:Addr).add n=⟨b,o+n,none⟩:=by
 unfold Addr.add;split
 ·rename_i h;simp[h]
 ·rfl
theorem FO{w:World}{b o:Nat}{c:Array Value}{e:TypeId}{fr:Nat×Nat}(h:w.heap[b]? =some (.cells c e fr)):w.cell? ⟨b,o,none⟩=c[o]? :=by simp[World.cell?,h]
theorem lE{t:TypeId}{i:Ti}(hi:sh P t i)(w:World)(b o:Nat)(cs:List Value)(hl:cs.length=i.size)
 (hc:∀j,j<cs.length->w.cell? ⟨b,o+j,none⟩=cs[j]?) {k:Value->Prop} (hk:nK i.agg cs k):
 ∃v,(loadVar t ⟨b,o,none⟩).run P w=.ok v w/\k v:=by
 unfold loadVar;rw[Sem.run_bind,hi.yh];unfold nK at hk;cases ha:i.agg with
 |true=>
  simp only[ha]at hk;refine⟨_,?_,hk⟩;have:=run_loadCells_list (P:=P) w ⟨b,o,none⟩ cs (fun j v hv=>by
   rw[bY,hc j (by rw[List.getElem?_eq_some_iff]at hv;exact hv.1),hv])
  simp[hi.ee,<-hl,this]
 |false=>
  simp only[ha]at hk;cases cs with
  |nil=>exact hk.elim
  |cons x r=>refine⟨x,?_,hk⟩;have:=hc 0 (by simp);simp only[Nat.add_zero,List.getElem?_cons_zero]at this;simp[this]
theorem EV.cell{h:ad}{w:World}(ha:uc h w){a:Addr}{n:Nat}{cs:List Value}(hr:EV h a n cs):
 a.spot=none/\cs.length=n/\∀j,j<cs.length->w.cell? ⟨a.block,a.off+j,none⟩=cs[j]? :=by
 obtain⟨h1,h2,c,e,fr,h3,h4⟩:=hr;refine⟨h1,h2,fun j hj=>?_⟩;rw[FO (ha _ _ h3)];exact h4 j (h2 ▸ hj)
theorem Tb{v:Value}(h:one v=true)(a:Addr)(m:Mode)(w:World){c:Array Value}{e:TypeId}{fr:Nat×Nat}(hs:a.spot=none)
 (hb:w.heap[a.block]? =some (.cells c e fr)) (ho:a.off<c.size) (hf:¬(fr.1<=a.off/\a.off<fr.2)):
 (store a v m).run P w=.ok () (w.setCell a v):=by
 have hc:w.cell? a=some c[a.off]:=by simp[World.cell?,hb,hs,ho]
 have hz:w.frozen? a=false:=by obtain⟨lo,hi⟩:=fr;simp only[World.frozen?,hb];simp only[Bool.and_eq_false_iff,decide_eq_false_iff_not];simp only at hf;omega
 cases v<;>first
  | (simp[one]at h;done)
  | (simp only[store,Sem.run,hc,hz];rfl)
theorem cZ(c:List Value)(o:Nat)(vs:List Value):(ff c o vs).length=c.length:=by
 induction vs generalizing c o with
 |nil=>rfl
 |cons v r ih=>simp[ff,ih]
theorem kM{b o:Nat}{e:TypeId}{fr:Nat×Nat}:∀(vs:List Value) (i:Nat) (c:Array Value) (w:World),
 w.heap[b]? =some (.cells c e fr)->o+i+vs.length<=c.size->(∀j,j<vs.length->¬(fr.1<=o+i+j/\o+i+j<fr.2))->jo vs=true->
 ∃w',(storeCells ⟨b,o,none⟩ vs i).run P w=.ok () w'/\w'.heap[b]? =some (.cells (ff c.toList (o+i) vs).toArray e fr)/\
  (∀b',b'≠b->w'.heap[b']? =w.heap[b']?)/\w'.heap.size=w.heap.size/\WZ w w'
 | [],i,c,w,hb,_,_,_=>⟨w,rfl,by simp[ff,hb],fun _ _=>rfl,rfl,rfl,rfl,rfl⟩
 |v::r,i,c,w,hb,hl,hf,h1=>by
  simp only[List.length_cons]at hl hf;have ho:one v=true:=by
   unfold jo at h1;split at h1
   ·assumption
   ·cases h1
  have hr:jo r=true:=by
   unfold jo at h1;split at h1
   ·assumption
   ·cases h1
  have fO:=Tb (P:=P) ho ⟨b,o+i,none⟩ .plain w rfl hb (by show o+i<c.size;omega) (by simpa using hf 0 (by omega));have nj:(w.setCell ⟨b,o+i,none⟩ v).heap[b]? =some (.cells (c.setIfInBounds (o+i) v) e fr):=by simp[World.setCell,Array.getElem?_modify,hb]
  obtain⟨w',h2,h3,h4,h5,h6⟩:=kM (o:=o) r (i+1) (c.setIfInBounds (o+i) v) _ nj (by simp;omega)
   (fun j hj=>by have:=hf (j+1) (by omega);rw[show o+(i+1)+j=o+i+(j+1)by omega];exact this) hr
  refine⟨w',?_,?_,?_,?_,?_⟩
  ·unfold storeCells;rw[Sem.run_bind,bY,fO];exact h2
  ·rw[h3];simp[ff,Array.toList_setIfInBounds,Nat.add_assoc]
  ·intro b' bW;rw[h4 b' bW];simp[World.setCell,Array.getElem?_modify,Ne.symm bW]
  ·rw[h5];simp[World.setCell]
  ·exact⟨h6.os,h6.tape,h6.output⟩
def mP(β:Nat->Nat)(L:Loc):SV->Value->Prop
 | .v x,y=>y=x
 | .loc s off,y=>(∃c,iM L s=some c)/\y=.pointer (some ⟨β s,off,none⟩)
 | .u,_=>True
structure cC(ds:List Deferred)(h0:ad)(w0:World)(β:Nat->Nat)(env:Env)(L:Loc)(h:ad)(a:Act)(w:World):Prop where
 after:aY h0 w0 h w
 loc:∀s c,iM L s=some c->w0.heap.size<=β s/\h (β s)=none/\∃e,w.heap[β s]? =some (.cells c.toArray e (0,0))
 inj:∀s s' c c',iM L s=some c->iM L s'=some c'->β s=β s'->s=s'
 size:a.tmps.size=env.length
 slot:∀t x,env[t]? =some x->mP β L x (a.tmps.getD t undef)
 defers:a.defers=ds
variable {ds:List Deferred}{h0:ad}{w0:World}{β:Nat->Nat}{env:Env}{L:Loc}{h:ad}{a:Act}{w:World}
theorem getD_some{env:Env}{t:Nat}{x:SV}(h:env.getD t .u=x)(hx:x≠.u):env[t]? =some x:=by
 rw[List.getD_eq_getElem?_getD]at h;cases hh:env[t]? with
 |none=>rw[hh]at h;exact absurd h.symm hx
 |some y=>rw[hh]at h;simp at h;rw[h]
theorem cC.kE(hs:cC ds h0 w0 β env L h a w)(o:Operand):mP β L (kE env o) (a.eval o):=by
 cases o with
 |tmp t=>
  show mP β L (env.getD t .u) _;by_cases hu:env.getD t .u=.u
  ·rw[hu];trivial
  ·exact hs.slot t _ (getD_some rfl hu)
 |const v=>rfl
 |global g=>rfl
 |func f=>rfl
theorem cC.aZ(hs:cC ds h0 w0 β env L h a w){o:Operand}{x:Value}(hx:Sx.kE env o=.v x):a.eval o=x:=by have:=hs.kE o;rw[hx]at this;exact this
theorem cC.mF(hs:cC ds h0 w0 β env L h a w){o:Operand}{s off:Nat}(hx:Sx.kE env o=.loc s off):
 (∃c,iM L s=some c)/\a.eval o=.pointer (some ⟨β s,off,none⟩):=by
 have:=hs.kE o;rw[hx]at this;exact this
theorem cC.lt(hs:cC ds h0 w0 β env L h a w){s:Nat}{c:List Value}(hl:iM L s=some c):β s<w.heap.size:=by obtain⟨-,-,e,he⟩:=hs.loc s c hl;exact(Array.getElem?_eq_some_iff.1 he).1
theorem cC.put(hs:cC ds h0 w0 β env L h a w){d:Option Nat}{x:SV}{v:Value}(hv:mP β L x v):cC ds h0 w0 β (put env d x) L h (a.put d v) w:=by
 cases d with
 |none=>exact hs
 |some t=>
  refine⟨hs.after,hs.loc,hs.inj,by simp[Act.put,Sx.put,hs.size],fun u y hu=>?_,hs.defers⟩;simp only[Sx.put,Act.put]at hu |-;rw[List.getElem?_set]at hu;split at hu
  ·rename_i e;subst e;split at hu
   ·rename_i aK;cases hu;have:t<a.tmps.size:=by rw[hs.size];exact aK
    simpa[Array.getD_eq_getD_getElem?,Array.getElem?_setIfInBounds_self_of_lt this]using hv
   ·cases hu
  ·rename_i bW;have:=hs.slot u y hu;simpa[Array.getD_eq_getD_getElem?,Array.getElem?_setIfInBounds_ne bW]using this
theorem rk{s:Nat}{c:List Value}{L:Loc}{t:Nat}:iM ((s,c)::L) t=if s=t then some c else iM L t:=rfl
theorem mE{w:World}{o:Obj}{b:Nat}(hb:b<w.heap.size):(w.heap.push o)[b]? =w.heap[b]? :=by rw[Array.getElem?_push,if_neg (by omega)]
theorem aY.push{h0:ad}{w0:World}{h:ad}{w:World}(x:aY h0 w0 h w)(o:Obj):aY h0 w0 h { w with heap:=w.heap.push o }:=by refine x.trans ⟨rfl,rfl,rfl,by simp,fun b o' hb=>?_,fun b hb hn=>⟨mE hb,hn⟩⟩;have:=x.wU b o' hb;rw[mE ((Array.getElem?_eq_some_iff.1 this).1)];exact this
theorem cC.box(hs:cC ds h0 w0 β env L h a w){d:Nat}(hd:iM L d=none)(c:List Value)(e:TypeId):
 cC ds h0 w0 (fun s=>if s=d then w.heap.size else β s) (Sx.put env (some d) (.loc d 0)) ((d,c)::L) h (a.put (some d) (.pointer (some ⟨w.heap.size,0,none⟩)))
  { w with heap:=w.heap.push (.cells c.toArray e) }:=by
 have base:cC ds h0 w0 (fun s=>if s=d then w.heap.size else β s) env ((d,c)::L) h a { w with heap:=w.heap.push (.cells c.toArray e) }:=by
  refine⟨hs.after.push _,fun s c' hl=>?_,fun s s' c1 c2 hl D6 he=>?_,hs.size,fun t x hx=>?_,hs.defers⟩
  ·rw[rk]at hl;by_cases hsd:s=d
   ·rw[if_pos hsd.symm]at hl;cases hl;simp only[hsd,if_true];exact⟨hs.after.size,hs.after.wU.km (Nat.le_refl _),e,by simp⟩
   ·rw[if_neg (Ne.symm hsd)]at hl;simp only[if_neg hsd];obtain⟨h1,h2,e',h3⟩:=hs.loc s c' hl;exact⟨h1,h2,e',by rw[mE (hs.lt hl)];exact h3⟩
  ·rw[rk]at hl D6;by_cases h1:s=d<;>by_cases h2:s'=d
   ·rw[h1,h2]
   ·rw[if_neg (Ne.symm h2)]at D6;simp only[h1,if_true,if_neg h2]at he;have:=hs.lt D6;omega
   ·rw[if_neg (Ne.symm h1)]at hl;simp only[h2,if_true,if_neg h1]at he;have:=hs.lt hl;omega
   ·rw[if_neg (Ne.symm h1)]at hl;rw[if_neg (Ne.symm h2)]at D6;simp only[if_neg h1,if_neg h2]at he;exact hs.inj _ _ _ _ hl D6 he
  ·have:=hs.slot t x hx;cases x with
   |v y=>exact this
   |u=>trivial
   |loc s off=>
    obtain⟨⟨c',oP⟩,hv⟩:=this;have bW:s≠d:=fun e=>by rw[e,hd]at oP;cases oP
    refine⟨⟨c',by rw[rk,if_neg (Ne.symm bW)];exact oP⟩,?_⟩;simp only[if_neg bW];exact hv
 refine base.put ?_;refine⟨⟨c,by rw[rk,if_pos rfl]⟩,by simp⟩
theorem mX{L:Loc}{s:Nat}{c d:List Value}(hl:iM L s=some c)(t:Nat):iM (Gf L s d) t=if s=t then some d else iM L t:=by
 induction L with
 |nil=>cases hl
 |cons x r ih=>
  obtain⟨k,y⟩:=x;by_cases hk:k=s
  ·subst hk;simp only[Gf,if_true,iM];by_cases ht:k=t<;>simp[ht]
  ·simp only[iM,if_neg hk]at hl;simp only[Gf,if_neg hk,iM,ih hl];by_cases ht:k=t
   ·subst ht;simp[Ne.symm hk]
   ·simp[ht]
theorem cC.Sy(hs:cC ds h0 w0 β env L h a w){s:Nat}{c c':List Value}(hl:iM L s=some c){w':World}
 (hb:∀e,w.heap[β s]? =some (.cells c.toArray e (0,0))->w'.heap[β s]? =some (.cells c'.toArray e (0,0))) (ho:∀b,b≠β s->w'.heap[b]? =w.heap[b]?)
 (hz:w'.heap.size=w.heap.size) (Fj:WZ w w'):cC ds h0 w0 β env (Gf L s c') h a w':=by
 obtain⟨g1,g2,e,g3⟩:=hs.loc s c hl;refine⟨⟨Fj.os.trans hs.after.os,Fj.tape.trans hs.after.tape,Fj.output.trans hs.after.output,by rw[hz];exact hs.after.size,fun b o sA=>?_,fun b xh hn=>?_⟩,
  fun t d hd=>?_,fun t t' c1 c2 h1 h2 he=>?_,hs.size,fun t x hx=>?_,hs.defers⟩
 ·rw[ho b (fun e=>by rw[e,g2]at sA;cases sA)];exact hs.after.wU b o sA
 ·have:=hs.after.frame b xh hn;exact⟨by rw[ho b (by omega)];exact this.1,this.2⟩
 ·rw[mX hl]at hd;by_cases fO:s=t
  ·subst fO;rw[if_pos rfl]at hd;cases hd;exact⟨g1,g2,e,hb e g3⟩
  ·rw[if_neg fO]at hd;obtain⟨k1,k2,e',k3⟩:=hs.loc t d hd;exact⟨k1,k2,e',by rw[ho _ (fun q=>fO (hs.inj _ _ _ _ hl hd q.symm))];exact k3⟩
 ·have q:∀t c,iM (Gf L s c') t=some c->∃c,iM L t=some c:=fun t c hq=>by
   rw[mX hl]at hq;by_cases fO:s=t
   ·subst fO;exact⟨_,hl⟩
   ·rw[if_neg fO]at hq;exact⟨_,hq⟩
  obtain⟨_,q1⟩:=q _ _ h1;obtain⟨_,q2⟩:=q _ _ h2;exact hs.inj _ _ _ _ q1 q2 he
 ·have:=hs.slot t x hx;cases x with
  |v y=>exact this
  |u=>trivial
  |loc k off=>
   obtain⟨⟨d,hd⟩,hv⟩:=this;refine⟨?_,hv⟩;rw[mX hl];by_cases fO:s=k
   ·exact⟨c',by rw[if_pos fO]⟩
   ·exact⟨d,by rw[if_neg fO];exact hd⟩
theorem cC.step(hs:cC ds h0 w0 β env L h a w){h':ad}{w':World}(ha:aY h w h' w'):cC ds h0 w0 β env L h' a w':=
 ⟨hs.after.trans ha,fun s c hl=>by
  obtain⟨g1,g2,e,g3⟩:=hs.loc s c hl;have:=ha.frame (β s) (hs.lt hl) g2;exact⟨g1,this.2,e,by rw[this.1];exact g3⟩,hs.inj,hs.size,hs.slot,hs.defers⟩
theorem aY.new{h:ad}{w:World}(ha:uc h w)(o:Obj):aY h w (bp h w.heap.size o) { w with heap:=w.heap.push o }:=by
 refine⟨rfl,rfl,rfl,by simp,fun b o' hb=>?_,fun b hb hn=>⟨mE hb,?_⟩⟩
 ·simp only[bp]at hb;split at hb
  ·rename_i e;subst e;cases hb;simp
  ·have:=ha b o' hb;show(w.heap.push o)[b]? =_;rw[mE ((Array.getElem?_eq_some_iff.1 this).1)];exact this
 ·simp only[bp];rw[if_neg (by omega)];exact hn
theorem aY.set{h:ad}{w w':World}(ha:uc h w){n:Nat}{o o':Obj}(hn:h n=some o)(h1:w'.heap[n]? =some o')(h2:∀b,b≠n->w'.heap[b]? =w.heap[b]?)
 (h3:w'.heap.size=w.heap.size) (h4:WZ w w'):aY h w (bp h n o') w':=by
 refine⟨h4.os,h4.tape,h4.output,by omega,fun b q hb=>?_,fun b hb hh=>?_⟩
 ·simp only[bp]at hb;split at hb
  ·rename_i e;subst e;cases hb;exact h1
  ·rename_i e;rw[h2 b e];exact ha b q hb
 ·have:b≠n:=fun e=>by rw[e,hn]at hh;cases hh
  exact⟨h2 b this,by simp only[bp];rw[if_neg this];exact hh⟩
variable {P:Program}{T:aU}{A:Ar}[aV A]
theorem jy{t:Bool}{x y:Unit->Prop}(h:HT t x y):(t=true/\x ())\/(t=false/\y ()):=by
 cases t
 ·exact .inr ⟨rfl,h⟩
 ·exact .inl ⟨rfl,h⟩
theorem iI{g:Bool}{cs:List Value}{k:Value->Prop}(h:nK g cs k):∃v,nK g cs (fun x=>x=v)/\k v:=by
 cases g with
 |true=>exact⟨_,rfl,h⟩
 |false=>
  cases cs with
  |nil=>exact h.elim
  |cons x r=>exact⟨x,rfl,h⟩
theorem jl{g:Bool}{cs:List Value}{k k':Value->Prop}(h:nK g cs k)(hk:∀v,k v->k' v):nK g cs k':=by
 obtain⟨v,h1,h2⟩:=iI h;cases g with
 |true=>exact hk _ h
 |false=>
  cases cs with
  |nil=>exact h.elim
  |cons x r=>exact hk _ h
theorem pU{b:Option Addr}{len cap size:Nat}{l hh m:Option Int}{k:Value->Prop}(hk:vd A b len cap size l hh m k):
 ∃v,k v/\∀k':Value->Prop,k' v->vd A b len cap size l hh m k':=by
 cases m<;>cases hh<;>cases l<;>first
  |exact hk.elim
  |exact⟨_,hk,fun _ h=>h⟩
  |exact⟨_,hk.out,fun _ h=>⟨hk.h,h⟩⟩
theorem pV{s:ByteArray}{l hh:Option Int}{k:Value->Prop}(hk:ve A s l hh k):
 ∃v,k v/\∀k':Value->Prop,k' v->ve A s l hh k':=by
 cases hh<;>cases l<;>first
  |exact⟨_,hk,fun _ h=>h⟩
  |exact⟨_,hk.out,fun _ h=>⟨hk.h,h⟩⟩
theorem wO{op:BinOp}{a b:Value}{e:(Value->Prop)->Unit->Prop}(he:∀k,e k ()->∃v,k v/\∀k':Value->Prop,k' v->e k' ()){k:Value->Prop}(hk:Cw A op a b k (e k)):
 ∃v,k v/\∀k':Value->Prop,k' v->Cw A op a b k' (e k'):=by
 unfold Cw at hk |-;repeat' split at hk
 all_goals first
  |exact he _ hk
  |exact⟨_,hk.out,fun _ h=>⟨hk.h,h⟩⟩
set_option maxHeartbeats 1000000 in
theorem mY{p:Unit->Program}{o:Oper}{ρ:Operand->SV}{L:Loc}{h:ad}{k:SV->Option (List Value)->Prop}(hk:fD A T p o ρ L h k):
 ∃sv nb,k sv nb/\∀k':SV->Option (List Value)->Prop,k' sv nb->fD A T p o ρ L h k':=by
 unfold fD at hk |-;repeat' split at hk
 all_goals first
  |exact hk.elim
  |exact⟨_,_,hk,fun k' h'=>h'⟩
  | (obtain⟨cs,h1,h2⟩:=(show tq _ _ _ _ from hk).out
     obtain⟨v,h3,h4⟩:=iI h2;exact⟨_,_,h4,fun k' h'=>⟨cs,h1,jl h3 (fun v hv=>by subst hv;exact h')⟩⟩)
  | (obtain⟨v,h3,h4⟩:=iI hk
     exact⟨_,_,h4,fun k' h'=>jl h3 (fun v hv=>by subst hv;exact h')⟩)
  | (obtain⟨v,h1,h2⟩:=(show tp _ _ _ from hk).out
     exact⟨_,_,h2,fun k' h'=>⟨v,h1,h'⟩⟩)
  | (obtain⟨h1,h2⟩:=(show nQ _ _ from hk)
     exact⟨_,_,h2,fun k' h'=>⟨h1,h'⟩⟩)
  | (obtain⟨v,h1,h2⟩:=wO (e:=fun k _=>tp p _ k) (fun k h=>by
      obtain⟨v,g1,g2⟩:=h.out;exact⟨v,g2,fun k' h'=>⟨v,g1,h'⟩⟩) hk
     exact⟨_,_,h1,fun k' h'=>h2 (fun v=>k' (.v v) none) h'⟩)
  | (obtain⟨v,h1,h2⟩:=pU hk
     exact⟨_,_,h1,fun k' h'=>h2 _ h'⟩)
  | (obtain⟨v,h1,h2⟩:=pV hk
     exact⟨_,_,h1,fun k' h'=>h2 _ h'⟩)
  |skip
variable {P:Program}{T:aU}{A:Ar}[aV A]
variable {ds:List Deferred}{h0:ad}{w0:World}{β:Nat->Nat}{env:Env}{L:Loc}{h:ad}{a:Act}{w:World}
theorem xP(hs:cC ds h0 w0 β env L h a w):∀ {l:List Operand} {vs:List Value},kG (l.map (kE env))=some vs->l.map a.eval=vs
 | [],vs,hv=>by simp[kG]at hv;simp[hv]
 |x::r,vs,hv=>by
  simp only[List.map_cons]at hv;cases hx:kE env x with
  |v y=>
   rw[hx]at hv;simp only[kG]at hv;cases hr:kG (r.map (kE env))with
   |none=>rw[hr]at hv;cases hv
   |some l=>rw[hr]at hv;simp at hv;rw[<-hv,List.map_cons,hs.aZ hx,xP hs hr]
  |loc s o=>rw[hx]at hv;simp[kG]at hv
  |u=>rw[hx]at hv;simp[kG]at hv
theorem fR(hs:cC ds h0 w0 β env L h a w){l:Array Operand}{vs:List Value}(hv:kG (l.toList.map (kE env))=some vs):l.map a.eval=vs.toArray:=by rw[<-xP hs hv];apply Array.ext';simp
theorem ou(hs:cC ds h0 w0 β env L h a w):∀ {l:List (Nat×Operand)} {vs:List (Nat×Value)},jV (kE env) l=some vs->l.map (fun(i,x)=>(i,a.eval x))=vs
 | [],vs,hv=>by simp[jV]at hv;simp[hv]
 | (i,x)::r,vs,hv=>by
  unfold jV at hv;split at hv
  ·rename_i y l hx hr;cases hv;simp only[List.map_cons];rw[hs.aZ hx,ou hs hr]
  ·cases hv
theorem vh(off:Nat):∀(vs:List Value) (k:Nat) (cells:Array Value),
 (vs.zipIdx k).foldl (fun cs (c,j)=>cs.setIfInBounds (off+j) c) cells=(ff cells.toList (off+k) vs).toArray
 | [],k,cells=>by simp[ff]
 |v::r,k,cells=>by
  simp only[List.zipIdx_cons,List.foldl_cons];rw[vh off r (k+1)];simp[ff,Array.toList_setIfInBounds,Nat.add_assoc]
theorem fill_eq(place:Nat->Option (Nat×Nat)):∀(ps:List (Nat×Value)) (cells:Array Value) (cs:List Value),wv place cells.toList ps=some cs->Instr.fill place cells ps=some cs.toArray
 | [],cells,cs,hf=>by
  simp[wv]at hf;simp[Instr.fill,<-hf]
 | (i,v)::r,cells,cs,hf=>by
  unfold wv at hf;unfold Instr.fill;cases hp:place i with
  |none=>simp[hp]at hf
  |some x=>
   obtain⟨off,size⟩:=x;simp only[hp]at hf |-;have hlen:v.cells.toList.length=v.cells.size:=by simp
   have hlc:cells.toList.length=cells.size:=by simp
   rw[hlen,hlc]at hf;split at hf
   ·cases hf
   ·rename_i hc;rw[if_neg hc];have:=fill_eq place r (ff cells.toList off v.cells.toList).toArray cs (by simpa using hf);rw[<-this];congr 1;rw[<-Array.foldl_toList];have e:=vh off v.cells.toList 0 cells;simp only[Nat.add_zero]at e;rw[<-e];congr 1;simp[Array.toList_zipIdx]
theorem eH{k:Kd}(h:k.isNone=false):k≠.none:=fun e=>by rw[e]at h;cases h
theorem vw(hT:dU P T)(w:World):∀(fs:List Field) (l:List (Nat×Nat)),placesOf T (fs.map fun f=>(f.type,f.offset))=some l->
 (fs.mapM fun f=>do pure (f.offset,<-sizeOf f.type):Sem (List (Nat×Nat))).run P w=.ok l w
 | [],l,hp=>by simp[placesOf]at hp;simp[hp]
 |f::r,l,hp=>by
  simp only[List.map_cons]at hp;unfold placesOf at hp;split at hp
  ·rename_i l' hk hr;cases hp;have hi:=eL hT (eH hk);have ih:=vw hT w r l' hr;rw[List.mapM_cons];simp only[Sem.run_bind,hi.ee,Result.andThen_ok,Sem.run_pure,ih]
  ·cases hp
theorem m0{fs:List (Nat×Nat)}{k:Kd}(h:k=.cS fs):k≠.none:=by rw[h];simp
theorem DM{n e:Nat}{k:Kd}(h:k=.arr n e):k≠.none:=by rw[h];simp
theorem ep{e:Nat}{k:Kd}(h:k=.mu e):k≠.none:=by rw[h];simp
theorem rq{d:TypeDesc}{fs:List (Nat×Nat)}(h:mB d=.cS fs):∃F,d=.struct F/\fs=F.toList.map fun f=>(f.type,f.offset):=by cases d<;>simp[mB]at h;exact⟨_,rfl,h.symm⟩
theorem Kl{d:TypeDesc}{n e:Nat}(h:mB d=.arr n e):d=.array n e:=by cases d<;>simp[mB]at h;rw[h.1,h.2]
theorem kR{d:TypeDesc}{e:Nat}(h:mB d=.mu e):d=.slice e:=by cases d<;>simp[mB]at h;rw[h]
theorem DI{d:TypeDesc}(h:mB d=.str):d=.string:=by cases d<;>simp[mB]at h;rfl
theorem run_build(hT:dU P T)(w:World){t:TypeId}{ps:List (Nat×Value)}{cs:List Value}(hk:(T.ty t).kd.isNone=false)
 (hb:Ev T (T.ty t).zero ps (T.ty t).kd=some cs):(Instr.build t ps.toArray).run P w=.ok (.agg cs.toArray) w:=by
 have hi:=eL hT (eH hk);obtain⟨z,hz,BI⟩:=hi.kL w;obtain⟨d,hd,-,fx,-⟩:=hi.bN w;unfold Instr.build;simp only[Sem.run_bind,hz,Result.andThen_ok,hd];unfold Ev at hb;split at hb
 ·rename_i fs K7;split at hb
  ·rename_i l hl;obtain⟨F,rfl,hF⟩:=rq (fx ▸ K7);have hp:=vw hT w F.toList l (hF ▸ hl);have hpa:(F.mapM fun f=>do pure (f.offset,<-sizeOf f.type):Sem (Array (Nat×Nat))).run P w=.ok l.toArray w:=by rw[Array.mapM_eq_mapM_toList];simp only[Sem.run_map,hp,Result.andThen_ok]
   simp only[hpa,Result.andThen_ok,Sem.run_bind];have:=fill_eq (fun i=>l[i]?) ps z.cells cs (by rw[BI];exact hb);simp only[List.getElem?_toArray];rw[this];rfl
  ·cases hb
 ·rename_i n e bW;split at hb
  ·rename_i K0;have jR:=eL hT (eH K0);obtain rfl:=Kl (fx ▸ bW);simp only[Sem.run_bind,jR.ee,Result.andThen_ok];have:=fill_eq (fun i=>some (i*(T.ty e).size,(T.ty e).size)) ps z.cells cs (by rw[BI];exact hb);rw[this];rfl
  ·cases hb
 ·cases hb
theorem uX{c cs:List Value}{off n:Nat}(h:takeN c off n=some cs):cs.length=n/\∀j,j<cs.length->c[off+j]? =cs[j]? :=by
 unfold takeN at h;split at h
 ·rename_i hl;cases h;have:((c.drop off).take n).length=n:=by simp;omega
  refine⟨this,fun j hj=>?_⟩;rw[List.getElem?_take,if_pos (by omega),List.getElem?_drop]
 ·cases h
variable {P:Program}{T:aU}{A:Ar}[aV A]
variable {ds:List Deferred}{h0:ad}{w0:World}{β:Nat->Nat}{env:Env}{L:Loc}{h:ad}{a:Act}{w:World}
theorem dV{x:Int}{y:Nat}{code:BoundsCode}{k:IntKind}(h:0<=x/\x<=(y:Int))(w:World):(Instr.sliceBound (.int k x) y code).run P w=.ok x.toNat w:=by simp[Instr.sliceBound,asIntOf,h]
theorem uZ(hs:cC ds h0 w0 β env L h a w){x:Option Operand}{l:Option Int}(hl:NQ (kE env) x=some l):
 (l=none/\x.map a.eval=none)\/(∃n k,l=some n/\x.map a.eval=some (.int k n)):=by
 cases x with
 |none=>simp[NQ]at hl;exact .inl ⟨hl.symm,rfl⟩
 |some y=>
  unfold NQ at hl;simp only at hl;split at hl
  ·rename_i k n he;cases hl;exact .inr ⟨n,k,rfl,by simp[hs.aZ he]⟩
  ·cases hl
theorem Dh{b:Option Addr}{len cap size:Nat}{l hh m:Option Int}{r:Value}{lo hi mx:Option Value}
 (h1:(l=none/\lo=none)\/(∃n k,l=some n/\lo=some (.int k n)))
 (h2:(hh=none/\hi=none)\/(∃n k,hh=some n/\hi=some (.int k n)))
 (h3:(m=none/\mx=none)\/(∃n k,m=some n/\mx=some (.int k n)))
 (hk:vd A b len cap size l hh m (fun x=>x=r)) (w:World):
 ∃L H M:Nat,(Instr.sliceBounds true len cap lo hi mx).run P w=.ok (L,H,M) w/\
  r=.slice (if M=L then b else b.map (·.add (L*size))) (H-L) (M-L):=by
 rcases h1 with ⟨rfl,rfl⟩ | ⟨n1,k1,rfl,rfl⟩<;>rcases h2 with ⟨rfl,rfl⟩ | ⟨n2,k2,rfl,rfl⟩<;>rcases h3 with ⟨rfl,rfl⟩ | ⟨n3,k3,rfl,rfl⟩
 ·refine⟨0,len,cap,by simp[Instr.sliceBounds],?_⟩;have:Value.slice b len cap=r:=hk;rw[<-this];simp[Addr.add]
 ·exact hk.elim
 ·obtain⟨c,hk⟩:=(show nQ _ _ from hk);refine⟨0,n2.toNat,cap,by simp[Instr.sliceBounds,dV c],?_⟩;have:=hk;simp only[A.wG,A.nat_eq,A.ta]at this;rw[<-this];simp
 ·obtain⟨c,hk⟩:=(show nQ _ _ from hk);refine⟨0,n2.toNat,n3.toNat,?_,?_⟩
  ·have c1:0<=n3/\n3<=(cap:Int):=⟨c.1,c.2.1⟩;have c2:0<=n2/\n2<=(n3.toNat:Int):=⟨c.2.2.1,by omega⟩;simp[Instr.sliceBounds,dV c1,dV c2]
  ·have:=hk;simp only[A.wG,A.nat_eq,A.ta]at this;rw[<-this];have:(n3=0)↔(n3.toNat=0):=by omega
   simp[this]
 ·obtain⟨c,hk⟩:=(show nQ _ _ from hk);refine⟨n1.toNat,len,cap,by simp[Instr.sliceBounds,dV c],?_⟩;have:=hk;simp only[A.wG,A.nat_eq,A.ta]at this;rw[<-this];have e:(Int.ofNat cap=n1)↔(cap=n1.toNat):=by have:=c.1;simp;omega
  simp only[e];congr 1<;>(try simp)<;>omega
 ·exact hk.elim
 ·obtain⟨c,hk⟩:=(show nQ _ _ from hk);refine⟨n1.toNat,n2.toNat,cap,?_,?_⟩
  ·have c1:0<=n2/\n2<=(cap:Int):=⟨c.1,c.2.1⟩;have c2:0<=n1/\n1<=(n2.toNat:Int):=⟨c.2.2.1,by omega⟩;simp[Instr.sliceBounds,dV c1,dV c2]
  ·have:=hk;simp only[A.wG,A.nat_eq,A.ta]at this;rw[<-this];have e:(Int.ofNat cap=n1)↔(cap=n1.toNat):=by have:=c.2.2.1;simp;omega
   simp only[e];congr 1<;>(try simp)<;>omega
 ·obtain⟨c,hk⟩:=(show nQ _ _ from hk);refine⟨n1.toNat,n2.toNat,n3.toNat,?_,?_⟩
  ·have c1:0<=n3/\n3<=(cap:Int):=⟨c.1,c.2.1⟩;have c2:0<=n2/\n2<=(n3.toNat:Int):=⟨c.2.2.1,by omega⟩;have c3:0<=n1/\n1<=(n2.toNat:Int):=⟨c.2.2.2.2.1,by omega⟩;simp[Instr.sliceBounds,dV c1,dV c2,dV c3]
  ·have:=hk;simp only[A.wG,A.nat_eq,A.ta]at this;rw[<-this];have e:(n3=n1)↔(n3.toNat=n1.toNat):=by omega
   simp only[e];congr 1<;>omega
theorem Di{s:ByteArray}{l hh:Option Int}{r:Value}{lo hi:Option Value}
 (h1:(l=none/\lo=none)\/(∃n k,l=some n/\lo=some (.int k n)))
 (h2:(hh=none/\hi=none)\/(∃n k,hh=some n/\hi=some (.int k n)))
 (hk:ve A s l hh (fun x=>x=r)) (w:World):
 ∃L H M:Nat,(Instr.sliceBounds false s.size s.size lo hi none).run P w=.ok (L,H,M) w/\r=.string (s.extract L H):=by
 rcases h1 with ⟨rfl,rfl⟩ | ⟨n1,k1,rfl,rfl⟩<;>rcases h2 with ⟨rfl,rfl⟩ | ⟨n2,k2,rfl,rfl⟩
 ·refine⟨0,s.size,s.size,by simp[Instr.sliceBounds],?_⟩;have:Value.string s=r:=hk;rw[<-this];simp
 ·obtain⟨c,hk⟩:=(show nQ _ _ from hk);refine⟨0,n2.toNat,s.size,by simp[Instr.sliceBounds,dV c],?_⟩;have:=hk;simp only[A.sub_eq]at this;rw[<-this];rfl
 ·obtain⟨c,hk⟩:=(show nQ _ _ from hk);refine⟨n1.toNat,s.size,s.size,by simp[Instr.sliceBounds,dV c],?_⟩;have:=hk;simp only[A.sub_eq,A.Jf]at this;rw[<-this];rfl
 ·obtain⟨c,hk⟩:=(show nQ _ _ from hk);refine⟨n1.toNat,n2.toNat,s.size,?_,?_⟩
  ·have c1:0<=n2/\n2<=(s.size:Int):=⟨c.1,c.2.1⟩;have c2:0<=n1/\n1<=(n2.toNat:Int):=⟨c.2.2.1,by omega⟩;simp[Instr.sliceBounds,dV c1,dV c2]
  ·have:=hk;simp only[A.sub_eq]at this;rw[<-this]
theorem L5{op:BinOp}{t:TypeId}{x y:Operand}{u v r:Value}(hb:P6 A op u v=some r)(w:World):
 (do eqGuard op t x y u v;Go.binOp op t u v:Sem Value).run P w=.ok r w:=by
 have hg:(eqGuard op t x y u v).run P w=.ok () w:=by
  unfold P6 at hb;cases u<;>first
   | (simp at hb;done)
   | (cases v<;>first
    | (simp at hb;done)
    | (unfold eqGuard;split<;>rfl))
 rw[Sem.run_bind,hg,Result.andThen_ok];unfold P6 at hb;split at hb
 ·rename_i k c k' d;split at hb<;>first
   |cases hb
   | (split at hb
      ·rename_i Ah;subst Ah;cases hb;first
        | (simp[Go.binOp,Op.intArith,A.qF,bA];done)
        | (simp[Go.binOp,Op.intBits,A.qF,bA];done)
        | (simp[Go.binOp,Op.intCmp,A.KC,aG];done)
      ·cases hb)
 ·split at hb<;>first
   | (cases hb;rw[A.Jp];rfl)
   | (cases hb;done)
 ·cases hb
theorem L7{op:BinOp}{t:TypeId}{x y:Operand}{u v r:Value}{PH:Unit->Prop}(hb:Cw A op u v (fun z=>z=r) PH)
 (he:PH ()->∀w,(do eqGuard op t x y u v;Go.binOp op t u v:Sem Value).run P w=.ok r w) (w:World):
 (do eqGuard op t x y u v;Go.binOp op t u v:Sem Value).run P w=.ok r w:=by
 unfold Cw at hb;split at hb
 ·rename_i ka c;split at hb
  ·rename_i kb d;split at hb
   ·split at hb
    ·rename_i hk;have hk:=of_decide_eq_true hk;subst hk;obtain⟨h1,h2⟩:=hb;subst h2;simp[eqGuard,Go.binOp,Op.intDiv,A.qF,bA,h1]
    ·exact he hb w
   ·split at hb
    ·rename_i hk;have hk:=of_decide_eq_true hk;subst hk;obtain⟨h1,h2⟩:=hb;subst h2;simp[eqGuard,Go.binOp,Op.intDiv,A.qF,bA,h1]
    ·exact he hb w
   ·obtain⟨h1,h2⟩:=hb;subst h2;have:¬d<0:=by omega
    simp[eqGuard,Go.binOp,Op.shift,A.qF,bA,this]
   ·obtain⟨h1,h2⟩:=hb;subst h2;have:¬d<0:=by omega
    simp[eqGuard,Go.binOp,Op.shift,A.qF,bA,this]
   ·exact he hb w
  ·exact he hb w
 ·rename_i c;split at hb
  ·rename_i d;split at hb
   ·obtain⟨h1,h2⟩:=hb;subst h2;have hm:IntKind.i64.max=9223372036854775807:=by decide
    have Hu:(2:Int)^62=4611686018427387904:=by decide
    have:¬(9223372036854775807<(c.size:Int)+(d.size:Int)):=by rw[Hu]at h1;omega
    have vY:A.cat c d=c++d:=by rw[A.Ww]
    rw[vY];simp[eqGuard,Go.binOp,Op.stringOp,this]
   ·exact he hb w
  ·exact he hb w
 ·exact he hb w
theorem rR(hT:dU P T)(d:Nat)(xs ys:Array Value)(w:World):∀(fs:List Field) (i:Nat) (t:Bool),
 ((fs.zipIdx i).all fun(f,i)=>f.offset==i&&decide (f.name≠ "_")&&(match P.info? f.type,P.underlying f.type with
   |some i,some .bool|some i,some (.int _) |some i,some .string=>i.size==1
   |_,_=>false))=true->
 gU A T.ty (fs.map fun f=>(f.type,f.offset)) (xs.toList.drop i) (ys.toList.drop i)=some t->(Op.eqFields (d+1) xs ys fs).run P w=.ok t w
 | [],i,t,_,he=>by
  simp only[List.map_nil]at he;cases hx:xs.toList.drop i with
  |cons x r=>rw[hx]at he;simp[gU]at he
  |nil=>
   cases hy:ys.toList.drop i with
   |nil=>rw[hx,hy]at he;simp[gU]at he;subst he;rfl
   |cons y r=>rw[hx,hy]at he;simp[gU]at he
 |f::fs,i,t,aO,he=>by
  simp only[List.zipIdx_cons,List.all_cons,Bool.and_eq_true,beq_iff_eq,decide_eq_true_eq]at aO;obtain⟨⟨⟨OX,rD⟩,htyp⟩,KP⟩:=aO;simp only[List.map_cons]at he;cases hx:xs.toList.drop i with
  |nil=>rw[hx]at he;simp[gU]at he
  |cons x r=>
   have KG:xs[i]? =some x:=by have:=congrArg (·[0]?) hx;simpa using this
   have hr:xs.toList.drop (i+1)=r:=by have:=congrArg (List.drop 1) hx;simpa[List.drop_drop,Nat.add_comm]using this
   cases hy:ys.toList.drop i with
   |nil=>rw[hx,hy]at he;simp[gU]at he
   |cons y q=>
    have hyi:ys[i]? =some y:=by have:=congrArg (·[0]?) hy;simpa using this
    have hq:ys.toList.drop (i+1)=q:=by have:=congrArg (List.drop 1) hy;simpa[List.drop_drop,Nat.add_comm]using this
    rw[hx,hy]at he;have ih:=fun t' KJ=>rR hT d xs ys w fs (i+1) t' KP (by rw[hr,hq];exact KJ);have bW:f.name≠ "_" :=rD;have Lj:∀k,(T.ty f.type).kd=k->k≠.none->∃dd,P.underlying f.type=some dd/\k=mB dd:=fun k hk KY=>by
     obtain⟨dd,-,h1,h2,-⟩:=(eL hT (t:=f.type) (by rw[hk];exact KY)).bN w;exact⟨dd,h1,by rw[<-hk,h2]⟩
    have fin:∀(dd:TypeDesc) (b:Bool) (t':Bool),P.underlying f.type=some dd->(isAgg f.type).run P w=.ok false w->(Op.equalIn (d+1) f.type x y).run P w=.ok b w->
     gU A T.ty (fs.map fun f=>(f.type,f.offset)) r q=some t'->t=(b&&t')->(Op.eqFields (d+1) xs ys (f::fs)).run P w=.ok t w:=fun dd b t' Ip Z9 hb KJ ht=>by
     have hpx:(part f.type xs f.offset).run P w=.ok x w:=by unfold part;rw[Sem.run_bind,Z9];simp[OX,KG]
     have hpy:(part f.type ys f.offset).run P w=.ok y w:=by unfold part;rw[Sem.run_bind,Z9];simp[OX,hyi]
     unfold Op.eqFields;rw[if_pos bW];simp only[Sem.run_bind,hpx,hpy,Result.andThen_ok,hb,ht];cases b with
     |false=>rfl
     |true=>simp[ih t' KJ]
    unfold gU at he;split at he
    ·rename_i hk;obtain⟨dd,Ip,fx⟩:=Lj _ hk (by simp);obtain⟨k,rfl⟩:∃k,dd=.int k:=by cases dd<;>simp[mB]at fx;exact⟨_,rfl⟩
     split at he
     ·split at he
      ·split at he
       ·rename_i Ah;split at he
        ·rename_i k1 a1 k2 a2 t' KJ;cases he;have Hl:=of_decide_eq_true Ah;subst Hl;refine fin _ _ _ Ip ?_ (run_equalIn_int w d _ _ _ _ _ Ip) KJ (by rw[A.and_eq,A.KC];rfl);unfold isAgg;rw[Sem.run_bind,run_underlying Ip w];rfl
        ·cases he
       ·cases he
      ·cases he
     ·cases he
    ·rename_i hk;obtain⟨dd,Ip,fx⟩:=Lj _ hk (by simp);obtain rfl:dd=.string:=by cases dd<;>simp[mB]at fx;rfl
     split at he
     ·split at he
      ·split at he
       ·rename_i a1 a2 t' KJ;cases he;refine fin _ _ _ Ip ?_ (run_equalIn_string w d _ _ _ Ip) KJ (by rw[A.and_eq,A.Jp];rfl);unfold isAgg;rw[Sem.run_bind,run_underlying Ip w];rfl
       ·cases he
      ·cases he
     ·cases he
    ·rename_i hk;obtain⟨dd,Ip,fx⟩:=Lj _ hk (by simp);obtain rfl:dd=.bool:=by cases dd<;>simp[mB]at fx;rfl
     split at he
     ·split at he
      ·split at he
       ·rename_i a1 a2 t' KJ;cases he;refine fin _ _ _ Ip ?_ (run_equalIn_bool' w d _ _ _ Ip) KJ (by rw[A.and_eq,A.Ew];rfl);unfold isAgg;rw[Sem.run_bind,run_underlying Ip w];rfl
       ·cases he
      ·cases he
     ·cases he
    ·cases he
theorem vD{op:BinOp}{b:Bool}{r:Value}(h:neg A op b=some r):(op=.eql/\r=.bool b)\/(op=.neq/\r=.bool (!b)):=by
 unfold neg at h;split at h
 ·cases h;exact .inl ⟨rfl,rfl⟩
 ·cases h;exact .inr ⟨rfl,by rw[A.not_eq]⟩
 ·cases h
theorem LR(hT:dU P T){op:BinOp}{t:TypeId}{x y:Operand}{u v r:Value}(hb:Wq A T.ty (T.ty t) op u v=some r)(w:World):
 (do eqGuard op t x y u v;Go.binOp op t u v:Sem Value).run P w=.ok r w:=by
 unfold Wq at hb;split at hb
 ·rename_i e he;have hi:=eL hT (ep he);obtain⟨d,hd,Hp,fx,-⟩:=hi.bN w;obtain rfl:=kR (fx ▸ he);split at hb
  ·rename_i b l c;split at hb
   ·rename_i l2 c2;have hg:(eqGuard op t x y (.slice b l c) (.slice none l2 c2)).run P w=.ok () w:=by unfold eqGuard;split<;>rfl
    have heq:(Op.equal t (.slice b l c) (.slice none l2 c2)).run P w=.ok b.isNone w:=by unfold Op.equal Op.maxDepth Op.equalIn;rw[Sem.run_bind,hd,Result.andThen_ok];cases b<;>rfl
    rw[Sem.run_bind,hg,Result.andThen_ok];rcases vD hb with ⟨rfl,rfl⟩ | ⟨rfl,rfl⟩
    ·simp[Go.binOp,heq,A.Kq]
    ·simp[Go.binOp,heq,A.Kq]
   ·cases hb
  ·cases hb
 ·rename_i he;have hi:=eL hT (show(T.ty t).kd≠.none by rw[he];simp);obtain⟨d,hd,Hp,fx,-⟩:=hi.bN w;obtain rfl:d=.bool:=by rw[fx]at he;cases d<;>simp[mB]at he;rfl
  split at hb
  ·rename_i b;split at hb
   ·rename_i c;have hg:(eqGuard op t x y (.bool b) (.bool c)).run P w=.ok () w:=by unfold eqGuard;split<;>rfl
    have heq:(Op.equal t (.bool b) (.bool c)).run P w=.ok (b==c) w:=run_equalIn_bool' w 9999 t b c Hp;rw[Sem.run_bind,hg,Result.andThen_ok];rcases vD hb with ⟨rfl,rfl⟩ | ⟨rfl,rfl⟩
    ·simp[Go.binOp,heq,A.Ew,AA]
    ·simp[Go.binOp,heq,A.Ew,AA]
   ·cases hb
  ·cases hb
 ·rename_i fs he;have hi:=eL hT (m0 he);obtain⟨ti,d,z,-,Hp,-,-,-,-,-,fx,ZO⟩:=hi.ex;obtain⟨F,rfl,hF⟩:=rq (fx ▸ he);split at hb
  ·rename_i xE;rw[ZO]at xE;simp only[Eg,Bool.and_eq_true,Bool.not_eq_true']at xE;obtain⟨⟨h1,h2⟩,h3⟩:=xE;split at hb
   ·rename_i xs;split at hb
    ·rename_i ys;split at hb
     ·rename_i tt htt;have hg:(eqGuard op t x y (.agg xs) (.agg ys)).run P w=.ok () w:=run_eqGuard_agg w op t x y xs ys h1;have Xw:P.fieldsOf t=F:=by simp[Program.fieldsOf,Hp]
      have K7:P.underlying t=some (.struct (P.fieldsOf t)):=by rw[Xw];exact Hp
      have heq:(Op.equalIn 10000 t (.agg xs) (.agg ys)).run P w=.ok tt w:=by rw[run_equalIn_agg w 9999 t xs ys K7 h2,Xw];exact rR hT 9998 xs ys w F.toList 0 tt h3 (by simpa[hF]using htt)
      rw[Sem.run_bind,hg,Result.andThen_ok];rcases vD hb with ⟨rfl,rfl⟩ | ⟨rfl,rfl⟩
      ·rw[run_eql_struct,heq];rfl
      ·rw[run_neq_struct,heq];rfl
     ·cases hb
    ·cases hb
   ·cases hb
  ·cases hb
 ·cases hb
variable {P:Program}{T:aU}{A:Ar}[aV A]
variable {ds:List Deferred}{h0:ad}{w0:World}{β:Nat->Nat}{env:Env}{L:Loc}{h:ad}{a:Act}{w:World}
theorem C9{α:Type}{P:Program}{w:World}{x:Sem α}{f:α->Sem Next}{r:α}(hx:x.run P w=.ok r w):(x >>= f).run P w=(f r).run P w:=by rw[Sem.run_bind,hx];rfl
def dx(P:Program)(β:Nat->Nat)(L:Loc)(a:Act)(w:World)(o:Oper)(sv:SV):Prop:=
 ∃v,(execOp a.eval o).run P w=.ok (.value v) w/\mP β L sv v
theorem dx.fin(hs:cC ds h0 w0 β env L h a w){o:Oper}{sv:SV}(hq:dx P β L a w o sv):
 ∃v w' lZ,(execOp a.eval o).run P w=.ok (.value v) w'/\cC ds h0 w0 lZ (put env o.dst sv) (nB L o.dst none) h (a.put o.dst v) w':=by
 obtain⟨v,hv,jC⟩:=hq;refine⟨v,w,β,hv,?_⟩;have:nB L o.dst none=L:=by unfold nB;cases o.dst<;>rfl
 rw[this];exact hs.put jC
theorem vo(hT:dU P T){f:Field}{n:Nat}(hk:(T.ty f.type).kd.isNone=false)(hn:(T.ty f.type).size=n+1)(x:Addr)(w:World):
 (fieldPlace x f).run P w=.ok (x.add f.offset) w:=by
 have hi:=eL hT (eH hk);simp[fieldPlace,hi.ee,hn]
theorem Cf{F:Array Field}{i ft off:Nat}{fs:List (Nat×Nat)}(hF:fs=F.toList.map fun f=>(f.type,f.offset))(hf:fs[i]? =some (ft,off)):
 ∃f,F[i]? =some f/\f.type=ft/\f.offset=off:=by
 subst hF;rw[List.getElem?_map]at hf;cases hh:F.toList[i]? with
 |none=>simp[hh]at hf
 |some f=>simp[hh]at hf;exact⟨f,by simpa using hh,hf.1,hf.2⟩
theorem BB(hs:cC ds h0 w0 β env L h a w){s off n:Nat}{c cs:List Value}(hl:iM L s=some c)(ht:takeN c off n=some cs):
 cs.length=n/\∀j,j<cs.length->w.cell? ⟨β s,off+j,none⟩=cs[j]? :=by
 obtain⟨h1,h2⟩:=uX ht;obtain⟨-,-,e,he⟩:=hs.loc s c hl;refine⟨h1,fun j hj=>?_⟩;rw[FO he,<-h2 j hj];simp
set_option maxHeartbeats 1000000 in
theorem sQ(hT:dU P T)(hs:cC ds h0 w0 β env L h a w){o:Oper}{sv:SV}{nb:Option (List Value)}
 (hl:fD A T (fun _=>P) o (Sx.kE env) L h (fun x y=>x=sv/\y=nb)):
 ∃v w' lZ,(execOp a.eval o).run P w=.ok (.value v) w'/\cC ds h0 w0 lZ (put env o.dst sv) (nB L o.dst nb) h (a.put o.dst v) w':=by
 unfold fD at hl;split at hl;case h_1 x ho=>-- move
  obtain⟨rfl,rfl⟩:=hl;exact dx.fin hs ⟨_,by simp only[execOp,ho];rfl,hs.kE x⟩
 case h_2 c x y ho=>-- pick
  split at hl
  ·rename_i hc;obtain⟨rfl,rfl⟩:=hl;exact dx.fin hs ⟨_,by simp only[execOp,ho,hs.aZ hc];rfl,hs.kE x⟩
  ·rename_i hc;obtain⟨rfl,rfl⟩:=hl;exact dx.fin hs ⟨_,by simp only[execOp,ho,hs.aZ hc];rfl,hs.kE y⟩
  ·exact hl.elim
 case h_3 e ho=>-- alloc
  split at hl
  ·exact hl.elim
  ·rename_i hk;split at hl
   ·exact hl.elim
   ·rename_i d hd;split at hl
    ·rename_i vQ;obtain⟨rfl,rfl⟩:=hl;obtain⟨z,hz,BI⟩:=(eL hT (eH hk)).kL w;have hb:=hs.box vQ (T.ty e).zero e;rw[hd];refine⟨_,_,_,?_,hb⟩;simp only[execOp,ho,Instr.alloc,Sem.run_bind,hz,Result.andThen_ok,newVar,newRow,run_newObj,Sem.run_pure];rw[<-BI]
    ·exact hl.elim
 case h_4 e x ho=>-- box
  split at hl
  ·exact hl.elim
  ·rename_i d hd;split at hl
   ·rename_i v hv;split at hl
    ·rename_i vQ;obtain⟨rfl,rfl⟩:=hl;have hb:=hs.box vQ v.cells.toList e;rw[hd];refine⟨_,_,_,?_,hb⟩;simp only[execOp,ho,Instr.box,Sem.run_bind,Result.andThen_ok,newVar,newRow,run_newObj,Sem.run_pure,hs.aZ hv]
    ·exact hl.elim
   ·exact hl.elim
 case h_5 t x ho=>-- load
  split at hl
  ·exact hl.elim
  ·rename_i hk;have hi:=eL hT (eH hk);split at hl
   ·rename_i s off hx;split at hl
    ·rename_i c hc;split at hl
     ·rename_i cs aC;obtain⟨h1,h2⟩:=BB hs hc aC;obtain⟨v,h3,h4⟩:=iI hl;obtain⟨rfl,rfl⟩:=h4;obtain⟨v',h5,h6⟩:=lE hi w (β s) off cs h1 h2 h3;subst h6;exact dx.fin hs ⟨_,by simp only[execOp,ho,(hs.mF hx).2,Instr.loadAt,Instr.sureAddr,Sem.run_bind,Sem.run_pure,Result.andThen_ok,h5],rfl⟩
     ·exact hl.elim
    ·exact hl.elim
   ·rename_i y hx;obtain⟨cs,h1,hl⟩:=hl.out;obtain⟨g1,g2,g3⟩:=h1.cell hs.after.wU;obtain⟨v,h3,h4⟩:=iI hl;obtain⟨rfl,rfl⟩:=h4;obtain⟨v',h5,h6⟩:=lE hi w y.block y.off cs g2 g3 h3;subst h6;have:y=⟨y.block,y.off,none⟩:=by cases y;simp at g1;rw[g1]
    exact dx.fin hs ⟨_,by simp only[execOp,ho,hs.aZ hx,Instr.loadAt,Instr.sureAddr,Sem.run_bind,Sem.run_pure,Result.andThen_ok];rw[this,h5];rfl,rfl⟩
   ·exact hl.elim
 case h_6 x ho=>-- nilCheck
  split at hl
  ·rename_i s off hx;obtain⟨rfl,rfl⟩:=hl;have:=hs.mF hx;exact dx.fin hs ⟨_,by simp only[execOp,ho,this.2];rfl,this.1,rfl⟩
  ·rename_i y hx;obtain⟨rfl,rfl⟩:=hl;exact dx.fin hs ⟨_,by simp only[execOp,ho,hs.aZ hx];rfl,rfl⟩
  ·exact hl.elim
 case h_7 t x f ho=>-- fieldAddr
  split at hl
  ·rename_i fs K7;have hi:=eL hT (m0 K7);obtain⟨d,hd,-,fx,-⟩:=hi.bN w;obtain⟨F,rfl,hF⟩:=rq (fx ▸ K7);split at hl
   ·rename_i ft off hf;obtain⟨fd,hfd,rfl,rfl⟩:=Cf hF hf;split at hl
    ·exact hl.elim
    ·rename_i hk;split at hl
     ·exact hl.elim
     ·rename_i n hn;have hp:=fun y=>vo hT hk hn y w;split at hl
      ·rename_i s off hx;obtain⟨rfl,rfl⟩:=hl;have:=hs.mF hx;exact dx.fin hs ⟨_,by simp only[execOp,ho,this.2,Instr.fieldAt,Instr.sureAddr,Sem.run_bind,hd,Result.andThen_ok,hfd,Sem.run_pure,hp,bY],this.1,rfl⟩
      ·rename_i y hx;obtain⟨rfl,rfl⟩:=hl;exact dx.fin hs ⟨_,by simp only[execOp,ho,hs.aZ hx,Instr.fieldAt,Instr.sureAddr,Sem.run_bind,hd,Result.andThen_ok,hfd,Sem.run_pure,hp];rfl,by simp[mP,A.Td]⟩
      ·exact hl.elim
   ·exact hl.elim
  ·exact hl.elim
 case h_8 t x ix ho=>-- indexAddr
  split at hl
  ·rename_i kk n Im;split at hl
   ·rename_i e he;have hi:=eL hT (ep he);obtain⟨d,hd,-,fx,-⟩:=hi.bN w;obtain rfl:=kR (fx ▸ he);split at hl
    ·exact hl.elim
    ·rename_i hk;have jR:=eL hT (eH hk);split at hl
     ·rename_i b len cap hx;obtain⟨⟨g1,g2,g3⟩,rfl,rfl⟩:=(show nQ _ _ from hl);obtain⟨y,rfl⟩:=Option.isSome_iff_exists.1 g1;refine dx.fin hs ⟨.pointer (some (y.add (n.toNat*(T.ty e).size))),?_,by simp[mP,A.oT,ja]⟩;simp[execOp,ho,hs.aZ hx,hs.aZ Im,Instr.indexAt,asIntOf,hd,jR.ee,g2,g3]
     ·exact hl.elim
   ·rename_i m e he;have hi:=eL hT (DM he);obtain⟨d,hd,-,fx,-⟩:=hi.bN w;obtain rfl:=Kl (fx ▸ he);split at hl
    ·exact hl.elim
    ·rename_i hk;have jR:=eL hT (eH hk);split at hl
     ·rename_i s off hx;obtain⟨⟨g2,g3⟩,rfl,rfl⟩:=(show nQ _ _ from hl);have:=hs.mF hx;refine dx.fin hs ⟨.pointer (some ⟨β s,off+n.toNat*(T.ty e).size,none⟩),?_,this.1,by simp[A.YV]⟩;simp[execOp,ho,this.2,hs.aZ Im,Instr.indexAt,asIntOf,hd,jR.ee,g2,g3,Instr.sureAddr,bY]
     ·rename_i y hx;obtain⟨⟨g2,g3⟩,rfl,rfl⟩:=(show nQ _ _ from hl);refine dx.fin hs ⟨.pointer (some (y.add (n.toNat*(T.ty e).size))),?_,by simp[mP,A.oT,ja]⟩;simp[execOp,ho,hs.aZ hx,hs.aZ Im,Instr.indexAt,asIntOf,hd,jR.ee,g2,g3,Instr.sureAddr]
     ·exact hl.elim
   ·exact hl.elim
  ·exact hl.elim
 case h_9 t x ix ho=>-- index
  split at hl
  ·rename_i kk n Im;split at hl
   ·rename_i he;have hi:=eL hT (show(T.ty t).kd≠.none by rw[he];simp);obtain⟨d,hd,-,fx,-⟩:=hi.bN w;obtain rfl:=DI (fx ▸ he);split at hl
    ·rename_i s hx;obtain⟨⟨g2,g3⟩,rfl,rfl⟩:=(show nQ _ _ from hl);have aK:n.toNat<s.size:=by omega
     refine dx.fin hs ⟨.int .u8 (s[n.toNat].toNat:Int),?_,?_⟩
     ·simp[execOp,ho,hs.aZ hx,hs.aZ Im,Instr.index,asIntOf,hd,g2,aK]
     ·have:n.toNat<s.data.size:=aK;simp only[mP,A.P5,Array.getD_eq_getD_getElem?,Array.getElem?_eq_getElem this];rfl
    ·exact hl.elim
   ·exact hl.elim
  ·exact hl.elim
 case h_10 t x f ho=>-- field
  split at hl
  ·rename_i fs K7;have hi:=eL hT (m0 K7);obtain⟨d,hd,-,fx,-⟩:=hi.bN w;obtain⟨F,rfl,hF⟩:=rq (fx ▸ K7);split at hl
   ·rename_i ft off hf;obtain⟨fd,hfd,rfl,rfl⟩:=Cf hF hf;split at hl
    ·exact hl.elim
    ·rename_i hk;have hif:=eL hT (eH hk);split at hl
     ·rename_i cs hx;split at hl
      ·rename_i ds ZR;obtain⟨h1,h2⟩:=uX ZR;obtain⟨v,h3,h4⟩:=iI hl;obtain⟨rfl,rfl⟩:=h4;refine dx.fin hs ⟨v,?_,rfl⟩;have Zw:(part fd.type cs fd.offset).run P w=.ok v w:=by
        unfold part;rw[Sem.run_bind,hif.yh];unfold nK at h3;cases hg:(T.ty fd.type).agg with
        |true=>
         simp only[hg]at h3;subst h3;unfold takeN at ZR;split at ZR
         ·cases ZR;simp only[Result.andThen_ok,if_true,Sem.run_bind,hif.ee,Sem.run_pure];congr 2;apply Array.ext';simp[Array.toList_extract,List.extract]
         ·cases ZR
        |false=>
         simp only[hg]at h3;cases ds with
         |nil=>exact h3.elim
         |cons y r=>simp only at h3;subst h3;have:=h2 0 (by simp);simp only[Nat.add_zero,Array.getElem?_toList,List.getElem?_cons_zero]at this;simp[this]
       simp only[execOp,ho,hs.aZ hx,Instr.field,Sem.run_bind,hd,Result.andThen_ok,hfd,asAgg,Sem.run_pure,Zw]
      ·exact hl.elim
     ·exact hl.elim
   ·exact hl.elim
  ·exact hl.elim
 case h_11 x i ho=>-- extract
  split at hl
  ·rename_i vs hx;split at hl
   ·rename_i v hv;obtain⟨rfl,rfl⟩:=hl;simp only[Array.getElem?_toList]at hv;exact dx.fin hs ⟨v,by simp[execOp,ho,hs.aZ hx,Instr.extract,hv],rfl⟩
   ·exact hl.elim
  ·exact hl.elim
 case h_12 t parts ho=>-- build
  split at hl
  ·exact hl.elim
  ·rename_i hk;split at hl
   ·rename_i ps hps;split at hl
    ·rename_i cs aC;obtain⟨rfl,rfl⟩:=hl;have h1:=run_build hT w hk aC;have h2:(parts.map fun(i,x)=>(i,a.eval x))=ps.toArray:=by rw[<-ou hs hps];apply Array.ext';simp
     exact dx.fin hs ⟨_,by simp only[execOp,ho,h2,Sem.run_bind,h1,Result.andThen_ok,Sem.run_pure],rfl⟩
    ·exact hl.elim
   ·exact hl.elim
 case h_13 op t x y ty ho=>-- binOp
  split at hl
  ·rename_i u hu;split at hl
   ·rename_i v hv;split at hl
    ·rename_i r hr;obtain⟨rfl,rfl⟩:=hl;have:=L5 (P:=P) (A:=A) (t:=t) (x:=x) (y:=y) hr w;exact dx.fin hs ⟨_,by simp only[execOp,ho,hs.aZ hu,hs.aZ hv];rw[C9 this];rfl,rfl⟩
    ·split at hl
     ·rename_i r hr;obtain⟨rfl,rfl⟩:=hl;have:=LR (A:=A) hT (x:=x) (y:=y) hr w;exact dx.fin hs ⟨_,by simp only[execOp,ho,hs.aZ hu,hs.aZ hv];rw[C9 this];rfl,rfl⟩
     ·obtain⟨r,⟨rfl,rfl⟩,h2⟩:=wO (e:=fun k _=>tp _ _ k) (fun k h=>by
       obtain⟨v,g1,g2⟩:=h.out;exact⟨v,g2,fun k' h'=>⟨v,g1,h'⟩⟩) hl
      have:=L7 (P:=P) (A:=A) (t:=t) (x:=x) (y:=y) (h2 (fun z=>z=r) rfl) (fun h w=>by
       obtain⟨v,g1,rfl⟩:=h.out;exact g1 w) w
      exact dx.fin hs ⟨_,by simp only[execOp,ho,hs.aZ hu,hs.aZ hv];rw[C9 this];rfl,rfl⟩
   ·exact hl.elim
  ·exact hl.elim
 case h_14 op t x ho=>-- unOp
  split at hl
  ·rename_i b hx;split at hl
   ·obtain⟨rfl,rfl⟩:=hl;exact dx.fin hs ⟨.bool (!b),by simp only[execOp,ho,hs.aZ hx];rfl,by simp[mP,A.not_eq]⟩
   ·exact hl.elim
  ·rename_i kd n hx;split at hl
   ·obtain⟨rfl,rfl⟩:=hl;exact dx.fin hs ⟨.int kd (kd.wrap (0-n)),by simp only[execOp,ho,hs.aZ hx];rfl,by simp[mP,A.qF,bA]⟩
   ·exact hl.elim
  ·exact hl.elim
 case h_15 src dst x ho=>-- convert
  split at hl
  ·rename_i q n hx;split at hl
   ·rename_i kd fx;split at hl
    ·rename_i ks hks;obtain⟨rfl,rfl⟩:=hl;obtain⟨d1,Vn,-,nO,-⟩:=(eL hT (t:=dst) (by rw[fx];simp)).bN w;obtain⟨d2,M4,-,nh,-⟩:=(eL hT (t:=src) (by rw[hks];simp)).bN w;have e1:d1=.int kd:=by rw[fx]at nO;cases d1<;>simp[mB]at nO;rw[nO]
     have e2:d2=.int ks:=by rw[hks]at nh;cases d2<;>simp[mB]at nh;rw[nh]
     subst e1 e2;have hr:(Go.convert src dst (.int q n)).run P w=.ok (.int kd (A.conv kd n)) w:=by rw[A.PO];simp[Go.convert,Vn,M4,Conv.intToInt]
     exact dx.fin hs ⟨_,by simp only[execOp,ho,hs.aZ hx];rw[C9 hr];rfl,rfl⟩
    ·exact hl.elim
   ·obtain⟨r,h1,rfl,rfl⟩:=(show tp _ _ _ from hl).out;exact dx.fin hs ⟨r,by simp only[execOp,ho,hs.aZ hx];rw[C9 (h1 w)];rfl,rfl⟩
  ·rename_i u hu hx;obtain⟨r,h1,rfl,rfl⟩:=(show tp _ _ _ from hl).out;exact dx.fin hs ⟨r,by simp only[execOp,ho,hs.aZ hx];rw[C9 (h1 w)];rfl,rfl⟩
  ·exact hl.elim
 case h_16 t x ho=>-- makeInterface
  split at hl
  ·exact hl.elim
  ·exact hl.elim
  ·rename_i nO nh;split at hl
   ·rename_i v hx;obtain⟨rfl,rfl⟩:=hl;have hi:=eL hT (t:=t) (fun e=>nh e);obtain⟨d,hd,-,fx,-⟩:=hi.bN w;refine dx.fin hs ⟨.iface t v,?_,rfl⟩;simp only[execOp,ho,hs.aZ hx,Instr.makeInterface,Sem.run_bind,hd,Result.andThen_ok];cases d<;>first
     |rfl
     | (exact absurd fx (by simpa[mB]using nO))
   ·exact hl.elim
 case h_17 fn f c ho=>-- makeFunc
  split at hl
  ·rename_i fs K7;split at hl
   ·rename_i cs aC;obtain⟨rfl,rfl⟩:=hl;refine dx.fin hs ⟨.func fn fs.toArray cs.toArray,?_,rfl⟩;simp only[execOp,ho,fR hs K7,fR hs aC];rfl
   ·exact hl.elim
  ·exact hl.elim
 case h_18 t x lo hi mx ho=>-- slice
  split at hl
  ·rename_i l hh m h1 h2 h3;have e1:=uZ hs h1;have e2:=uZ hs h2;have e3:=uZ hs h3;split at hl
   ·rename_i e he;have Ai:=eL hT (ep he);obtain⟨d,hd,-,fx,-⟩:=Ai.bN w;obtain rfl:=kR (fx ▸ he);split at hl
    ·exact hl.elim
    ·rename_i hk;have jR:=eL hT (eH hk);split at hl
     ·rename_i b len cap hx;obtain⟨v,hv,aO⟩:=pU hl;obtain⟨rfl,rfl⟩:=hv;obtain⟨Lo,Hi,Mx,hr,rfl⟩:=Dh (P:=P) (A:=A) e1 e2 e3 (aO (fun x=>x=v) rfl) w;refine dx.fin hs ⟨_,?_,rfl⟩;simp only[execOp,ho,hs.aZ hx,Instr.sliceAt,Instr.slice,Sem.run_bind,hd,Result.andThen_ok,hr,jR.ee,Sem.run_pure]
     ·exact hl.elim
   ·rename_i he;have Ai:=eL hT (show(T.ty t).kd≠.none by rw[he];simp);obtain⟨d,hd,-,fx,-⟩:=Ai.bN w;obtain rfl:=DI (fx ▸ he);split at hl
    ·rename_i s hx;split at hl
     ·obtain⟨v,hv,aO⟩:=pV hl;obtain⟨rfl,rfl⟩:=hv;obtain⟨Lo,Hi,Mx,hr,rfl⟩:=Di (P:=P) (A:=A) e1 e2 (aO (fun x=>x=v) rfl) w;have XM:mx.map a.eval=none:=by
       rcases e3 with e3| ⟨n,k,e3,-⟩
       ·exact e3.2
       ·cases e3
      refine dx.fin hs ⟨_,?_,rfl⟩;simp[execOp,ho,hs.aZ hx,Instr.sliceAt,Instr.slice,hd,hr,XM]
     ·exact hl.elim
    ·exact hl.elim
   ·exact hl.elim
  ·exact hl.elim
 case h_19 b args argTypes ho=>-- L4
  have oO:∀(vs:List Value),kG (args.toList.map (Sx.kE env))=some vs->
   (execOp a.eval o)=builtin b argTypes o.type (args.map fun| .const _=>true|_=>false) vs.toArray:=fun vs hv=>by
   simp only[execOp,ho,resolve];rw[fR hs hv];rfl
  split at hl
  ·split at hl
   ·rename_i t ht;split at hl
    ·rename_i q n r hv;split at hl
     ·rename_i e he;obtain⟨rfl,rfl⟩:=hl;have Ai:=eL hT (ep he);obtain⟨d,hd,-,fx,-⟩:=Ai.bN w;obtain rfl:=kR (fx ▸ he);refine dx.fin hs ⟨.int .i64 (Int.ofNat n),?_,by simp[mP,A.nat_eq]⟩;rw[oO _ hv];simp[builtin,Builtin.len_,ht,hd,goInt]
     ·exact hl.elim
    ·rename_i s hv;split at hl
     ·rename_i he;obtain⟨rfl,rfl⟩:=hl;have Ai:=eL hT (show(T.ty t).kd≠.none by rw[he];simp);obtain⟨d,hd,-,fx,-⟩:=Ai.bN w;obtain rfl:=DI (fx ▸ he);refine dx.fin hs ⟨.int .i64 (Int.ofNat s.size),?_,by simp[mP,A.Jf]⟩;rw[oO _ hv];simp[builtin,Builtin.len_,ht,hd,goInt]
     ·exact hl.elim
    ·exact hl.elim
   ·exact hl.elim
  ·split at hl
   ·rename_i t ht;split at hl
    ·rename_i q r n hv;split at hl
     ·rename_i e he;obtain⟨rfl,rfl⟩:=hl;have Ai:=eL hT (ep he);obtain⟨d,hd,-,fx,-⟩:=Ai.bN w;obtain rfl:=kR (fx ▸ he);refine dx.fin hs ⟨.int .i64 (Int.ofNat n),?_,by simp[mP,A.nat_eq]⟩;rw[oO _ hv];simp[builtin,Builtin.cap_,ht,hd,goInt]
     ·exact hl.elim
    ·exact hl.elim
   ·exact hl.elim
  ·split at hl
   ·rename_i kd x kd' y hv;obtain⟨rfl,rfl⟩:=hl;refine dx.fin hs ⟨.int kd (min x y),?_,by simp[mP,A.OI]⟩;rw[oO _ hv];simp only[builtin,Builtin.min_,List.foldlM_cons,List.foldlM_nil,Builtin.min2,Sem.run_bind,Sem.run_pure,Result.andThen_ok];congr 3;simp only[Int.min_def];split<;>split<;>omega
   ·exact hl.elim
  ·split at hl
   ·rename_i kd x kd' y hv;obtain⟨rfl,rfl⟩:=hl;refine dx.fin hs ⟨.int kd (max x y),?_,by simp[mP,A.OJ]⟩;rw[oO _ hv];simp only[builtin,Builtin.max_,List.foldlM_cons,List.foldlM_nil,Builtin.max2,Sem.run_bind,Sem.run_pure,Result.andThen_ok];congr 3;simp only[Int.max_def];split<;>split<;>omega
   ·exact hl.elim
  ·exact hl.elim
 case h_20 x q as ok ho=>-- typeAssert
  split at hl
  ·rename_i u hu;obtain⟨r,h1,rfl,rfl⟩:=(show tp _ _ _ from hl).out;exact dx.fin hs ⟨r,by simp only[execOp,ho,hs.aZ hu];rw[C9 (h1 w)];rfl,rfl⟩
  ·exact hl.elim
 case h_21=>exact hl.elim
variable {P:Program}{T:aU}{A:Ar}[aV A]
variable {ds:List Deferred}{h0:ad}{w0:World}{β:Nat->Nat}{env:Env}{L:Loc}{h:ad}{a:Act}{w:World}
theorem xM(z:List Value):∀(n i:Nat),i<n*z.length->(fq n z)[i]? =z[i % z.length]?
 |0,i,hi=>by simp at hi
 |n+1,i,hi=>by
  unfold fq;rw[List.replicate_succ,List.flatten_cons];by_cases hl:i<z.length
  ·rw[List.getElem?_append_left hl,Nat.mod_eq_of_lt hl]
  ·rw[List.getElem?_append_right (by omega)];have:=xM z n (i-z.length) (by rw[Nat.succ_mul]at hi;generalize n*z.length=q at *;omega);unfold fq at this;rw[this,<-Nat.mod_eq_sub_mod (by omega)]
theorem dy(z:List Value)(n:Nat):(fq n z).length=n*z.length:=by simp[fq,List.length_flatten]
theorem range_zero(z:Array Value)(n:Nat):(Array.range (n*z.size)).map (fun i=>z[i % z.size]!)=(fq n z.toList).toArray:=by
 apply Array.ext';apply List.ext_getElem?;intro i;by_cases hi:i<n*z.size
 ·have:=xM z.toList n i (by simpa using hi);simp only[Array.toList_map,List.getElem?_map,List.toList_toArray]at this |-;rw[this];have hz:0<z.size:=by
   rcases Nat.eq_zero_or_pos z.size with e|e
   ·rw[e]at hi;simp at hi
   ·exact e
  have hm:i % z.size<z.size:=Nat.mod_lt _ hz;simp[Array.toList_range,hi,hm]
 ·rw[List.getElem?_eq_none (by simp;omega),List.getElem?_eq_none (by simp[dy];omega)]
theorem pa(hs:uc h w){b:Option Addr}{size n:Nat}{cs:List Value}(hr:SN h b (n*size) cs)(x y:Nat):
 (Builtin.firstCells size n (.slice b x y)).run P w=.ok cs.toArray w:=by
 rcases hr with ⟨h1,rfl⟩ | ⟨q,rfl,hr⟩
 ·cases b with
  |none=>rfl
  |some q=>simp[Builtin.firstCells,h1,loadCells,loadCellsFrom]
 ·obtain⟨g1,g2,g3⟩:=hr.cell hs;simp only[Builtin.firstCells];rw[<-g2];have:q=⟨q.block,q.off,none⟩:=by cases q;simp at g1;rw[g1]
  rw[this];exact run_loadCells_list (P:=P) w _ cs (fun j v hv=>by
   have hj:j<cs.length:=by rw[List.getElem?_eq_some_iff]at hv;exact hv.1
   rw[bY,g3 j hj,hv])
theorem CI.run(hs:uc h w){q:Addr}{cs:List Value}{k:ad->Prop}(h1:jo cs=true)(hx:CI h q cs k):
 ∃w' h',(storeCells q cs).run P w=.ok () w'/\k h'/\aY h w h' w':=by
 obtain⟨c,e,fr,g1,g2,g3,g4,g5⟩:=hx.out;have hq:q=⟨q.block,q.off,none⟩:=by cases q;simp at g1;rw[g1]
 obtain⟨w',k1,k2,k3,k4,k5⟩:=kM (P:=P) (b:=q.block) (o:=q.off) (e:=e) (fr:=fr) cs 0 c w (hs _ _ g2) (by omega) (by simpa using g4) h1;refine⟨w',_,?_,g5 _ rfl,?_⟩
 ·rw[hq];exact k1
 ·exact aY.set hs g2 (by simpa using k2) k3 k4 k5
theorem R5.run(hs:uc h w){b:Option Addr}{cs:List Value}{k:ad->Prop}(h1:jo cs=true)(hx:R5 h b cs k):
 ∃w' h',((match b with|some q=>storeCells q cs|none=>pure ()):Sem Unit).run P w=.ok () w'/\k h'/\aY h w h' w':=by
 rcases hx with ⟨rfl,hk⟩ | ⟨q,rfl,hx⟩
 ·refine⟨w,h,?_,hk,aY.refl hs⟩;cases b<;>rfl
 ·exact hx.run hs h1
theorem yH(n:Nat)(hn:256<=n):∀(r c:Nat),c<=2*n->Builtin.growBy n r c<=2*n
 |0,c,h=>h
 |r+1,c,h=>by
  unfold Builtin.growBy;split
  ·exact h
  ·exact yH n hn r _ (by omega)
theorem Dx(n c:Nat)(h:c<n):Builtin.nextslicecap n c<=2*n:=by
 unfold Builtin.nextslicecap;split
 ·omega
 ·split
  ·omega
  ·exact yH n (by omega) 4 c (by omega)
theorem zH:(2:Int)^48=281474976710656:=rfl
theorem JC:(2:Nat)^48=281474976710656:=rfl
theorem wZ.run(hs:uc h w){b:Option Addr}{len cap n size bytes e:Nat}{new:List Value}{k:Value->ad->Prop}(hx:wZ h b len cap n size bytes e new k)
 {t u:TypeId} {argTypes:Array TypeId} (h0:argTypes[0]? =some t) (h1:argTypes[1]? =some u) {du:TypeDesc} (hu:P.underlying t=some (.slice e)) (huu:P.underlying u=some du)
 {ti:Ti} (hi:sh P e ti) (kf:ti.size=size) (pE:ti.bytes=bytes) (hz:ti.zero.length=size) {x:Value}
 (Y9:(∃q m,x=.slice q n m/\(∀kk,du≠.int kk)/\SN h q (n*size) new)\/(∃kk k' j,x=.int kk j/\du=.int k'/\j.toNat=n/\0<=j/\j<=2^48/\j*bytes<=2^48/\new=fq n ti.zero)) (ty:TypeId):
 ∃v w' h',(Builtin.append_ argTypes ty #[.slice b len cap,x]).run P w=.ok v w'/\k v h'/\aY h w h' w':=by
 obtain⟨z,KD,BI⟩:=hi.kL w;have Zk:z.cells.size=size:=by rw[<-hz,<-BI];simp
 have z0:∀W,(underlying t).run P W=.ok (.slice e) W:=fun W=>by simp[underlying,hu]
 have yD:∀W,(underlying u).run P W=.ok du W:=fun W=>by simp[underlying,huu]
 have OP:∀W,(zeroValue e).run P W=.ok z W:=fun W=>by
  obtain⟨ti',d',z',e1,-,e3,-⟩:=hi.ex;simp[zeroValue,typeInfo,e1,e3]at KD |-;exact KD
 obtain⟨tf,Q1,ll,jS⟩:∃tf,(∀W,(typeInfo e).run P W=.ok tf W)/\ti.size=tf.size/\ti.bytes=tf.bytes:=by obtain⟨ti',d',z',e1,-,e3,-,e4,e5,-⟩:=hi.ex;exact⟨ti',fun W=>by simp[typeInfo,e1],e4,e5⟩
 have ry:∀W,(sizeOf e).run P W=.ok size W:=fun W=>by rw[hi.ee,kf]
 have hm:(∃q m,x=.slice q n m/\(∀kk,du≠.int kk)/\SN h q (n*size) new)->(match du with| .int _=>true|_=>false)=false:=fun⟨_,_,_,Fp,_⟩=>by
  cases du<;>first
   |rfl
   |exact absurd rfl (Fp _)
 have OQ:∀m,Builtin.zeroCells z.cells m=(fq m ti.zero).toArray:=fun m=>by
  unfold Builtin.zeroCells;rw[range_zero,BI]
 by_cases vU:len+n<=cap
 ·obtain⟨w',h',k1,k2,k3⟩:=(hx.fits vU).run (P:=P) hs hx.one;refine⟨_,w',h',?_,k2,k3⟩;have fin:Sem.run P (match b with
   |some a=>Functor.map (fun a=>Value.slice b (len+n) cap) (storeCells (a.add (len*size)) new)
   |x=>pure (Value.slice b (len+n) cap)) w=Result.ok (Value.slice b (len+n) cap) w':=by
   cases b with
   |none=>simp at k1;simp[k1]
   |some q=>simp at k1;simp[k1]
  rcases Y9 with ⟨q,m,rfl,Fp,hr⟩ | ⟨kk,kq,j,rfl,rfl,K4,K3,hj3,hj4,rfl⟩
  ·have j0:=hm ⟨q,m,rfl,Fp,hr⟩;simp[Builtin.append_,h0,h1,z0,yD,ry,j0,Builtin.lenOf,vU,pa hs hr];exact fin
  ·have Xm:IntKind.i64.wrap j=j:=IntWalk.i64_in j (by omega);have yF:¬j<0:=by omega
   have ZL:¬(281474976710656:Int)<j*tf.bytes:=by rw[<-jS,pE,<-zH];omega
   by_cases kg:n*size=0
   ·have bW:fq n ti.zero=[]:=List.eq_nil_of_length_eq_zero (by rw[dy,hz,kg]);rw[bW]at fin;simp[Builtin.append_,h0,h1,z0,yD,ry,asInt,asIntOf,Xm,yF,Q1,ZL,K4,vU,kg];exact fin
   ·simp[Builtin.append_,h0,h1,z0,yD,ry,asInt,asIntOf,Xm,yF,Q1,ZL,K4,vU,kg,OP,OQ];exact fin
 ·obtain⟨b1,b2,JP,ho,vR⟩:=hx.RE (by omega);have O8:¬(281474976710656<Builtin.nextslicecap (len+n) cap*tf.bytes):=by
   have:=Dx (len+n) cap (by omega);have:=Nat.mul_le_mul_right tf.bytes this;rw[<-jS,pE]at this |-;have e:(2:Nat)^48=281474976710656:=by rfl
   omega
  have xF:¬((9223372036854775807:Int)<(len:Int)+n):=by rw[JC]at b2;omega
  have Rz:uc h w.drew:=hs;have Xw:(Question.appendCap (len+n) cap e).forced=false:=rfl;obtain⟨c,vX⟩:∃c,(Question.appendCap (len+n) cap e).cut (w.tape w.drawn (Question.appendCap (len+n) cap e))=c:=⟨_,rfl⟩;have hc:len+n<=c:=by rw[<-vX];simp[Question.cut]
  have hold:(Builtin.firstCells size len (.slice b len cap)).run P w.drew=.ok JP.toArray w.drew:=pa Rz ho len cap;obtain⟨rest,Ab⟩:∃rest,rest=fq (c-(len+n)) ti.zero:=⟨_,rfl⟩;have KP:rest.length=(c-(len+n))*size:=by rw[Ab,dy,hz]
  have jZ:=aY.new Rz (.cells (JP++new++rest).toArray e (0,0));have hsz1:w.drew.heap.size=w.heap.size:=rfl;refine⟨.slice (some ⟨w.heap.size,0,none⟩) (len+n) c,w.drew.alloc (.cells (JP++(new++rest)).toArray e),_,?_,vR w.heap.size c _ rest (hs.km (Nat.le_refl _)) hc KP rfl,?_⟩;rotate_left
  ·rw[<-List.append_assoc];exact⟨jZ.os,jZ.tape,jZ.output,jZ.size,jZ.wU,jZ.frame⟩
  rcases Y9 with ⟨q,m,rfl,Fp,hr⟩ | ⟨kk,kq,j,rfl,rfl,K4,K3,hj3,hj4,hnw⟩
  ·have j0:=hm ⟨q,m,rfl,Fp,hr⟩;have hr1:(Builtin.firstCells size n (.slice q n m)).run P w.drew=.ok new.toArray w.drew:=pa Rz hr n m;simp[Builtin.append_,h0,h1,z0,yD,ry,j0,Builtin.lenOf,vU,Q1,O8,xF,Xw,hold,hr1,OP,OQ,newRow,vX,<-Ab]
  ·have Xm:IntKind.i64.wrap j=j:=IntWalk.i64_in j (by rw[zH]at hj3;omega);have yF:¬j<0:=by omega
   have ZL:¬(281474976710656:Int)<j*tf.bytes:=by rw[<-jS,pE,<-zH];omega
   subst K4;have ZZ:¬((9223372036854775807:Int)<(len:Int)+max j 0):=by rw[JC]at b2;omega
   by_cases kg:j.toNat*size=0
   ·have bW:new=[]:=by rw[hnw];exact List.eq_nil_of_length_eq_zero (by rw[dy,hz,kg])
    simp[Builtin.append_,h0,h1,z0,yD,ry,asInt,asIntOf,Xm,yF,Q1,ZL,vU,O8,xF,Xw,hold,kg,OP,OQ,newRow,vX,<-Ab,bW,ZZ]
   ·simp[Builtin.append_,h0,h1,z0,yD,ry,asInt,asIntOf,Xm,yF,Q1,ZL,vU,O8,xF,Xw,hold,kg,OP,OQ,newRow,vX,<-Ab,<-hnw,ZZ]
variable {P:Program}{T:aU}{A:Ar}[aV A]
variable {ds:List Deferred}{h0:ad}{w0:World}{β:Nat->Nat}{env:Env}{L:Loc}{h:ad}{a:Act}{w:World}
def LRel(Lc L uz L':Loc):Prop:=(uz=Lc/\L'=L)\/∃s c x y,iM Lc s=some x/\iM L s=some y/\uz=Gf Lc s c/\L'=Gf L s c
theorem pP.run(hs:uc h w){e:Nat}{l c:Int}{kl kc:IntKind}{z:List Value}{bytes:Nat}{k:Value->ad->Prop}(hx:pP h e l c bytes z k)
 {t:TypeId} (hu:P.underlying t=some (.slice e)) {ti:Ti} (hi:sh P e ti) (pE:ti.bytes=bytes) (hz:ti.zero=z) (G5:z.length=ti.size):
 ∃v w' h',(Instr.makeSlice t (.int kl l) (.int kc c)).run P w=.ok v w'/\k v h'/\aY h w h' w':=by
 obtain⟨l0,l1⟩:=hx.len;obtain⟨r0,r1⟩:=hx.room;rw[zH]at r0 r1;obtain⟨zz,KD,BI⟩:=hi.kL w;obtain⟨tf,Q1,ll,jS⟩:=hi.Bh w;have ry:=hi.ee w;have z0:(underlying t).run P w=.ok (.slice e) w:=by simp[underlying,hu]
 have QX:IntKind.i64.wrap l=l:=IntWalk.i64_in l (by omega);have hwc:IntKind.i64.wrap c=c:=IntWalk.i64_in c (by omega);have jZ:=aY.new hs (.cells (fq c.toNat z).toArray e (0,0));refine⟨_,_,_,?_,hx.out w.heap.size _ (hs.km (Nat.le_refl _)) rfl,jZ⟩;have h1:¬c<0:=by omega
 have h2:¬((281474976710656:Int)<(tf.bytes:Int)*c):=by rw[<-jS,pE];omega
 have h3:¬l<0:=by omega
 have h4:¬c<l:=by omega
 have Uo:zz.cells.size=ti.size:=by rw[<-G5,<-hz,<-BI];simp
 have Zn:=range_zero zz.cells c.toNat;rw[Uo,BI,hz]at Zn;by_cases kg:c.toNat*ti.size=0
 ·have bW:fq c.toNat z=[]:=List.eq_nil_of_length_eq_zero (by rw[dy,G5,kg]);have lk:(Array.map (fun(_:Nat)=>(default:Value)) (Array.range 0))= #[]:=by simp
  simp[Instr.makeSlice,z0,asInt,asIntOf,Q1,QX,hwc,h1,h2,h3,h4,ry,kg,newRow,bW,lk]
 ·simp[Instr.makeSlice,z0,asInt,asIntOf,Q1,QX,hwc,h1,h2,h3,h4,ry,kg,newRow,KD,Uo,Zn]
theorem FZ{n:Nat}{z:List Value}(h:n*z.length=0):fq n z=[]:=List.eq_nil_of_length_eq_zero (by rw[dy,h])
theorem tE{a b:List Value}(ha:jo a=true)(hb:jo b=true):jo (a++b)=true:=by
 induction a with
 |nil=>exact hb
 |cons x r ih=>
  simp only[List.cons_append,jo]at ha |-;cases h1:one x with
  |true=>simp only[h1]at ha |-;exact ih ha
  |false=>simp only[h1]at ha;cases ha
theorem pZ{z:List Value}(hz:jo z=true):∀n,jo (fq n z)=true
 |0=>rfl
 |n+1=>by
  unfold fq;rw[List.replicate_succ,List.flatten_cons];exact tE hz (pZ hz n)
theorem kC(hT:dU P T){g:FuncId}(hg:T.fn g=true)(args:Array Value)(w:World):(callFunc g args).run P w=.ok (.enter g args) w:=by obtain⟨fn,h1,h2,h3⟩:=hT.fn g hg;obtain⟨c,hc⟩:=Option.isSome_iff_exists.1 h2;simp[callFunc,h1,h3,hc]
abbrev FW(ro:Option Nat):Fence:={ Fence.wide with round:=ro }
variable {ro:Option Nat}{n:Nat}
def ki(T:aU)(ds:List Deferred)(h0:ad)(w0:World)(Q:Exit->Act->World->Prop):Prop:=
 ∀c β env L h a w,T.kp c (T.rs.map fun t=>Sx.kE env (.tmp t)) h->cC ds h0 w0 β env L h a w->Q (.panic c) a w
theorem mf{o:Oper}{next:Act->World->Prop}{Q:Exit->Act->World->Prop}(MV:∀c,o.op≠.defer c){r:Result Next}(hr:(execOp a.eval o).run P w=r)(h:o.uponIn (FW ro) n P a next Q r):o.wpIn (FW ro) n P a w next Q:=by unfold Oper.wpIn;refine⟨fun _ _=>trivial,?_⟩;rw[Oper.semAt_eq _ _ _ MV,hr];exact h
theorem rh{o:Oper}{r:Next}{w':World}(hr:(execOp a.eval o).run P w=.ok r w')(hn:∀d,r≠.defer d):∀c,o.op≠.defer c:=fun c hc=>by
 simp only[execOp,hc,Sem.run_bind]at hr;cases hx:(resolve a.eval c o.type).run P w with
 |ok d w1=>rw[hx]at hr;simp only[Result.andThen_ok,Sem.run_pure]at hr;cases hr;exact hn _ rfl
 |halt=>rw[hx]at hr;cases hr
theorem nV{o:Oper}{next:Act->World->Prop}{Q:Exit->Act->World->Prop}{v:Value}{w':World}(hr:(execOp a.eval o).run P w=.ok (.value v) w')(h:next (a.put o.dst v) w'):o.wpIn (FW ro) n P a w next Q:=
 mf (rh hr (fun _ e=>by cases e)) hr h
theorem AW{o:Oper}{next:Act->World->Prop}{Q:Exit->Act->World->Prop}{w':World}(hr:(execOp a.eval o).run P w=.ok .skip w')(h:next (a.put o.dst undef) w'):o.wpIn (FW ro) n P a w next Q:=
 mf (rh hr (fun _ e=>by cases e)) hr h
set_option maxHeartbeats 2000000 in
theorem DQ(hT:dU P T)(hs:cC ds h0 w0 β env L h a w){Lc:Loc}(hLc:∀s c,iM L s=some c->iM Lc s=some c){o:Oper}{k:SV->Loc->ad->Prop}
 (hk:hx A T (fun _=>P) o (Sx.kE env) Lc h k) {next:Act->World->Prop} {Q:Exit->Act->World->Prop}
 (iD:ki T ds h0 w0 Q) (hn:∀sv v uz L' h' w',k sv uz h'->cC ds h0 w0 β (put env o.dst sv) L' h' (a.put o.dst v) w'->LRel Lc L uz L'->next (a.put o.dst v) w'):o.wpIn (FW ro) n P a w next Q:=by
 have val:∀ {v:Value} {w':World} {h':ad},(execOp a.eval o).run P w=.ok (.value v) w'->k (.v v) Lc h'->aY h w h' w'->o.wpIn (FW ro) n P a w next Q:=fun{v w' h'} hr Ah ha=>
  nV hr (hn _ _ _ _ _ _ Ah ((hs.step ha).put rfl) (.inl ⟨rfl,rfl⟩))
 have skp:∀ {w':World} {h':ad},(execOp a.eval o).run P w=.ok .skip w'->k (.v undef) Lc h'->aY h w h' w'->o.wpIn (FW ro) n P a w next Q:=fun{w' h'} hr Ah ha=>
  AW hr (hn _ _ _ _ _ _ Ah ((hs.step ha).put rfl) (.inl ⟨rfl,rfl⟩))
 have sY:=hs.after.wU;have SB:∀ {s:Sem Value},dq (fun _=>P) (fun _=>s) h (fun r h'=>k (.v r) Lc h')->execOp a.eval o=(do pure (.value (<-s)))->o.wpIn (FW ro) n P a w next Q:=fun{s} hx he=>by
  obtain⟨v,w',h',k1,k2,k3⟩:=hx.out w sY;exact val (by rw[he,Sem.run_bind,k1];rfl) k2 k3
 have SA:∀ {s:Sem Unit},dq (fun _=>P) (fun _=>do s;pure undef) h (fun _ h'=>k (.v undef) Lc h')->execOp a.eval o=(do s;pure .skip)->o.wpIn (FW ro) n P a w next Q:=fun{s} hx he=>by
  obtain⟨v,w',h',k1,k2,k3⟩:=hx.out w sY;rw[Sem.run_bind]at k1;cases hr:s.run P w with
  |ok u w1=>rw[hr]at k1;simp only[Result.andThen_ok,Sem.run_pure]at k1;cases k1;exact skp (by rw[he,Sem.run_bind,hr];rfl) k2 k3
  |halt=>rw[hr]at k1;cases k1
 unfold hx at hk;split at hk;case h_1 x ho=>-- assign
  have hr:(execOp a.eval o).run P w=.ok (.value (a.eval x)) w:=by simp only[execOp,ho];rfl
  refine nV hr ?_;exact hn _ _ _ _ _ _ hk (hs.put (hs.kE x)) (.inl ⟨rfl,rfl⟩)
 case h_2 t q x ho=>-- store
  split at hk
  ·exact hk.elim
  ·rename_i fx;have hi:=eL hT (eH fx);split at hk
   ·rename_i v hv;split at hk
    ·exact hk.elim
    ·rename_i kf;have Zk:v.cells.size=(T.ty t).size:=by simpa using kf
     split at hk
     ·exact hk.elim
     ·rename_i h1;have fO:∀ {y:Addr} {w':World},(storeCells y v.cells.toList).run P w=.ok () w'->(Instr.storeAt t (.pointer (some y)) v).run P w=.ok () w':=fun{y w'} hr=>by
       simp only[Instr.storeAt,Instr.sureAddr,Sem.run_bind,Sem.run_pure,Result.andThen_ok,storeVar,hi.ee,Zk];simp[hr]
      split at hk
      ·rename_i s off hq;split at hk
       ·rename_i c hc;obtain⟨⟨c',oP⟩,hev⟩:=hs.mF hq;have:c'=c:=by have:=hLc _ _ oP;rw[hc]at this;cases this;rfl
        subst this;split at hk
        ·rename_i hd;have ZW:=of_decide_eq_true hd;obtain⟨-,-,e,he⟩:=hs.loc s c' oP;obtain⟨w',k1,k2,k3,k4,k5⟩:=kM (P:=P) (b:=β s) (o:=off) (e:=e) (fr:=(0,0)) v.cells.toList 0 c'.toArray w he (by simpa using ZW) (by simp) h1;have hr:(execOp a.eval o).run P w=.ok .skip w':=by simp only[execOp,ho,hev,hs.aZ hv,Sem.run_bind,fO k1,Result.andThen_ok,Sem.run_pure]
         refine AW hr ?_;refine hn _ _ _ (Gf L s (ff c' off v.cells.toList)) _ _ hk (cC.put ?_ rfl) (.inr ⟨s,_,c',c',hc,oP,rfl,rfl⟩);refine hs.Sy oP (fun e' he'=>?_) k3 k4 k5;rw[he]at he';cases he';simpa using k2
        ·exact hk.elim
       ·exact hk.elim
      ·rename_i y hq;obtain⟨w',h',k1,k2,k3⟩:=(show CI h y v.cells.toList _ from hk).run (P:=P) sY h1;exact skp (by simp only[execOp,ho,hs.aZ hq,hs.aZ hv,Sem.run_bind,fO k1,Result.andThen_ok,Sem.run_pure]) k2 k3
      ·exact hk.elim
   ·exact hk.elim
 case h_3 e ho=>-- alloc
  split at hk
  ·exact hk.elim
  ·rename_i fx;obtain⟨z,hz,BI⟩:=(eL hT (eH fx)).kL w;refine val ?_ (hk w.heap.size _ (sY.km (Nat.le_refl _)) rfl) (aY.new sY _);simp only[execOp,ho,Instr.alloc,Sem.run_bind,hz,Result.andThen_ok,newVar,newRow,run_newObj,Sem.run_pure];rw[<-BI]
 case h_4 e x ho=>-- box
  split at hk
  ·rename_i v hv;refine val ?_ (hk w.heap.size _ (sY.km (Nat.le_refl _)) rfl) (aY.new sY _);simp only[execOp,ho,Instr.box,Sem.run_bind,Result.andThen_ok,newVar,newRow,run_newObj,Sem.run_pure,hs.aZ hv]
  ·exact hk.elim
 case h_5 t len parts ho=>-- buildSlice
  split at hk
  ·rename_i e he;have Ai:=eL hT (ep he);obtain⟨d,hd,Hp,fx,-⟩:=Ai.bN w;obtain rfl:=kR (fx ▸ he);split at hk
   ·exact hk.elim
   ·rename_i K0;have jR:=eL hT (eH K0);split at hk
    ·rename_i ps hps;split at hk
     ·rename_i h24 G5;have h24:len*(T.ty e).size<=2^24:=of_decide_eq_true h24;have GZ:(T.ty e).zero.length=(T.ty e).size:=by simpa using G5
      split at hk
      ·rename_i cs aC;refine val ?_ (hk w.heap.size _ (sY.km (Nat.le_refl _)) rfl) (aY.new sY _);obtain⟨zz,KD,BI⟩:=jR.kL w;have Uo:zz.cells.size=(T.ty e).size:=by rw[<-GZ,<-BI];simp
       have Zn:=range_zero zz.cells len;rw[Uo,BI]at Zn;have DW:(parts.map fun(i,x)=>(i,a.eval x))=ps.toArray:=by rw[<-ou hs hps];apply Array.ext';simp
       have Io:=fill_eq (fun i=>some (i*(T.ty e).size,(T.ty e).size)) ps (fq len (T.ty e).zero).toArray cs (by simpa using aC);have h24':¬(2^24<len*(T.ty e).size):=by omega
       by_cases kg:len*(T.ty e).size=0
       ·have bW:fq len (T.ty e).zero=[]:=FZ (by rw[GZ,kg]);rw[bW]at Io;have lk:(Array.map (fun(_:Nat)=>(default:Value)) (Array.range 0))= #[]:=by simp
        simp only[List.toArray]at Io;simp[execOp,ho,Instr.buildSlice,hd,jR.ee,kg,DW,Io,newRow,lk]
       ·have h24'':¬(16777216<len*(T.ty e).size):=h24';simp[execOp,ho,Instr.buildSlice,hd,jR.ee,h24'',kg,DW,Io,newRow,KD,Uo,Zn]
      ·exact hk.elim
     ·exact hk.elim
    ·exact hk.elim
  ·exact hk.elim
 case h_6 t l c ho=>-- makeSlice
  split at hk
  ·rename_i e he;have Ai:=eL hT (ep he);obtain⟨d,hd,Hp,fx,-⟩:=Ai.bN w;obtain rfl:=kR (fx ▸ he);split at hk
   ·exact hk.elim
   ·rename_i K0;have jR:=eL hT (eH K0);split at hk
    ·rename_i kl l' hl;split at hk
     ·rename_i kc c' hc;split at hk
      ·rename_i G5;obtain⟨v,w',h',k1,k2,k3⟩:=pP.run (P:=P) (kl:=kl) (kc:=kc) sY hk Hp jR rfl rfl (by simpa using G5);exact val (by simp only[execOp,ho,hs.aZ hl,hs.aZ hc,Sem.run_bind,k1,Result.andThen_ok,Sem.run_pure]) k2 k3
      ·exact hk.elim
     ·exact hk.elim
    ·exact hk.elim
  ·exact hk.elim
 case h_7 t r ho=>-- makeMap
  split at hk
  ·exact val (by simp[execOp,ho,Instr.makeMap]) (hk w.heap.size _ (sY.km (Nat.le_refl _)) rfl) (aY.new sY _)
  ·exact hk.elim
 case h_8 f args argTypes ho=>-- call
  split at hk
  ·rename_i g first cap hf
   split at hk
   ·rename_i as has;split at hk
    ·rename_i hg;have hr:(execOp a.eval o).run P w=.ok (.enter g (first++as.toArray++cap)) w:=by simp only[execOp,ho,resolve,hs.aZ hf,fR hs has,Deferred.ofValue,Sem.run_bind,Sem.run_pure,Result.andThen_ok,invoke,kC hT hg]
     refine mf (rh hr (fun _ e=>by cases e)) hr ?_;refine⟨fun hd=>by simp[FW,Fence.wide]at hd,?_⟩;have he:(first.toList++as++cap.toList).toArray=first++as.toArray++cap:=by apply Array.ext';simp
     split at hk
     ·have:=callsIn_wide (n:=n-1).2 ((show CK _ _ _ _ _ _ from hk).out w sY);rw[he]at this;refine CallsIn.mono (F:=FW ro) (show CallsIn (FW ro) (n-1) P g _ w _ from this) fun e w' hq=>?_;rcases hq with ⟨v,h',h1,h2,h3⟩ | ⟨c,h',h1,h2,h3⟩
      ·subst h1;exact hn _ _ _ _ _ _ h2 ((hs.step h3).put rfl) (.inl ⟨rfl,rfl⟩)
      ·subst h1;exact iD c _ _ _ _ _ _ h2 (hs.step h3)
     ·have:=callsIn_wide (n:=n-1).2 ((show IC _ _ _ _ _ from hk).out w sY);rw[he]at this;refine CallsIn.mono (F:=FW ro) (show CallsIn (FW ro) (n-1) P g _ w _ from this) fun e w' ⟨v,h',h1,h2,h3⟩=>?_;subst h1;exact hn _ _ _ _ _ _ h2 ((hs.step h3).put rfl) (.inl ⟨rfl,rfl⟩)
    ·obtain⟨v,w',h',k1,k2,k3⟩:=(show dq _ _ _ _ from hk).out w sY;refine val ?_ k2 k3;have he:(first.toList++as++cap.toList).toArray=first++as.toArray++cap:=by apply Array.ext';simp
     simp only[wy]at k1;rw[he,Sem.run_bind]at k1;simp only[execOp,ho,resolve,hs.aZ hf,fR hs has,Deferred.ofValue,Sem.run_bind,Sem.run_pure,Result.andThen_ok,invoke];cases hr:(callFunc g (first++as.toArray++cap)).run P w with
     |ok n w1=>
      rw[hr]at k1;simp only[Result.andThen_ok]at k1;cases n with
      |value z=>simp only[Sem.run_pure]at k1;cases k1;rfl
      |_=>simp at k1
     |halt=>rw[hr]at k1;cases k1
   ·exact hk.elim
  ·rename_i l first cap hf
   split at hk
   ·rename_i as has;obtain⟨fn,tmps,ua,body,g1,g2⟩:=(show Qj _ _ _ _ _ from hk).out w sY;have he:(first.toList++as).toArray=first++as.toArray:=by apply Array.ext';simp
    have hr:(execOp a.eval o).run P w=.ok (.round l fn tmps ua body) w:=by rw[he]at g1;simp only[execOp,ho,resolve,hs.aZ hf,fR hs has,Deferred.ofValue,Sem.run_bind,Sem.run_pure,Result.andThen_ok,invoke,g1]
    refine mf (rh hr (fun _ e=>by cases e)) hr ?_;refine⟨fun hd=>by simp[FW,Fence.wide]at hd,?_⟩;refine RoundIn.mono (F:=FW ro) (show RoundIn (FW ro) (n-1) P l fn tmps ua body w _ from g2 (n-1)) fun e w' ⟨v,h',h1,h2,h3⟩=>?_;subst h1;exact hn _ _ _ _ _ _ h2 ((hs.step h3).put rfl) (.inl ⟨rfl,rfl⟩)
   ·exact hk.elim
  ·exact hk.elim
 case h_9 b args argTypes ho=>-- L4
  have oO:∀(vs:List Value),kG (args.toList.map (Sx.kE env))=some vs->
   (execOp a.eval o)=builtin b argTypes o.type (args.map fun| .const _=>true|_=>false) vs.toArray:=fun vs hv=>by
   simp only[execOp,ho,resolve];rw[fR hs hv];rfl
  split at hk
  ·split at hk -- append
   ·rename_i t u ht hu;split at hk
    ·rename_i e he;have Ai:=eL hT (ep he);obtain⟨d,hd,Hp,fx,-⟩:=Ai.bN w;obtain rfl:=kR (fx ▸ he);split at hk
     ·exact hk.elim
     ·rename_i K0;have jR:=eL hT (eH K0);split at hk
      ·exact hk.elim
      ·rename_i G5;have GZ:(T.ty e).zero.length=(T.ty e).size:=by simpa using G5
       split at hk
       ·rename_i b' len cap x n q hv;split at hk
        ·rename_i e2 BV;obtain⟨d2,-,Vm,Ve,-⟩:=(eL hT (ep BV)).bN w;obtain rfl:=kR (Ve ▸ BV);obtain⟨new,g1,g2⟩:=(show gD _ _ _ _ _ _ _ _ _ _ from hk).out;obtain⟨v,w',h',k1,k2,k3⟩:=g2.run (P:=P) sY ht hu Hp Vm jR rfl rfl GZ (.inl ⟨x,q,rfl,fun _=>by simp,g1⟩) o.type;exact val (by rw[oO _ hv];simp only[builtin,Sem.run_bind,k1,Result.andThen_ok,Sem.run_pure]) k2 k3
        ·exact hk.elim
       ·rename_i b' len cap kk n hv;split at hk
        ·rename_i BV;obtain⟨d2,-,Vm,Ve,-⟩:=(eL hT (show(T.ty u).kd≠.none by rw[BV];simp)).bN w;obtain⟨k',rfl⟩:∃k',d2=.int k':=by rw[Ve]at BV;cases d2<;>simp[mB]at BV;exact⟨_,rfl⟩
         obtain⟨⟨c1,c2,c3⟩,g2⟩:=(show nQ _ _ from hk);have g2:=g2.out;rw[show A.sC n 0=n.toNat by rw[A.ta];simp]at g2;obtain⟨v,w',h',k1,k2,k3⟩:=wZ.run (P:=P) sY g2 ht hu Hp Vm jR rfl rfl GZ (x:=.int kk n) (.inr ⟨kk,k',n,rfl,rfl,rfl,c1,c2,c3,rfl⟩) o.type;exact val (by rw[oO _ hv];simp only[builtin,Sem.run_bind,k1,Result.andThen_ok,Sem.run_pure]) k2 k3
        ·exact hk.elim
       ·exact hk.elim
    ·exact hk.elim
   ·exact hk.elim
  ·split at hk -- copy
   ·rename_i t ht;split at hk
    ·rename_i e he;have Ai:=eL hT (ep he);obtain⟨d,hd,Hp,fx,-⟩:=Ai.bN w;obtain rfl:=kR (fx ▸ he);split at hk
     ·exact hk.elim
     ·rename_i K0;have jR:=eL hT (eH K0);split at hk
      ·rename_i b' len q x n q' hv;obtain⟨cs,g1,g2,g3⟩:=(show wY _ _ _ _ _ _ _ from hk).out;obtain⟨w',h',k1,k2,k3⟩:=g3.run (P:=P) sY g2;refine val ?_ k2 k3;rw[oO _ hv];have hf:=pa (P:=P) sY g1 n q';have Va:Nat.min n len=min n len:=rfl;simp[builtin,Builtin.copy_,ht,hd,Builtin.lenOf,jR.ee,Va,hf,goInt];cases b' with
       |none=>simp at k1;simp[k1]
       |some y=>simp at k1;simp[k1]
      ·exact hk.elim
    ·exact hk.elim
   ·exact hk.elim
  ·split at hk -- clear
   ·rename_i t ht;split at hk
    ·rename_i e he;have Ai:=eL hT (ep he);obtain⟨d,hd,Hp,fx,-⟩:=Ai.bN w;obtain rfl:=kR (fx ▸ he);split at hk
     ·exact hk.elim
     ·rename_i K0;have jR:=eL hT (eH K0);split at hk
      ·exact hk.elim
      ·rename_i G5;have GZ:(T.ty e).zero.length=(T.ty e).size:=by simpa using G5
       split at hk
       ·rename_i b' len q hv;obtain⟨g2,g3⟩:=(show qG _ _ _ _ _ from hk);obtain⟨w',h',k1,k2,k3⟩:=g3.run (P:=P) sY (pZ g2 len);refine val ?_ k2 k3;rw[oO _ hv];obtain⟨zz,KD,BI⟩:=jR.kL w;have hzcc:Builtin.zeroCells zz.cells len=(fq len (T.ty e).zero).toArray:=by unfold Builtin.zeroCells;rw[range_zero,BI]
        cases b' with
        |none=>simp at k1;subst k1;simp[builtin,Builtin.clear_,ht,hd]
        |some y=>
         simp at k1;cases len with
         |zero=>have:fq 0 (T.ty e).zero=[]:=rfl;rw[this]at k1;simp[storeCells]at k1;subst k1;simp[builtin,Builtin.clear_,ht,hd]
         |succ m=>simp[builtin,Builtin.clear_,ht,hd,KD,hzcc,k1]
       ·exact hk.elim
    ·exact hk.elim
   ·exact hk.elim
  ·split at hk -- delete
   ·rename_i as has;exact SB hk (by rw[oO _ has];rfl)
   ·exact hk.elim
  ·exact hk.elim
 case h_10 src dst x ho=>-- convert
  split at hk
  ·rename_i u hu;exact SB hk (by simp only[execOp,ho,hs.aZ hu])
  ·exact hk.elim
 case h_11 t x i b ho=>-- lookup
  split at hk
  ·rename_i u hu;split at hk
   ·rename_i v hv;exact SB hk (by simp only[execOp,ho,hs.aZ hu,hs.aZ hv])
   ·exact hk.elim
  ·exact hk.elim
 case h_12 t m i x ho=>-- mapUpdate
  split at hk
  ·rename_i u hu;split at hk
   ·rename_i v hv;split at hk
    ·rename_i z hz;exact SA hk (by simp only[execOp,ho,hs.aZ hu,hs.aZ hv,hs.aZ hz])
    ·exact hk.elim
   ·exact hk.elim
  ·exact hk.elim
 case h_13 t m i ho=>-- mapEntry
  split at hk
  ·rename_i u hu;split at hk
   ·rename_i v hv;exact SB hk (by simp only[execOp,ho,hs.aZ hu,hs.aZ hv])
   ·exact hk.elim
  ·exact hk.elim
 case h_14 t m i x ho=>-- entryStore
  split at hk
  ·rename_i u hu;split at hk
   ·rename_i v hv;split at hk
    ·rename_i z hz;exact SA hk (by simp only[execOp,ho,hs.aZ hu,hs.aZ hv,hs.aZ hz])
    ·exact hk.elim
   ·exact hk.elim
  ·exact hk.elim
 case h_15 t x ho=>-- range
  split at hk
  ·rename_i u hu;exact SB hk (by simp only[execOp,ho,hs.aZ hu])
  ·exact hk.elim
 case h_16 it str ho=>-- next
  split at hk
  ·rename_i u hu;exact SB hk (by simp only[execOp,ho,hs.aZ hu])
  ·exact hk.elim
 case h_17 it ho=>-- entry
  split at hk
  ·rename_i u hu;exact SB hk (by simp only[execOp,ho,hs.aZ hu])
  ·exact hk.elim
 case h_18 t m i x ho=>-- insert
  split at hk
  ·rename_i u hu;split at hk
   ·rename_i v hv;split at hk
    ·rename_i z hz;exact SA hk (by simp only[execOp,ho,hs.aZ hu,hs.aZ hv,hs.aZ hz])
    ·exact hk.elim
   ·exact hk.elim
  ·exact hk.elim
 case h_19 x ho=>-- panic
  split at hk
  ·rename_i t v hv;have hr:(execOp a.eval o).run P w=.halt (.panic (.iface t v)) w:=by simp only[execOp,ho,hs.aZ hv,Sem.run_bind,show(Instr.panic (.iface t v)).run P w=.halt (.panic (.iface t v)) w from rfl];rfl
   refine mf (fun c hc=>by rw[hc]at ho;cases ho) hr ?_;rw[Oper.uponIn_panic];exact iD _ _ _ _ _ _ _ hk hs
  ·exact hk.elim
 case h_20=>exact hk.elim
end Go.Sx
