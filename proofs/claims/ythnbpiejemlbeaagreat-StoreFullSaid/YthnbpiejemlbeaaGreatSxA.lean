import Derived.OrdersIn
import Derived.RangeFuncRecord
import Derived.Sort.LoopGhostIn
import Derived.Laws.Cells
import Derived.Laws.StructEq
import Derived.IntWalk
set_option linter.all false
namespace Go.Sx
variable {next:Act->World->Prop}{g:Bool}{Q:Exit->Act->World->Prop}{f:FuncId}{s:List (Nat×Nat)}{args c cs z:List Value}{bytes cap e size:Nat}{fr:Nat×Nat}{o:Oper}{y:Operand}{b:Option Addr}{d:TypeDesc}{p:Unit->Program}{r u:Value}{k:Value->Prop}
abbrev ab:=Nat->Option Obj
def AI(h:ab)(w:World):Prop:=∀b o,h b=some o->w.heap[b]? =some o
structure bD(h:ab)(w:World)(h':ab)(w':World):Prop where
 os:w'.os=w.os
 tape:w'.tape=w.tape
 output:w'.output=w.output
 size:w.heap.size<=w'.heap.size
 Bf:AI h' w'
 frame:∀b,b<w.heap.size->h b=none->w'.heap[b]? =w.heap[b]? /\h' b=none
def Fn(P:Program)(f:FuncId)(args:List Value)(h:ab)(R:Value->ab->Prop):Prop:=
 ∀w,AI h w->Calls P f args.toArray w λe w'=>∃v h',e=.returned v/\R v h'/\bD h w h' w'
structure Dr(p:Unit->Program)(f:FuncId)(args:List Value)(h:ab)(R:Value->ab->Prop):Prop where
 out:Fn (p ()) f args h R
structure Qj(p:Unit->Program)(f:FuncId)(args:List Value)(h:ab)(R:Value->ab->Prop)(K:List PanicEntry->ab->Prop):Prop where
 out:∀w,AI h w->Calls (p ()) f args.toArray w λe w'=>(∃v h',e=.returned v/\R v h'/\bD h w h' w')\/(∃c h',e=.panicked c/\K c h'/\bD h w h' w')
structure aQk(p:Unit->Program)(l:Nat)(args:List Value)(h:ab)(R:Value->ab->Prop):Prop where
 out:∀w,AI h w->∃fn tmps Ae body,(Instr.yield l args.toArray).run (p ()) w=.ok (.round l fn tmps Ae body) w/\∀n,RoundIn Fence.wide n (p ()) l fn tmps Ae body w λe w'=>∃v h',e=.returned v/\R v h'/\bD h w h' w'
def bu(h:ab)(n:Nat)(o:Obj):ab:=λb=>if b=n then some o else h b
def ia(a:Option Addr)(i:Int)(size:Nat):Addr:=((a.getD ⟨0,0,none⟩).add (i.toNat*size))
def aC(op:BinOp)(k:IntKind)(a b:Int):Int:=
 match op with
 | .add=>k.wrap (a+b)
 | .sub=>k.wrap (a-b)
 | .mul=>k.wrap (a*b)
 | .quo=>k.wrap (a.tdiv b)
 | .rem=>a.tmod b
 | .and=>k.wrap ((BitVec.ofInt k.bits a&&& BitVec.ofInt k.bits b).toNat)
 | .or=>k.wrap ((BitVec.ofInt k.bits a|||BitVec.ofInt k.bits b).toNat)
 | .xor=>k.wrap ((BitVec.ofInt k.bits a^^^BitVec.ofInt k.bits b).toNat)
 | .andNot=>k.wrap ((BitVec.ofInt k.bits a&&& ~~~ BitVec.ofInt k.bits b).toNat)
 | .shl=>k.wrap (a*2^(min b.toNat k.bits))
 | .shr=>a.fdiv (2^(min b.toNat k.bits))
 |_=>0
def ay(op:BinOp)(a b:Int):Bool:=
 match op with
 | .eql=>a==b
 | .neq=>a !=b
 | .lss=>decide (a<b)
 | .leq=>decide (a<=b)
 | .gtr=>decide (a>b)
 | .geq=>decide (a>=b)
 |_=>false
def js(op:BinOp)(a b:ByteArray):Bool:=
 match op with
 | .eql=>a.toList==b.toList
 | .neq=> !(a.toList==b.toList)
 | .lss=>Op.bytesLess a.toList b.toList
 | .leq=>Op.bytesLess a.toList b.toList||a.toList==b.toList
 | .gtr=> !(Op.bytesLess a.toList b.toList||a.toList==b.toList)
 | .geq=> !(Op.bytesLess a.toList b.toList)
 |_=>false
def qP(op:BinOp)(a b:Bool):Bool:=
 match op with
 | .eql=>a==b
 | .neq=> !(a==b)
 |_=>false
inductive Tg where
 |ia|ix|off|aC|ay|js|qP|not|and|cat|byte|sub|conv|nat|yP|cut|mg|ku|imax|jL
abbrev Tg.T:Tg->Type
 | .ia=>Option Addr->Int->Nat->Addr
 | .ix=>Nat->Int->Nat->Nat
 | .off=>Addr->Nat->Addr
 | .aC=>BinOp->IntKind->Int->Int->Int
 | .ay=>BinOp->Int->Int->Bool
 | .js=>BinOp->ByteArray->ByteArray->Bool
 | .qP=>BinOp->Bool->Bool->Bool
 | .not=>Bool->Bool
 | .and=>Bool->Bool->Bool
 | .cat=>ByteArray->ByteArray->ByteArray
 | .byte=>ByteArray->Int->Int
 | .sub=>ByteArray->Int->Int->ByteArray
 | .conv=>IntKind->Int->Int
 | .nat=>Nat->Int
 | .yP=>Option Addr->Bool
 | .cut=>Option Addr->Int->Int->Nat->Option Addr
 | .mg=>Int->Int->Nat
 | .ku=>Int->Int->Int
 | .imax=>Int->Int->Int
 | .jL=>ByteArray->Int
abbrev Ar:=(t:Tg)->t.T
def Ar.ia(A:Ar):Option Addr->Int->Nat->Addr:=A .ia
def Ar.ix(A:Ar):Nat->Int->Nat->Nat:=A .ix
def Ar.off(A:Ar):Addr->Nat->Addr:=A .off
def Ar.aC(A:Ar):BinOp->IntKind->Int->Int->Int:=A .aC
def Ar.ay(A:Ar):BinOp->Int->Int->Bool:=A .ay
def Ar.js(A:Ar):BinOp->ByteArray->ByteArray->Bool:=A .js
def Ar.qP(A:Ar):BinOp->Bool->Bool->Bool:=A .qP
def Ar.not(A:Ar):Bool->Bool:=A .not
def Ar.and(A:Ar):Bool->Bool->Bool:=A .and
def Ar.cat(A:Ar):ByteArray->ByteArray->ByteArray:=A .cat
def Ar.byte(A:Ar):ByteArray->Int->Int:=A .byte
def Ar.sub(A:Ar):ByteArray->Int->Int->ByteArray:=A .sub
def Ar.conv(A:Ar):IntKind->Int->Int:=A .conv
def Ar.nat(A:Ar):Nat->Int:=A .nat
def Ar.yP(A:Ar):Option Addr->Bool:=A .yP
def Ar.cut(A:Ar):Option Addr->Int->Int->Nat->Option Addr:=A .cut
def Ar.mg(A:Ar):Int->Int->Nat:=A .mg
def Ar.ku(A:Ar):Int->Int->Int:=A .ku
def Ar.imax(A:Ar):Int->Int->Int:=A .imax
def Ar.jL(A:Ar):ByteArray->Int:=A .jL
class bf (A:Ar):Prop where
 ia:A .ia=Sx.ia
 ix:A .ix=λo i n=>o+i.toNat*n
 off:A .off=λa n=>a.add n
 aC:A .aC=Sx.aC
 ay:A .ay=Sx.ay
 js:A .js=Sx.js
 qP:A .qP=Sx.qP
 not:A .not=λb=> !b
 and:A .and=λa b=>a&&b
 cat:A .cat=λa b=>a++b
 byte:A .byte=λs i=>((s.data.getD i.toNat 0).toNat:Int)
 sub:A .sub=λs l h=>s.extract l.toNat h.toNat
 conv:A .conv=λk n=>k.wrap n
 nat:A .nat=Int.ofNat
 yP:A .yP=λa=>a.isNone
 cut:A .cut=λa l m size=>if m=l then a else a.map (·.add (l.toNat*size))
 mg:A .mg=λh l=>(h-l).toNat
 ku:A .ku=λa b=>min a b
 imax:A .imax=λa b=>max a b
 jL:A .jL=λs=>(s.size:Int)
theorem Ar.th(A:Ar)[bf A]:A.ia=Sx.ia:=bf.ia
theorem Ar.cXK(A:Ar)[bf A]:A.ix=λo i n=>o+i.toNat*n:=bf.ix
theorem Ar.aKp(A:Ar)[bf A]:A.off=λa n=>a.add n:=bf.off
theorem Ar.tE(A:Ar)[bf A]:A.aC=Sx.aC:=bf.aC
theorem Ar.TD(A:Ar)[bf A]:A.ay=Sx.ay:=bf.ay
theorem Ar.Sg(A:Ar)[bf A]:A.js=Sx.js:=bf.js
theorem Ar.LF(A:Ar)[bf A]:A.qP=Sx.qP:=bf.qP
theorem Ar.not_eq(A:Ar)[bf A]:A.not=λb=> !b:=bf.not
theorem Ar.and_eq(A:Ar)[bf A]:A.and=λa b=>a&&b:=bf.and
theorem Ar.bZu(A:Ar)[bf A]:A.cat=λa b=>a++b:=bf.cat
theorem Ar.ZY(A:Ar)[bf A]:A.byte=λs i=>((s.data.getD i.toNat 0).toNat:Int):=bf.byte
theorem Ar.sub_eq(A:Ar)[bf A]:A.sub=λs l h=>s.extract l.toNat h.toNat:=bf.sub
theorem Ar.ZX(A:Ar)[bf A]:A.conv=λk n=>k.wrap n:=bf.conv
theorem Ar.nat_eq(A:Ar)[bf A]:A.nat=Int.ofNat:=bf.nat
theorem Ar.Tz(A:Ar)[bf A]:A.yP=λa=>a.isNone:=bf.yP
theorem Ar.CK(A:Ar)[bf A]:A.cut=λa l m size=>if m=l then a else a.map (·.add (l.toNat*size)):=bf.cut
theorem Ar.zq(A:Ar)[bf A]:A.mg=λh l=>(h-l).toNat:=bf.mg
theorem Ar.Yy(A:Ar)[bf A]:A.ku=λa b=>min a b:=bf.ku
theorem Ar.Yz(A:Ar)[bf A]:A.imax=λa b=>max a b:=bf.imax
theorem Ar.RV(A:Ar)[bf A]:A.jL=λs=>(s.size:Int):=bf.jL
def Ar.hQM:Ar
 | .ia=>Sx.ia
 | .ix=>λo i n=>o+i.toNat*n
 | .off=>λa n=>a.add n
 | .aC=>Sx.aC
 | .ay=>Sx.ay
 | .js=>Sx.js
 | .qP=>Sx.qP
 | .not=>λb=> !b
 | .and=>λa b=>a&&b
 | .cat=>λa b=>a++b
 | .byte=>λs i=>((s.data.getD i.toNat 0).toNat:Int)
 | .sub=>λs l h=>s.extract l.toNat h.toNat
 | .conv=>λk n=>k.wrap n
 | .nat=>Int.ofNat
 | .yP=>λa=>a.isNone
 | .cut=>λa l m size=>if m=l then a else a.map (·.add (l.toNat*size))
 | .mg=>λh l=>(h-l).toNat
 | .ku=>λa b=>min a b
 | .imax=>λa b=>max a b
 | .jL=>λs=>(s.size:Int)
theorem Ar.ex:∃A:Ar,bf A:=⟨Ar.hQM,⟨rfl,rfl,rfl,rfl,rfl,rfl,rfl,rfl,rfl,rfl,rfl,rfl,rfl,rfl,rfl,rfl,rfl,rfl,rfl,rfl⟩⟩
inductive Kd where
 |none
 |fQc
 |bool
 |int (k:IntKind)
 |str
 |ck (fs:List (Nat×Nat))
 |arr (n e:Nat)
 |oh (e:Nat)
 |mp (k e:Nat)
 |ptr (e:Nat)
 |fn
 |gXl
 deriving Inhabited
structure Ti where
 flat:Bool
 agg:Bool
 size:Nat
 bytes:Nat
 zero:List Value
 kd:Kd
def Ti.none:Ti:=⟨false,false,0,0,[],.none⟩
def nS:TypeDesc->Kd
 | .bool=>.bool
 | .int k=>.int k
 | .string=>.str
 | .struct fs=>.ck (fs.toList.map λf=>(f.type,f.offset))
 | .array n e=>.arr n e
 | .slice e=>.oh e
 | .map k e=>.mp k e
 | .pointer e=>.ptr e
 | .func .. =>.fn
 | .interface _=>.gXl
 |_=>.fQc
def Lp(P:Program)(t:TypeId):TypeDesc->Bool
 | .struct fs=> !P.eqGuardType P.depth t&& !P.stoodInHeld t&&(fs.toList.zipIdx.all λ(f,i)=>f.offset==i&&decide (f.name≠ "_")&&(match P.info? f.type,P.underlying f.type with
  |some i,some .bool|some i,some (.int _) |some i,some .string=>i.size==1
  |_,_=>false))
 |_=>false
def aKu(P:Program)(t:TypeId):Ti:=
 match P.info? t,P.underlying t with
 |some i,some d=>
  match i.zero with
  |some z=>⟨Lp P t d,match d with| .struct _| .array _ _=>true|_=>false,i.size,i.bytes,z.cells.toList,nS d⟩
  |none=>.none
 |_,_=>.none
inductive uC where
 |done
 |aa (i:Nat) (rest:uC)
 |ad (i:Nat) (pins:List Nat) (rest:uC)
 |fork (l r:uC)
 deriving Inhabited
inductive SV where
 |v (x:Value)
 |loc (s off:Nat)
 |u
 deriving Inhabited
structure aL where
 ty:Nat->Ti
 fn:Nat->Bool
 au:Nat->uC
 aN:Nat->Bool
 hXz:Nat->Bool:=λ_=>false
 rs:List Nat:=[]
 kp:List PanicEntry->List SV->ab->Prop:=λ_ _ _=>False
structure fF(P:Program)(T:aL):Prop where
 ty:∀t,T.ty t=aKu P t\/T.ty t=.none
 fn:∀f,T.fn f=true->∃fn,P.funcs[f]? =some fn/\fn.body.isSome=true/\fn.name≠ "runtime.NumGoroutine"
 mixed:P.follows .mixedOrders=true
abbrev Env:=List SV
abbrev Loc:=List (Nat×List Value)
def kf:Loc->Nat->Option (List Value)
 | [],_=>none
 | (s,c)::r,t=>if s=t then some c else kf r t
def rZ:Loc->Nat->List Value->Loc
 | [],_,_=>[]
 | (s,c)::r,t,d=>if s=t then(s,d)::r else(s,c)::rZ r t d
def og(env:Env):Operand->SV
 | .tmp t=>env.getD t .u
 | .const v=>.v v
 | .global g=>.v (.pointer (some ⟨g,0,none⟩))
 | .func f=>.v (.func (.func f) #[] #[])
def nI:List SV->Option (List Value)
 | []=>some []
 | .v x::r=>match nI r with
  |some l=>some (x::l)
  |none=>none
 |_::_=>none
structure rO(p:Unit->Prop)(k:Unit->Prop):Prop where
 h:p ()
 out:k ()
def Ki(h:ab)(a:Addr)(n:Nat)(cs:List Value):Prop:=
 a.spot=none/\cs.length=n/\∃c e fr,h a.block=some (.cells c e fr)/\∀i,i<n->c[a.off+i]? =cs[i]?
structure vK(h:ab)(a:Addr)(n:Nat)(k:List Value->Prop):Prop where
 out:∃cs,Ki h a n cs/\k cs
def LC:Bool->(Unit->Prop)->(Unit->Prop)->Prop
 |true,a,_=>a ()
 |false,_,b=>b ()
def takeN(c:List Value)(off n:Nat):Option (List Value):=
 if off+n<=c.length then some ((c.drop off).take n)else none
def fK(c:List Value)(off:Nat):List Value->List Value
 | []=>c
 |x::r=>fK (c.set off x) (off+1) r
structure tG(p:Unit->Program)(s:Unit->Sem Value)(k:Value->Prop):Prop where
 out:∃v,(∀w,(s ()).run (p ()) w=.ok v w)/\k v
structure ef(p:Unit->Program)(s:Unit->Sem Value)(h:ab)(k:Value->ab->Prop):Prop where
 out:∀w,AI h w->∃v w' h',(s ()).run (p ()) w=.ok v w'/\k v h'/\bD h w h' w'
def zl(g:FuncId)(args:List Value):Sem Value:=do
 match <-callFunc g args.toArray with
 | .value v=>pure v
 |_=>stuck ""
def aQa(A:Ar)(op:BinOp):Value->Value->Option Value
 | .int k a,.int k' b=>
  match op with
  | .add| .sub| .mul| .and| .or| .xor| .andNot=>if k=k' then some (.int k (A.aC op k a b))else none
  | .eql| .neq| .lss| .leq| .gtr| .geq=>if k=k' then some (.bool (A.ay op a b))else none
  |_=>none
 | .string a,.string b=>
  match op with
  | .eql| .neq| .lss| .leq| .gtr| .geq=>some (.bool (A.js op a b))
  |_=>none
 |_,_=>none
def Jh(A:Ar)(op:BinOp)(a b:Value)(k:Value->Prop)(ZO:Unit->Prop):Prop:=
 match a with
 | .int ka x=>match b with
  | .int kb y=>match op with
   | .quo| .rem=>match decide (ka=kb)with
    |true=>rO (λ_=>y≠0) (λ_=>k (.int ka (A.aC op ka x y)))
    |false=>ZO ()
   | .shl| .shr=>rO (λ_=>0<=y) (λ_=>k (.int ka (A.aC op ka x y)))
   |_=>ZO ()
  |_=>ZO ()
 | .string x=>match b with
  | .string y=>match op with
   | .add=>rO (λ_=>((x.size+y.size:Nat):Int)<=2^62) (λ_=>k (.string (A.cat x y)))
   |_=>ZO ()
  |_=>ZO ()
 |_=>ZO ()
def one:Value->Bool
 | .agg _| .tuple _=>false
 |_=>true
def iA:List Value->Bool
 | []=>true
 |x::r=>match one x with
  |true=>iA r
  |false=>false
def CF(place:Nat->Option (Nat×Nat))(cells:List Value):List (Nat×Value)->Option (List Value)
 | []=>some cells
 | (i,v)::rest=>
  match place i with
  |none=>none
  |some (off,size)=>
   if v.cells.toList.length≠size||off+v.cells.toList.length>cells.length then none
   else CF place (fK cells off v.cells.toList) rest
def jP(A:Ar)(ty:Nat->Ti):List (Nat×Nat)->List Value->List Value->Option Bool
 | [],[],[]=>some true
 | (t,_)::fs,x::r,y::q=>match (ty t).kd with
  | .int _=>match x with
   | .int k a=>match y with
    | .int k' b=>match decide (k=k')with
     |true=>match jP A ty fs r q with
      |some t=>some (A.and (A.ay .eql a b) t)
      |none=>none
     |false=>none
    |_=>none
   |_=>none
  | .str=>match x with
   | .string a=>match y with
    | .string b=>match jP A ty fs r q with
     |some t=>some (A.and (A.js .eql a b) t)
     |none=>none
    |_=>none
   |_=>none
  | .bool=>match x with
   | .bool a=>match y with
    | .bool b=>match jP A ty fs r q with
     |some t=>some (A.and (A.qP .eql a b) t)
     |none=>none
    |_=>none
   |_=>none
  |_=>none
 |_,_,_=>none
def neg(A:Ar)(op:BinOp)(b:Bool):Option Value:=
 match op with
 | .eql=>some (.bool b)
 | .neq=>some (.bool (A.not b))
 |_=>none
def bZs(A:Ar)(ty:Nat->Ti)(i:Ti)(op:BinOp)(x y:Value):Option Value:=
 match i.kd with
 | .oh _=>match x with
  | .slice b _ _=>match y with
   | .slice none _ _=>neg A op (A.yP b)
   |_=>none
  |_=>none
 | .bool=>match x with
  | .bool a=>match y with
   | .bool b=>neg A op (A.qP .eql a b)
   |_=>none
  |_=>none
 | .ck fs=>match i.flat with
  |true=>match x with
   | .agg a=>match y with
    | .agg b=>match jP A ty fs a.toList b.toList with
     |some t=>neg A op t
     |none=>none
    |_=>none
   |_=>none
  |false=>none
 |_=>none
def mN(ρ:Operand->SV):List (Nat×Operand)->Option (List (Nat×Value))
 | []=>some []
 | (i,x)::r=>match ρ x,mN ρ r with
  | .v y,some l=>some ((i,y)::l)
  |_,_=>none
def Kd.isNone:Kd->Bool
 | .none=>true
 |_=>false
def placesOf(T:aL):List (Nat×Nat)->Option (List (Nat×Nat))
 | []=>some []
 | (t,off)::r=>match (T.ty t).kd.isNone,placesOf T r with
  |false,some l=>some ((off,(T.ty t).size)::l)
  |_,_=>none
def LA(T:aL)(zero:List Value)(ps:List (Nat×Value)):Kd->Option (List Value)
 | .ck fs=>match placesOf T fs with
  |some l=>CF (λi=>l[i]?) zero ps
  |none=>none
 | .arr _ e=>match (T.ty e).kd.isNone with
  |false=>CF (λi=>some (i*(T.ty e).size,(T.ty e).size)) zero ps
  |true=>none
 |_=>none
def XB(ρ:Operand->SV):Option Operand->Option (Option Int)
 |none=>some none
 |some x=>match ρ x with
  | .v (.int _ n)=>some (some n)
  |_=>none
def yy(A:Ar)(b:Option Addr)(len cap size:Nat)(l hh m:Option Int)(k:Value->Prop):Prop:=
 match m with
 |none=>match hh with
  |none=>match l with
   |none=>k (.slice b len cap)
   |some l=>rO (λ_=>0<=l/\l<=(len:Int)) (λ_=>k (.slice (A.cut b l (A.nat cap) size) (A.mg (A.nat len) l) (A.mg (A.nat cap) l)))
  |some q=>match l with
   |none=>rO (λ_=>0<=q/\q<=(cap:Int)) (λ_=>k (.slice (A.cut b 0 (A.nat cap) size) (A.mg q 0) cap))
   |some l=>rO (λ_=>0<=q/\q<=(cap:Int)/\0<=l/\l<=q) (λ_=>k (.slice (A.cut b l (A.nat cap) size) (A.mg q l) (A.mg (A.nat cap) l)))
 |some m=>match hh with
  |none=>False
  |some q=>match l with
   |none=>rO (λ_=>0<=m/\m<=(cap:Int)/\0<=q/\q<=m) (λ_=>k (.slice (A.cut b 0 m size) (A.mg q 0) (A.mg m 0)))
   |some l=>rO (λ_=>0<=m/\m<=(cap:Int)/\0<=q/\q<=m/\0<=l/\l<=q) (λ_=>k (.slice (A.cut b l m size) (A.mg q l) (A.mg m l)))
def BF(A:Ar)(s:ByteArray)(l hh:Option Int)(k:Value->Prop):Prop:=
 match hh with
 |none=>match l with
  |none=>k (.string s)
  |some l=>rO (λ_=>0<=l/\l<=(s.size:Int)) (λ_=>k (.string (A.sub s l (A.jL s))))
 |some q=>match l with
  |none=>rO (λ_=>0<=q/\q<=(s.size:Int)) (λ_=>k (.string (A.sub s 0 q)))
  |some l=>rO (λ_=>0<=q/\q<=(s.size:Int)/\0<=l/\l<=q) (λ_=>k (.string (A.sub s l q)))
def kW(T:aL)(o:Oper):Bool:=
 match o.op with
 | .convert s d _=>match (T.ty s).kd with
  | .oh _=>false
  | .ptr _=>false
  | .fQc=>false
  |_=>match (T.ty d).kd with
   | .oh _=>false
   |_=>true
 | .move _| .pick .. | .build .. | .load .. | .nilCheck _| .binOp .. | .unOp .. | .makeInterface .. | .makeFunc .. | .slice .. | .fieldAddr .. | .field .. | .indexAddr .. | .index .. | .extract .. | .typeAssert .. =>true
 | .alloc _| .box .. =>match o.dst with
  |some d=> !T.aN d
  |none=>false
 | .call { callee:=.builtin b, .. }=>match b with
  | .len| .cap| .min| .max=>true
  |_=>false
 |_=>false
def rI(agg:Bool)(cs:List Value)(k:Value->Prop):Prop:=
 match agg with
 |true=>k (.agg cs.toArray)
 |false=>match cs with
  |x::_=>k x
  | []=>False
def aXA(k:IntKind):Int:=if k.signed then -1 else k.max
def iO(A:Ar)(T:aL)(p:Unit->Program)(o:Oper)(ρ:Operand->SV)(L:Loc)(h:ab)(k:SV->Option (List Value)->Prop):Prop:=
 match o.op with
 | .move x=>k (ρ x) none
 | .pick c a b=>match ρ c with
  | .v (.bool true)=>k (ρ a) none
  | .v (.bool false)=>k (ρ b) none
  |_=>False
 | .alloc e=>match (T.ty e).kd.isNone with
  |true=>False
  |false=>match o.dst with
   |none=>False
   |some d=>match kf L d with
    |none=>k (.loc d 0) (some (T.ty e).zero)
    |some _=>False
 | .box _ x=>match o.dst with
  |none=>False
  |some d=>match ρ x with
   | .v v=>match kf L d with
    |none=>k (.loc d 0) (some v.cells.toList)
    |some _=>False
   |_=>False
 | .load t a=>match (T.ty t).kd.isNone with
  |true=>False
  |false=>match ρ a with
   | .loc s off=>match kf L s with
    |some c=>match takeN c off (T.ty t).size with
     |some cs=>rI (T.ty t).agg cs (λx=>k (.v x) none)
     |none=>False
    |none=>False
   | .v (.pointer (some x))=>vK h x (T.ty t).size (λcs=>rI (T.ty t).agg cs (λx=>k (.v x) none))
   |_=>False
 | .nilCheck x=>match ρ x with
  | .loc s off=>k (.loc s off) none
  | .v (.pointer (some a))=>k (.v (.pointer (some a))) none
  |_=>False
 | .fieldAddr t x f=>match (T.ty t).kd with
  | .ck fs=>match fs[f]? with
   |some (ft,off)=>match (T.ty ft).kd.isNone with
    |true=>False
    |false=>match (T.ty ft).size with
     |0=>False
     |_+1=>match ρ x with
      | .loc s o=>k (.loc s (o+off)) none
      | .v (.pointer (some a))=>k (.v (.pointer (some (A.off a off)))) none
      |_=>False
   |none=>False
  |_=>False
 | .indexAddr t x i=>match ρ i with
  | .v (.int _ n)=>match (T.ty t).kd with
   | .oh e=>match (T.ty e).kd.isNone with
    |true=>False
    |false=>match ρ x with
     | .v (.slice b len _)=>rO (λ_=>b.isSome=true/\0<=n/\n<(len:Int)) (λ_=>k (.v (.pointer (some (A.ia b n (T.ty e).size)))) none)
     |_=>False
   | .arr m e=>match (T.ty e).kd.isNone with
    |true=>False
    |false=>match ρ x with
     | .loc s off=>rO (λ_=>0<=n/\n<(m:Int)) (λ_=>k (.loc s (A.ix off n (T.ty e).size)) none)
     | .v (.pointer (some a))=>rO (λ_=>0<=n/\n<(m:Int)) (λ_=>k (.v (.pointer (some (A.ia (some a) n (T.ty e).size)))) none)
     |_=>False
   |_=>False
  |_=>False
 | .index t x i=>match ρ i with
  | .v (.int _ n)=>match (T.ty t).kd with
   | .str=>match ρ x with
    | .v (.string s)=>rO (λ_=>0<=n/\n<(s.size:Int)) (λ_=>k (.v (.int .u8 (A.byte s n))) none)
    |_=>False
   |_=>False
  |_=>False
 | .field t x f=>match (T.ty t).kd with
  | .ck fs=>match fs[f]? with
   |some (ft,off)=>match (T.ty ft).kd.isNone with
    |true=>False
    |false=>match ρ x with
     | .v (.agg cs)=>match takeN cs.toList off (T.ty ft).size with
      |some ds=>rI (T.ty ft).agg ds (λx=>k (.v x) none)
      |none=>False
     |_=>False
   |none=>False
  |_=>False
 | .extract x i=>match ρ x with
  | .v (.tuple vs)=>match vs.toList[i]? with
   |some v=>k (.v v) none
   |none=>False
  |_=>False
 | .build t parts=>match (T.ty t).kd.isNone with
  |true=>False
  |false=>match mN ρ parts.toList with
   |some ps=>match LA T (T.ty t).zero ps (T.ty t).kd with
    |some cs=>k (.v (.agg cs.toArray)) none
    |none=>False
   |none=>False
 | .binOp op t x y _=>match ρ x with
  | .v a=>match ρ y with
   | .v b=>match aQa A op a b with
    |some r=>k (.v r) none
    |none=>match bZs A T.ty (T.ty t) op a b with
     |some r=>k (.v r) none
     |none=>Jh A op a b (λr=>k (.v r) none) (λ_=>tG p (λ_=>do eqGuard op t x y a b;binOp op t a b) (λr=>k (.v r) none))
   |_=>False
  |_=>False
 | .unOp op _ x=>match ρ x with
  | .v (.bool b)=>match op with
   | .not=>k (.v (.bool (A.not b))) none
   |_=>False
  | .v (.int kd n)=>match op with
   | .neg=>k (.v (.int kd (A.aC .sub kd 0 n))) none
   | .xor=>k (.v (.int kd (A.aC .xor kd (aXA kd) n))) none
   |_=>False
  |_=>False
 | .convert src dst x=>match ρ x with
  | .v (.int j n)=>match (T.ty dst).kd with
   | .int kd=>match (T.ty src).kd with
    | .int _=>k (.v (.int kd (A.conv kd n))) none
    |_=>False
   |_=>tG p (λ_=>Go.convert src dst (.int j n)) (λr=>k (.v r) none)
  | .v a=>tG p (λ_=>Go.convert src dst a) (λr=>k (.v r) none)
  |_=>False
 | .makeInterface t x=>match (T.ty t).kd with
  | .gXl=>False
  | .none=>False
  |_=>match ρ x with
   | .v v=>k (.v (.iface t v)) none
   |_=>False
 | .makeFunc fn f c=>match nI (f.toList.map ρ)with
  |some fs=>match nI (c.toList.map ρ)with
   |some cs=>k (.v (.func fn fs.toArray cs.toArray)) none
   |none=>False
  |none=>False
 | .slice t x lo hi mx=>match XB ρ lo,XB ρ hi,XB ρ mx with
  |some l,some hh,some m=>match (T.ty t).kd with
   | .oh e=>match (T.ty e).kd.isNone with
    |true=>False
    |false=>match ρ x with
     | .v (.slice b len cap)=>yy A b len cap (T.ty e).size l hh m (λr=>k (.v r) none)
     |_=>False
   | .arr q e=>match (T.ty e).kd.isNone with
    |true=>False
    |false=>match ρ x with
     | .v (.pointer (some a))=>yy A (some a) q q (T.ty e).size l hh m (λr=>k (.v r) none)
     |_=>False
   | .str=>match ρ x with
    | .v (.string s)=>match m with
     |none=>BF A s l hh (λr=>k (.v r) none)
     |some _=>False
    |_=>False
   |_=>False
  |_,_,_=>False
 | .call { callee:=.builtin b,args,argTypes }=>match b with
  | .len=>match argTypes[0]? with
   |some t=>match nI (args.toList.map ρ)with
    |some [.slice _ n _]=>match (T.ty t).kd with
     | .oh _=>k (.v (.int .i64 (A.nat n))) none
     |_=>False
    |some [.string s]=>match (T.ty t).kd with
     | .str=>k (.v (.int .i64 (A.jL s))) none
     |_=>False
    |_=>False
   |none=>False
  | .cap=>match argTypes[0]? with
   |some t=>match nI (args.toList.map ρ)with
    |some [.slice _ _ n]=>match (T.ty t).kd with
     | .oh _=>k (.v (.int .i64 (A.nat n))) none
     |_=>False
    |_=>False
   |none=>False
  | .min=>match nI (args.toList.map ρ)with
   |some [.int kd a,.int _ b]=>k (.v (.int kd (A.ku a b))) none
   |_=>False
  | .max=>match nI (args.toList.map ρ)with
   |some [.int kd a,.int _ b]=>k (.v (.int kd (A.imax a b))) none
   |_=>False
  |_=>False
 | .typeAssert x q as ok=>match ρ x with
  | .v a=>tG p (λ_=>Instr.typeAssert a q as ok) (λr=>k (.v r) none)
  |_=>False
 |_=>False
structure Dq(h:ab)(a:Addr)(cs:List Value)(k:ab->Prop):Prop where
 out:∃c e fr,a.spot=none/\h a.block=some (.cells c e fr)/\a.off+cs.length<=c.size/\(∀i,i<cs.length->¬(fr.1<=a.off+i/\a.off+i<fr.2))/\
  ∀h',h'=bu h a.block (.cells (fK c.toList a.off cs).toArray e fr)->k h'
def aXs(h:ab)(b:Option Addr)(n:Nat)(cs:List Value):Prop:=
 (n=0/\cs=[])\/∃a,b=some a/\Ki h a n cs
def uB(h:ab)(b:Option Addr)(cs:List Value)(k:ab->Prop):Prop:=
 (cs=[]/\k h)\/∃a,b=some a/\Dq h a cs k
def gu(n:Nat)(z:List Value):List Value:=(List.replicate n z).flatten
def sy(s:ByteArray):List Value:=s.data.toList.map λb=>.int .u8 b.toNat
structure qX(h:ab)(b:Option Addr)(len cap n size bytes e:Nat)(new:List Value)(k:Value->ab->Prop):Prop where
 one:iA new=true
 fits:len+n<=cap->uB h (b.map (·.add (len*size))) new (λh'=>k (.slice b (len+n) cap) h')
 aZv:cap<len+n->2*(len+n)*bytes<=2^48/\len+n<=2^48/\∃Tc,aXs h b (len*size) Tc/\
  ∀nb c h' rest,h nb=none->len+n<=c->rest.length=(c-(len+n))*size->h'=bu h nb (.cells (Tc++new++rest).toArray e (0,0))->k (.slice (some ⟨nb,0,none⟩) (len+n) c) h'
structure aJc(h:ab)(b:Option Addr)(len cap n size bytes e:Nat)(z:List Value)(k:Value->ab->Prop):Prop where
 out:qX h b len cap n size bytes e (gu n z) k
structure fS(h:ab)(b:Option Addr)(len cap:Nat)(x:Option Addr)(n size bytes e:Nat)(k:Value->ab->Prop):Prop where
 out:∃new,aXs h x (n*size) new/\qX h b len cap n size bytes e new k
structure od(h:ab)(e:Nat)(l c:Int)(bytes:Nat)(z:List Value)(k:Value->ab->Prop):Prop where
 len:0<=l/\l<=c
 room:c<=2^48/\(bytes:Int)*c<=2^48
 out:∀nb h',h nb=none->h'=bu h nb (.cells (gu c.toNat z).toArray e (0,0))->k (.slice (some ⟨nb,0,none⟩) l.toNat c.toNat) h'
structure uQ(h:ab)(b:Option Addr)(len:Nat)(x:Option Addr)(n size:Nat)(k:Value->ab->Prop):Prop where
 out:∃cs,aXs h x (min n len*size) cs/\iA cs=true/\uB h b cs (λh'=>k (.int .i64 ((min n len:Nat):Int)) h')
structure vL(h:ab)(b:Option Addr)(len:Nat)(z:List Value)(k:ab->Prop):Prop where
 one:iA z=true
 out:uB h b (gu len z) k
def hx(A:Ar)(T:aL)(p:Unit->Program)(o:Oper)(ρ:Operand->SV)(L:Loc)(h:ab)(k:SV->Loc->ab->Prop):Prop:=
 match o.op with
 | .assign x=>k (ρ x) L h
 | .store t a x=>match (T.ty t).kd.isNone with
  |true=>False
  |false=>match ρ x with
   | .v v=>match v.cells.toList.length==(T.ty t).size with
    |false=>False
    |true=>match iA v.cells.toList with
     |false=>False
     |true=>match ρ a with
      | .loc s off=>match kf L s with
       |some c=>match decide (off+v.cells.toList.length<=c.length)with
        |true=>k (.v undef) (rZ L s (fK c off v.cells.toList)) h
        |false=>False
       |none=>False
      | .v (.pointer (some y))=>Dq h y v.cells.toList (λh'=>k (.v undef) L h')
      |_=>False
   |_=>False
 | .alloc e=>match (T.ty e).kd.isNone with
  |true=>False
  |false=>∀n h',h n=none->h'=bu h n (.cells (T.ty e).zero.toArray e (0,0))->k (.v (.pointer (some ⟨n,0,none⟩))) L h'
 | .box e x=>match ρ x with
  | .v v=>∀n h',h n=none->h'=bu h n (.cells v.cells e (0,0))->k (.v (.pointer (some ⟨n,0,none⟩))) L h'
  |_=>False
 | .buildSlice t len parts=>match (T.ty t).kd with
  | .oh e=>match (T.ty e).kd.isNone with
   |true=>False
   |false=>match mN ρ parts.toList with
    |some ps=>match decide (len*(T.ty e).size<=2^24),(T.ty e).zero.length==(T.ty e).size with
     |true,true=>match CF (λi=>some (i*(T.ty e).size,(T.ty e).size)) (gu len (T.ty e).zero) ps with
      |some cs=>∀n h',h n=none->h'=bu h n (.cells cs.toArray e (0,0))->k (.v (.slice (some ⟨n,0,none⟩) len len)) L h'
      |none=>False
     |_,_=>False
    |none=>False
  |_=>False
 | .makeSlice t l c=>match (T.ty t).kd with
  | .oh e=>match (T.ty e).kd.isNone with
   |true=>False
   |false=>match ρ l with
    | .v (.int _ l)=>match ρ c with
     | .v (.int _ c)=>match (T.ty e).zero.length==(T.ty e).size with
      |true=>od h e l c (T.ty e).bytes (T.ty e).zero (λx h'=>k (.v x) L h')
      |false=>False
     |_=>False
    |_=>False
  |_=>False
 | .makeMap t r=>match r with
  |none=>∀n h',h n=none->h'=bu h n (.map #[] 0)->k (.v (.map (some n))) L h'
  |some _=>False
 | .call { callee:=.value f,args, .. }=>match ρ f with
  | .v (.func (.func g) first cap)=>match nI (args.toList.map ρ)with
   |some as=>match T.fn g with
    |true=>match T.hXz g with
     |true=>Qj p g (first.toList++as++cap.toList) h (λr h'=>k (.v r) L h') (λc h'=>T.kp c (T.rs.map λt=>ρ (.tmp t)) h')
     |false=>Dr p g (first.toList++as++cap.toList) h (λr h'=>k (.v r) L h')
    |false=>ef p (λ_=>zl g (first.toList++as++cap.toList)) h (λr h'=>k (.v r) L h')
   |none=>False
  | .v (.func (.yield l) first _)=>match nI (args.toList.map ρ)with
   |some as=>aQk p l (first.toList++as) h (λr h'=>k (.v r) L h')
   |none=>False
  |_=>False
 | .call { callee:=.builtin b,args,argTypes }=>match b with
  | .append=>match argTypes[0]?,argTypes[1]? with
   |some t,some u=>match (T.ty t).kd with
    | .oh e=>match (T.ty e).kd.isNone with
     |true=>False
     |false=>match (T.ty e).zero.length==(T.ty e).size with
      |false=>False
      |true=>match nI (args.toList.map ρ)with
       |some [.slice b len cap,.slice x n _]=>match (T.ty u).kd with
        | .oh _=>fS h b len cap x n (T.ty e).size (T.ty e).bytes e (λv h'=>k (.v v) L h')
        |_=>False
       |some [.slice b len cap,.string s]=>match (T.ty u).kd with
        | .str=>qX h b len cap s.size (T.ty e).size (T.ty e).bytes e (sy s) (λv h'=>k (.v v) L h')
        |_=>False
       |some [.slice b len cap,.int _ n]=>match (T.ty u).kd with
        | .int _=>rO (λ_=>0<=n/\n<=2^48/\n*(T.ty e).bytes<=2^48) (λ_=>aJc h b len cap (A.mg n 0) (T.ty e).size (T.ty e).bytes e (T.ty e).zero (λv h'=>k (.v v) L h'))
        |_=>False
       |_=>False
    |_=>False
   |_,_=>False
  | .copy=>match argTypes[0]? with
   |some t=>match (T.ty t).kd with
    | .oh e=>match (T.ty e).kd.isNone with
     |true=>False
     |false=>match nI (args.toList.map ρ)with
      |some [.slice b len _,.slice x n _]=>uQ h b len x n (T.ty e).size (λv h'=>k (.v v) L h')
      |_=>False
    |_=>False
   |none=>False
  | .clear=>match argTypes[0]? with
   |some t=>match (T.ty t).kd with
    | .oh e=>match (T.ty e).kd.isNone with
     |true=>False
     |false=>match (T.ty e).zero.length==(T.ty e).size with
      |false=>False
      |true=>match nI (args.toList.map ρ)with
       |some [.slice b len _]=>vL h b len (T.ty e).zero (λh'=>k (.v (.tuple #[])) L h')
       |_=>False
    |_=>False
   |none=>False
  | .delete=>match nI (args.toList.map ρ)with
   |some as=>ef p (λ_=>Builtin.delete_ argTypes o.type as.toArray) h (λr h'=>k (.v r) L h')
   |none=>False
  |_=>False
 | .convert src dst x=>match ρ x with
  | .v a=>ef p (λ_=>Go.convert src dst a) h (λr h'=>k (.v r) L h')
  |_=>False
 | .lookup t x i ok=>match ρ x with
  | .v a=>match ρ i with
   | .v b=>ef p (λ_=>Instr.lookup t a b ok) h (λr h'=>k (.v r) L h')
   |_=>False
  |_=>False
 | .mapUpdate t m i x=>match ρ m with
  | .v a=>match ρ i with
   | .v b=>match ρ x with
    | .v c=>ef p (λ_=>do Instr.mapUpdate t a b c;pure undef) h (λ_ h'=>k (.v undef) L h')
    |_=>False
   |_=>False
  |_=>False
 | .mapEntry t m i=>match ρ m with
  | .v a=>match ρ i with
   | .v b=>ef p (λ_=>Instr.mapEntry t a b) h (λr h'=>k (.v r) L h')
   |_=>False
  |_=>False
 | .entryStore t m i x=>match ρ m with
  | .v a=>match ρ i with
   | .v b=>match ρ x with
    | .v c=>ef p (λ_=>do Instr.entryStore t a b c;pure undef) h (λ_ h'=>k (.v undef) L h')
    |_=>False
   |_=>False
  |_=>False
 | .range t x=>match ρ x with
  | .v a=>ef p (λ_=>Instr.range t a) h (λr h'=>k (.v r) L h')
  |_=>False
 | .next it str=>match ρ it with
  | .v a=>ef p (λ_=>Instr.next a str o.type) h (λr h'=>k (.v r) L h')
  |_=>False
 | .entry it=>match ρ it with
  | .v a=>ef p (λ_=>Instr.entry a) h (λr h'=>k (.v r) L h')
  |_=>False
 | .insert t m i x=>match ρ m with
  | .v a=>match ρ i with
   | .v b=>match ρ x with
    | .v c=>ef p (λ_=>do Instr.mapUpdate t a b c;pure undef) h (λ_ h'=>k (.v undef) L h')
    |_=>False
   |_=>False
  |_=>False
 | .panic x=>match ρ x with
  | .v (.iface t v)=>T.kp [{ v:=.iface t v,recovered:=false }] (T.rs.map λt=>ρ (.tmp t)) h
  |_=>False
 |_=>False
def put(env:Env)(d:Option Nat)(x:SV):Env:=
 match d with
 |some t=>env.set t x
 |none=>env
def fq(L:Loc)(d:Option Nat)(nb:Option (List Value)):Loc:=
 match d,nb with
 |some t,some c=>(t,c)::L
 |_,_=>L
def gd(ops:List Oper)(env:Env)(o:Oper)(yes no:Unit->Prop):Prop:=
 match o.guard with
 |none=>yes ()
 |some (j,want)=>match ops[j]? with
  |some oj=>match oj.dst with
   |some d=>match env.getD d .u with
    | .v (.bool b)=>match want with
     |true=>LC b yes no
     |false=>LC b no yes
    | .v (.tuple _)=>no ()
    |_=>False
   |none=>no ()
  |none=>no ()
def BA(A:Ar)(T:aL)(p:Unit->Program)(all:List Oper)(K:Env->Loc->ab->Prop):List Oper->Env->Loc->ab->Prop
 | [],env,L,h=>K env L h
 |o::rest,env,L,h=>
  gd all env o
   (λ_=>match kW T o with
    |true=>iO A T p o (og env) L h (λx nb=>BA A T p all K rest (put env o.dst x) (fq L o.dst nb) h)
    |false=>hx A T p o (og env) L h (λx L' h'=>BA A T p all K rest (put env o.dst x) L' h'))
   (λ_=>BA A T p all K rest (put env o.dst (.v undef)) L h)
def En(T:aL)(strict:Bool)(h:ab)(L:Loc)(env:Env)(o:Oper)(rest:Unit->Prop):Prop:=
 match o.op with
 | .load t a=>match og env a with
  | .v (.pointer (some x))=>vK h x (T.ty t).size (λcs=>rI (T.ty t).agg cs (λx=>rO (λ_=>∃d,o.dst=some d/\env[d]? =some (.v x)) rest))
  | .loc s off=>match strict with
   |false=>rest ()
   |true=>match kf L s with
    |some c=>match takeN c off (T.ty t).size with
     |some cs=>rI (T.ty t).agg cs (λx=>rO (λ_=>∃d,o.dst=some d/\env[d]? =some (.v x)) rest)
     |none=>False
    |none=>False
  |_=>False
 |_=>rest ()
def pins(T:aL)(strict:Bool)(all:List Oper)(h:ab)(L:Loc)(env:Env):List Nat->(Unit->Prop)->Prop
 | [],k=>k ()
 |i::r,k=>match all[i]? with
  |some o=>gd all env o (λ_=>En T strict h L env o (λ_=>pins T strict all h L env r k)) (λ_=>pins T strict all h L env r k)
  |none=>False
def fB(o:Oper):Bool:=match o.op with
 | .store .. =>true
 |_=>false
def jc(A:Ar)(T:aL)(p:Unit->Program)(all:List Oper)(K:Env->Loc->ab->Prop):uC->Env->Loc->ab->Prop
 | .done,env,L,h=>K env L h
 | .aa i rest,env,L,h=>match all[i]? with
  |some o=>gd all env o
   (λ_=>iO A T p o (og env) L h (λx nb=>jc A T p all K rest (put env o.dst x) (fq L o.dst nb) h))
   (λ_=>jc A T p all K rest (put env o.dst (.v undef)) L h)
  |none=>False
 | .ad i pn rest,env,L,h=>match all[i]? with
  |some o=>gd all env o
   (λ_=>hx A T p o (og env) L h (λx L' h'=>pins T (fB o) all h' L' (put env o.dst x) pn (λ_=>jc A T p all K rest (put env o.dst x) L' h')))
   (λ_=>jc A T p all K rest (put env o.dst (.v undef)) L h)
  |none=>False
 | .fork l r,env,L,h=>jc A T p all K l env L h/\jc A T p all K r env L h
inductive Ex where
 |normal
 |exit (id:Nat)
 |ret
def wk:Env->Env->Prop
 | [],[]=>True
 |x::r,y::q=>match y with
  | .u=>wk r q
  | .v b=>x=.v b/\wk r q
  | .loc s o=>x=.loc s o/\wk r q
 |_,_=>False
def Yn(L:Loc):Loc->Prop
 | []=>True
 | (s,c)::r=>kf L s=some c/\Yn L r
def cXs(L:Loc):Env->Prop
 | []=>True
 |x::r=>match x with
  | .loc s _=>(kf L s).isSome=true/\cXs L r
  |_=>cXs L r
structure Wk(env:Env)(L:Loc)(iC:Env)(L1:Loc):Prop where
 env:wk env iC
 loc:Yn L L1
 ok:cXs L1 iC
def QU:List Oper->List Nat
 | []=>[]
 |o::r=>match o.dst with
  |some d=>d::QU r
  |none=>QU r
def wr:Code->List Nat
 | .region _ ops _=>QU ops.toList
 | .seq a b| .cond _ a b=>wr a++wr b
 | .block _ c| .loop c| .scope c=>wr c
 |_=>[]
structure aG(ws:List Nat)(body:(Ex->Env->Loc->ab->Prop)->Env->Loc->ab->Prop)(K:Ex->Env->Loc->ab->Prop)(env:Env)(L:Loc)(h:ab):Prop where
 out:∃(I:Nat->Env->Loc->ab->Prop) (n:Nat),(∃iC L1,Wk env L iC L1/\I n iC L1 h)/\
  ∀n env L h,I n env L h->body (λe bZ L' h'=>match e with
   | .normal=>∃m iC L1,m<n/\Wk bZ L' iC L1/\I m iC L1 h'
   |e=>K e bZ L' h') env L h
def sx(A:Ar)(T:aL)(p:Unit->Program):Code->(Ex->Env->Loc->ab->Prop)->Env->Loc->ab->Prop
 | .skip,K,env,L,h=>K .normal env L h
 | .region id ops draw,K,env,L,h=>match draw with
  |false=>BA A T p ops.toList (λenv L h=>K .normal env L h) ops.toList env L h
  |true=>jc A T p ops.toList (λenv L h=>K .normal env L h) (T.au id) env L h
 | .seq a b,K,env,L,h=>sx A T p a (λe env L h=>match e with
  | .normal=>sx A T p b K env L h
  |e=>K e env L h) env L h
 | .cond c a b,K,env,L,h=>match og env c with
  | .v (.bool t)=>LC t (λ_=>sx A T p a K env L h) (λ_=>sx A T p b K env L h)
  |_=>False
 | .block id c,K,env,L,h=>sx A T p c (λe env L h=>match e with
  | .exit j=>if j=id then K .normal env L h else K (.exit j) env L h
  |e=>K e env L h) env L h
 | .loop c,K,env,L,h=>aG (wr c) (λK' env L h=>sx A T p c K' env L h) K env L h
 | .exit id,K,env,L,h=>K (.exit id) env L h
 | .ret,K,env,L,h=>K .ret env L h
 | .scope c,K,env,L,h=>sx A T p c K env L h
 | .label _,K,env,L,h=>K .normal env L h
 |_,_,_,_,_=>False
def aJK(T:aL)(env:Env)(L:Loc)(h:ab):ResultVar->(Value->Prop)->Prop
 | .tmp t,k=>match env.getD t .u with
  | .v x=>k x
  |_=>False
 | .cell a t,k=>match (T.ty t).kd,env.getD a .u with
  | .none,_=>False
  |_,.loc s off=>match kf L s with
   |some c=>match takeN c off (T.ty t).size with
    |some cs=>rI (T.ty t).agg cs k
    |none=>False
   |none=>False
  |_,.v (.pointer (some x))=>vK h x (T.ty t).size (λcs=>rI (T.ty t).agg cs k)
  |_,_=>False
def wG(T:aL)(env:Env)(L:Loc)(h:ab):List ResultVar->(List Value->Prop)->Prop
 | [],k=>k []
 |r::rs,k=>aJK T env L h r (λx=>wG T env L h rs (λxs=>k (x::xs)))
def pB(l:List Value)(k:Value->Prop):Prop:=match l with
 | [x]=>k x
 |l=>k (.tuple l.toArray)
def cQp(A:Ar)(T:aL)(p:Unit->Program)(c:Code)(ntmps:Nat)(rs:List ResultVar)(args:List Value)(h:ab)(R:Value->ab->Prop):Prop:=
 sx A T p c (λe env L h=>match e with
  | .exit _=>False
  |_=>wG T env L h rs (λl=>pB l (λv=>R v h))) (args.map SV.v++List.replicate (ntmps-args.length) (.v undef)) [] h
variable {P:Program}{T:aL}{A:Ar}[bf A]
structure bZS(w w':World):Prop where
 os:w'.os=w.os
 tape:w'.tape=w.tape
 output:w'.output=w.output
theorem bD.refl{h:ab}{w:World}(a:AI h w):bD h w h w:=
 ⟨rfl,rfl,rfl,Nat.le_refl _,a,λ_ _ b=>⟨rfl,b⟩⟩
theorem bD.trans{h c d:ab}{w f g:World}(a:bD h w c f)(b:bD c f d g):bD h w d g:=
 ⟨b.os.trans a.os,b.tape.trans a.tape,b.output.trans a.output,Nat.le_trans a.size b.size,b.Bf,λk e n=>
  have x:=a.frame k e n;have y:=b.frame k (Nat.lt_of_lt_of_le e a.size) x.2
  ⟨y.1.trans x.1,y.2⟩⟩
theorem AI.ma{h:ab}{w:World}(a:AI h w){b:Nat}(c:w.heap.size<=b):h b=none:=by
 cases d:h b with
 |none=>rfl
 |some o=>have:=a b o d;rw[Array.getElem?_eq_none c]at this;cases this
theorem Fn.mono{h:ab}{R a:Value->ab->Prop}(x:Fn P f args h R)(r:∀v h',R v h'->a v h'):Fn P f args h a:=
 λw c=>(x w c).mono λe d ⟨v,h',he,hR,b⟩=>⟨v,h',he,r _ _ hR,b⟩
theorem Qj.mono{h:ab}{R i:Value->ab->Prop}{K g:List PanicEntry->ab->Prop}(x:Qj p f args h R K)(r:∀v h',R v h'->i v h')(k:∀c h',K c h'->g c h'):Qj p f args h i g:=
 ⟨λw j=>(x.out w j).mono λe l q=>by
  rcases q with⟨v,h',a,b,d⟩|⟨c,h',a,b,d⟩
  .exact .inl ⟨v,h',a,r _ _ b,d⟩
  exact .inr ⟨c,h',a,k _ _ b,d⟩⟩
theorem Dr.mono{h:ab}{R a:Value->ab->Prop}(x:Dr p f args h R)(r:∀v h',R v h'->a v h'):Dr p f args h a:=
 ⟨x.out.mono r⟩
structure xO(P:Program)(t:TypeId)(i:Ti):Prop where
 ex:∃ti d z,P.info? t=some ti/\P.underlying t=some d/\ti.zero=some z/\
  i.agg=(match d with| .struct _| .array _ _=>true|_=>false)/\i.size=ti.size/\i.bytes=ti.bytes/\i.zero=z.cells.toList/\i.kd=nS d/\i.flat=Lp P t d
theorem fT(c:fF P T){t:TypeId}(h:(T.ty t).kd≠.none):xO P t (T.ty t):=by
 rcases c.ty t with e|e
 .rw[e]at h |-;unfold aKu at h |-;cases i:P.info? t with
  |none=>simp[i,Ti.none]at h
  |some b=>
   cases hu:P.underlying t with
   |none=>simp[i,hu,Ti.none]at h
   |some d=>
    cases a:b.zero with
    |none=>simp[i,hu,a,Ti.none]at h
    |some z=>refine⟨b,d,z,?_⟩;simp only[a,i,hu,true_and];all_goals (cases d<;>simp)
 rw[e]at h;exact absurd rfl h
theorem xO.HK{t:TypeId}{i:Ti}(h:xO P t i)(w:World):∃a,(typeInfo t).run P w=.ok a w/\i.size=a.size/\i.bytes=a.bytes:=by obtain⟨a,d,z,b,-,-,-,c,e,-,-,-⟩:=h.ex;exact⟨a,by simp[typeInfo,b],c,e⟩
theorem xO.fk{t:TypeId}{i:Ti}(h:xO P t i)(w:World):(sizeOf t).run P w=.ok i.size w:=by obtain⟨c,a,b,-⟩:=h.HK w;simp[sizeOf,a,b]
theorem xO.cf{t:TypeId}{i:Ti}(h:xO P t i)(w:World):∃d,(underlying t).run P w=.ok d w/\P.underlying t=some d/\i.kd=nS d/\
 i.agg=(match d with| .struct _| .array _ _=>true|_=>false):=by
 obtain⟨e,d,z,-,a,-,b,-,-,-,c,-⟩:=h.ex;exact⟨d,by simp[underlying,a],a,c,b⟩
theorem xO.Eh{t:TypeId}{i:Ti}(h:xO P t i)(w:World):(isAgg t).run P w=.ok i.agg w:=by obtain⟨d,a,-,-,b⟩:=h.cf w;unfold isAgg;rw[Sem.run_bind,a,b];cases d<;>rfl
theorem xO.nK{t:TypeId}{i:Ti}(h:xO P t i)(w:World):∃z,(zeroValue t).run P w=.ok z w/\z.cells.toList=i.zero:=by obtain⟨e,d,z,a,-,b,-,-,-,c,-,-⟩:=h.ex;exact⟨z,by simp[zeroValue,typeInfo,a,b],c.symm⟩
theorem bP(b o n:Nat):(⟨b,o,none⟩:Addr).add n=⟨b,o+n,none⟩:=by
 unfold Addr.add;split
 .rename_i h;simp[h]
 rfl
theorem Nw{w:World}{b o:Nat}{c:Array Value}{e:TypeId}(h:w.heap[b]? =some (.cells c e fr)):w.cell? ⟨b,o,none⟩=c[o]? :=by simp[World.cell?,h]
theorem oD{t:TypeId}{i:Ti}(e:xO P t i)(w:World)(b o:Nat)(cs:List Value)(hl:cs.length=i.size)
 (d:∀j,j<cs.length->w.cell? ⟨b,o+j,none⟩=cs[j]?)  (h:rI i.agg cs k):
 ∃v,(loadVar t ⟨b,o,none⟩).run P w=.ok v w/\k v:=by
 unfold loadVar;rw[Sem.run_bind,e.Eh];unfold rI at h;cases c:i.agg with
 |true=>
  simp only[c]at h;refine⟨_,?_,h⟩;have:=run_loadCells_list (P:=P) w ⟨b,o,none⟩ cs (λj v a=>by
   rw[bP,d j (by rw[List.getElem?_eq_some_iff]at a;exact a.1),a])
  simp[e.fk,<-hl,this]
 |false=>
  simp only[c]at h;cases cs with
  |nil=>exact h.elim
  |cons x r=>refine⟨x,?_,h⟩;have:=d 0 (by simp);simp only[Nat.add_zero,List.getElem?_cons_zero]at this;simp[this]
theorem Ki.cell{h:ab}{w:World}(i:AI h w){a:Addr}{n:Nat}(r:Ki h a n cs):
 a.spot=none/\cs.length=n/\∀j,j<cs.length->w.cell? ⟨a.block,a.off+j,none⟩=cs[j]? :=by
 obtain⟨d,b,c,e,fr,f,g⟩:=r;refine⟨d,b,λj k=>?_⟩;rw[Nw (i _ _ f)];exact g j (b ▸ k)
theorem aKn{v:Value}(h:one v=true)(a:Addr)(m:Mode)(w:World){c:Array Value}{e:TypeId}(s:a.spot=none)
 (b:w.heap[a.block]? =some (.cells c e fr)) (o:a.off<c.size) (f:¬(fr.1<=a.off/\a.off<fr.2)):
 (store a v m).run P w=.ok () (w.setCell a v):=by
 have d:w.cell? a=some c[a.off]:=by simp[World.cell?,b,s,o]
 have z:w.frozen? a=false:=by obtain⟨l,i⟩:=fr;simp only[World.frozen?,b];simp only[Bool.and_eq_false_iff,decide_eq_false_iff_not];simp only at f;omega
 cases v<;>first
  | (simp[one]at h;done)
  | (simp only[store,Sem.run,d,z];rfl)
theorem dS(c:List Value)(o:Nat)(s:List Value):(fK c o s).length=c.length:=by
 induction s generalizing c o with
 |nil=>rfl
 |cons v r i=>simp[fK,i]
theorem nL{b o:Nat}{e:TypeId}:∀(s:List Value) (i:Nat) (c:Array Value) (w:World),
 w.heap[b]? =some (.cells c e fr)->o+i+s.length<=c.size->(∀j,j<s.length->¬(fr.1<=o+i+j/\o+i+j<fr.2))->iA s=true->
 ∃a,(storeCells ⟨b,o,none⟩ s i).run P w=.ok () a/\a.heap[b]? =some (.cells (fK c.toList (o+i) s).toArray e fr)/\
  (∀d,d≠b->a.heap[d]? =w.heap[d]?)/\a.heap.size=w.heap.size/\bZS w a
 | [],i,c,w,f,_,_,_=>⟨w,rfl,by simp[fK,f],λ_ _=>rfl,rfl,rfl,rfl,rfl⟩
 |v::r,i,c,w,f,hl,k,h=>by
  simp only[List.length_cons]at hl k;have q:one v=true:=by
   unfold iA at h;split at h
   .assumption
   cases h
  have t:iA r=true:=by
   unfold iA at h;split at h
   .assumption
   cases h
  have u:=aKn (P:=P) q ⟨b,o+i,none⟩ .plain w rfl f (by show o+i<c.size;omega) (by simpa using k 0 (by omega));have I:(w.setCell ⟨b,o+i,none⟩ v).heap[b]? =some (.cells (c.setIfInBounds (o+i) v) e fr):=by simp[World.setCell,Array.getElem?_modify,f]
  obtain⟨a,l,m,n,p,g⟩:=nL (o:=o) r (i+1) (c.setIfInBounds (o+i) v) _ I (by simp;omega)
   (λj x=>by have:=k (j+1) (by omega);rw[show o+(i+1)+j=o+i+(j+1)by omega];exact this) t
  refine⟨a,?_,?_,?_,?_,?_⟩
  .unfold storeCells;rw[Sem.run_bind,bP,u];exact l
  .rw[m];simp[fK,Array.toList_setIfInBounds,Nat.add_assoc]
  .intro d F;rw[n d F];simp[World.setCell,Array.getElem?_modify,Ne.symm F]
  .rw[p];simp[World.setCell]
  exact⟨g.os,g.tape,g.output⟩
def pt(β:Nat->Nat)(L:Loc):SV->Value->Prop
 | .v x,y=>y=x
 | .loc s off,y=>(∃c,kf L s=some c)/\y=.pointer (some ⟨β s,off,none⟩)
 | .u,_=>True
structure cZ(ds:List Deferred)(h0:ab)(w0:World)(β:Nat->Nat)(env:Env)(L:Loc)(h:ab)(a:Act)(w:World):Prop where
 after:bD h0 w0 h w
 loc:∀s c,kf L s=some c->w0.heap.size<=β s/\h (β s)=none/\∃e,w.heap[β s]? =some (.cells c.toArray e (0,0))
 inj:∀s s' c c',kf L s=some c->kf L s'=some c'->β s=β s'->s=s'
 size:a.tmps.size=env.length
 slot:∀t x,env[t]? =some x->pt β L x (a.tmps.getD t undef)
 defers:a.defers=ds
variable {ds:List Deferred}{h0:ab}{w0:World}{β:Nat->Nat}{env:Env}{L:Loc}{h:ab}{a:Act}{w:World}
theorem getD_some{env:Env}{t:Nat}{x:SV}(h:env.getD t .u=x)(hx:x≠.u):env[t]? =some x:=by
 rw[List.getD_eq_getElem?_getD]at h;cases a:env[t]? with
 |none=>rw[a]at h;exact absurd h.symm hx
 |some y=>rw[a]at h;simp at h;rw[h]
theorem cZ.og(s:cZ ds h0 w0 β env L h a w)(o:Operand):pt β L (og env o) (a.eval o):=by
 cases o with
 |tmp t=>
  show pt β L (env.getD t .u) _;by_cases u:env.getD t .u=.u
  .rw[u];trivial
  exact s.slot t _ (getD_some rfl u)
 |const v=>rfl
 |global g=>rfl
 |func f=>rfl
theorem cZ.bt(s:cZ ds h0 w0 β env L h a w){o:Operand}{x:Value}(hx:Sx.og env o=.v x):a.eval o=x:=by have:=s.og o;rw[hx]at this;exact this
theorem cZ.pN(b:cZ ds h0 w0 β env L h a w){o:Operand}{s off:Nat}(hx:Sx.og env o=.loc s off):
 (∃c,kf L s=some c)/\a.eval o=.pointer (some ⟨β s,off,none⟩):=by
 have:=b.og o;rw[hx]at this;exact this
theorem cZ.lt(d:cZ ds h0 w0 β env L h a w){s:Nat}(hl:kf L s=some c):β s<w.heap.size:=by obtain⟨-,-,e,b⟩:=d.loc s c hl;exact(Array.getElem?_eq_some_iff.1 b).1
theorem cZ.put(s:cZ ds h0 w0 β env L h a w){d:Option Nat}{x:SV}{v:Value}(f:pt β L x v):cZ ds h0 w0 β (put env d x) L h (a.put d v) w:=by
 cases d with
 |none=>exact s
 |some t=>
  refine⟨s.after,s.loc,s.inj,by simp[Act.put,Sx.put,s.size],λu y b=>?_,s.defers⟩;simp only[Sx.put,Act.put]at b |-;rw[List.getElem?_set]at b;split at b
  .rename_i e;subst e;split at b
   .rename_i F;cases b;have:t<a.tmps.size:=by rw[s.size];exact F
    simpa[Array.getD_eq_getD_getElem?,Array.getElem?_setIfInBounds_self_of_lt this]using f
   cases b
  rename_i c;have:=s.slot u y b;simpa[Array.getD_eq_getD_getElem?,Array.getElem?_setIfInBounds_ne c]using this
theorem wR{s:Nat}{L:Loc}{t:Nat}:kf ((s,c)::L) t=if s=t then some c else kf L t:=rfl
theorem pH{w:World}{o:Obj}{b:Nat}(h:b<w.heap.size):(w.heap.push o)[b]? =w.heap[b]? :=by rw[Array.getElem?_push,if_neg (by omega)]
theorem bD.push{h0:ab}{w0:World}{h:ab}{w:World}(x:bD h0 w0 h w)(o:Obj):bD h0 w0 h { w with heap:=w.heap.push o }:=by refine x.trans ⟨rfl,rfl,rfl,by simp,λb o' a=>?_,λb a n=>⟨pH a,n⟩⟩;have:=x.Bf b o' a;rw[pH ((Array.getElem?_eq_some_iff.1 this).1)];exact this
theorem cZ.box(b:cZ ds h0 w0 β env L h a w){d:Nat}(hd:kf L d=none)(c:List Value)(e:TypeId):
 cZ ds h0 w0 (λs=>if s=d then w.heap.size else β s) (Sx.put env (some d) (.loc d 0)) ((d,c)::L) h (a.put (some d) (.pointer (some ⟨w.heap.size,0,none⟩)))
  { w with heap:=w.heap.push (.cells c.toArray e) }:=by
 have base:cZ ds h0 w0 (λs=>if s=d then w.heap.size else β s) env ((d,c)::L) h a { w with heap:=w.heap.push (.cells c.toArray e) }:=by
  refine⟨b.after.push _,λs c' hl=>?_,λs n o p hl W i=>?_,b.size,λt x hx=>?_,b.defers⟩
  .rw[wR]at hl;by_cases Q:s=d
   .rw[if_pos Q.symm]at hl;cases hl;simp only[Q,if_true];exact⟨b.after.size,b.after.Bf.ma (Nat.le_refl _),e,by simp⟩
   rw[if_neg (Ne.symm Q)]at hl;simp only[if_neg Q];obtain⟨f,g,k,l⟩:=b.loc s c' hl;exact⟨f,g,k,by rw[pH (b.lt hl)];exact l⟩
  .rw[wR]at hl W;by_cases f:s=d<;>by_cases g:n=d
   .rw[f,g]
   .rw[if_neg (Ne.symm g)]at W;simp only[f,if_true,if_neg g]at i;have:=b.lt W;omega
   .rw[if_neg (Ne.symm f)]at hl;simp only[g,if_true,if_neg f]at i;have:=b.lt hl;omega
   rw[if_neg (Ne.symm f)]at hl;rw[if_neg (Ne.symm g)]at W;simp only[if_neg f,if_neg g]at i;exact b.inj _ _ _ _ hl W i
  have:=b.slot t x hx;cases x with
  |v y=>exact this
  |u=>trivial
  |loc s off=>
   obtain⟨⟨c',j⟩,m⟩:=this;have F:s≠d:=λe=>by rw[e,hd]at j;cases j
   refine⟨⟨c',by rw[wR,if_neg (Ne.symm F)];exact j⟩,?_⟩;simp only[if_neg F];exact m
 refine base.put ?_;refine⟨⟨c,by rw[wR,if_pos rfl]⟩,by simp⟩
theorem oG{L:Loc}{s:Nat}{d:List Value}(hl:kf L s=some c)(t:Nat):kf (rZ L s d) t=if s=t then some d else kf L t:=by
 induction L with
 |nil=>cases hl
 |cons x r i=>
  obtain⟨k,y⟩:=x;by_cases h:k=s
  .subst h;simp only[rZ,if_true,kf];by_cases a:k=t<;>simp[a]
  simp only[kf,if_neg h]at hl;simp only[rZ,if_neg h,kf,i hl];by_cases a:k=t
  .subst a;simp[Ne.symm h]
  simp[a]
theorem cZ.aJv(f:cZ ds h0 w0 β env L h a w){s:Nat}{c':List Value}(hl:kf L s=some c){g:World}
 (B:∀e,w.heap[β s]? =some (.cells c.toArray e (0,0))->g.heap[β s]? =some (.cells c'.toArray e (0,0))) (j:∀b,b≠β s->g.heap[b]? =w.heap[b]?)
 (G:g.heap.size=w.heap.size) (U:bZS w g):cZ ds h0 w0 β env (rZ L s c') h a g:=by
 obtain⟨p,m,e,r⟩:=f.loc s c hl;refine⟨⟨U.os.trans f.after.os,U.tape.trans f.after.tape,U.output.trans f.after.output,by rw[G];exact f.after.size,λb o Q=>?_,λb D E=>?_⟩,
  λt d hd=>?_,λt P N O z A C=>?_,f.size,λt x hx=>?_,f.defers⟩
 .rw[j b (λe=>by rw[e,m]at Q;cases Q)];exact f.after.Bf b o Q
 .have:=f.after.frame b D E;exact⟨by rw[j b (by omega)];exact this.1,this.2⟩
 .rw[oG hl]at hd;by_cases i:s=t
  .subst i;rw[if_pos rfl]at hd;cases hd;exact⟨p,m,e,B e r⟩
  rw[if_neg i]at hd;obtain⟨H,I,n,J⟩:=f.loc t d hd;exact⟨H,I,n,by rw[j _ (λq=>i (f.inj _ _ _ _ hl hd q.symm))];exact J⟩
 .have q:∀t c,kf (rZ L s c') t=some c->∃c,kf L t=some c:=λt c l=>by
   rw[oG hl]at l;by_cases i:s=t
   .subst i;exact⟨_,hl⟩
   rw[if_neg i]at l;exact⟨_,l⟩
  obtain⟨_,K⟩:=q _ _ z;obtain⟨_,M⟩:=q _ _ A;exact f.inj _ _ _ _ K M C
 have:=f.slot t x hx;cases x with
 |v y=>exact this
 |u=>trivial
 |loc k off=>
  obtain⟨⟨d,hd⟩,F⟩:=this;refine⟨?_,F⟩;rw[oG hl];by_cases i:s=k
  .exact⟨c',by rw[if_pos i]⟩
  exact⟨d,by rw[if_neg i];exact hd⟩
theorem cZ.step(b:cZ ds h0 w0 β env L h a w){h':ab}{f:World}(d:bD h w h' f):cZ ds h0 w0 β env L h' a f:=
 ⟨b.after.trans d,λs c hl=>by
  obtain⟨g,i,e,j⟩:=b.loc s c hl;have:=d.frame (β s) (b.lt hl) i;exact⟨g,this.2,e,by rw[this.1];exact j⟩,b.inj,b.size,b.slot,b.defers⟩
theorem bD.new{h:ab}{w:World}(c:AI h w)(o:Obj):bD h w (bu h w.heap.size o) { w with heap:=w.heap.push o }:=by
 refine⟨rfl,rfl,rfl,by simp,λb o' a=>?_,λb a n=>⟨pH a,?_⟩⟩
 .simp only[bu]at a;split at a
  .rename_i e;subst e;cases a;simp
  have:=c b o' a;show(w.heap.push o)[b]? =_;rw[pH ((Array.getElem?_eq_some_iff.1 this).1)];exact this
 simp only[bu];rw[if_neg (by omega)];exact n
theorem bD.set{h:ab}{w c:World}(j:AI h w){n:Nat}{o o':Obj}(k:h n=some o)(i:c.heap[n]? =some o')(g:∀b,b≠n->c.heap[b]? =w.heap[b]?)
 (l:c.heap.size=w.heap.size) (d:bZS w c):bD h w (bu h n o') c:=by
 refine⟨d.os,d.tape,d.output,by omega,λb q a=>?_,λb a f=>?_⟩
 .simp only[bu]at a;split at a
  .rename_i e;subst e;cases a;exact i
  rename_i e;rw[g b e];exact j b q a
 have:b≠n:=λe=>by rw[e,k]at f;cases f
 exact⟨g b this,by simp only[bu];rw[if_neg this];exact f⟩
variable {P:Program}{T:aL}{A:Ar}[bf A]
theorem jR{t:Bool}{x y:Unit->Prop}(h:LC t x y):(t=true/\x ())\/(t=false/\y ()):=by
 cases t
 .exact .inr ⟨rfl,h⟩
 exact .inl ⟨rfl,h⟩
theorem kO(h:rI g cs k):∃v,rI g cs (λx=>x=v)/\k v:=by
 cases g with
 |true=>exact⟨_,rfl,h⟩
 |false=>
  cases cs with
  |nil=>exact h.elim
  |cons x r=>exact⟨x,rfl,h⟩
theorem nE{b:Value->Prop}(h:rI g cs k)(a:∀v,k v->b v):rI g cs b:=by
 obtain⟨v,c,d⟩:=kO h;cases g with
 |true=>exact a _ h
 |false=>
  cases cs with
  |nil=>exact h.elim
  |cons x r=>exact a _ h
theorem qe{len:Nat}{l c m:Option Int}(a:yy A b len cap size l c m k):
 ∃v,k v/\∀d:Value->Prop,d v->yy A b len cap size l c m d:=by
 cases m<;>cases c<;>cases l<;>first
  |exact a.elim
  |exact⟨_,a,λ_ h=>h⟩
  |exact⟨_,a.out,λ_ h=>⟨a.h,h⟩⟩
theorem uX{s:ByteArray}{l a:Option Int}(b:BF A s l a k):
 ∃v,k v/\∀c:Value->Prop,c v->BF A s l a c:=by
 cases a<;>cases l<;>first
  |exact⟨_,b,λ_ h=>h⟩
  |exact⟨_,b.out,λ_ h=>⟨b.h,h⟩⟩
theorem CX{o:BinOp}{a b:Value}{e:(Value->Prop)->Unit->Prop}(f:∀k,e k ()->∃v,k v/\∀c:Value->Prop,c v->e c ())(d:Jh A o a b k (e k)):
 ∃v,k v/\∀c:Value->Prop,c v->Jh A o a b c (e c):=by
 unfold Jh at d |-;repeat' split at d
 all_goals first
  |exact f _ d
  |exact⟨_,d.out,λ_ h=>⟨d.h,h⟩⟩
set_option maxHeartbeats 1000000 in
theorem qB{j:Operand->SV}{L:Loc}{h:ab}{k:SV->Option (List Value)->Prop}(d:iO A T p o j L h k):
 ∃s n,k s n/\∀a:SV->Option (List Value)->Prop,a s n->iO A T p o j L h a:=by
 unfold iO at d |-;repeat' split at d
 all_goals first
  |exact d.elim
  |exact⟨_,_,d,λa h'=>h'⟩
  | (
   obtain⟨cs,b,c⟩:=(show vK _ _ _ _ from d).out
   obtain⟨v,f,g⟩:=kO c;exact⟨_,_,g,λa h'=>⟨cs,b,nE f (λv i=>by subst i;exact h')⟩⟩)
  | (
   obtain⟨v,f,g⟩:=kO d
   exact⟨_,_,g,λa h'=>nE f (λv i=>by subst i;exact h')⟩)
  | (
   obtain⟨v,b,c⟩:=(show tG _ _ _ from d).out
   exact⟨_,_,c,λa h'=>⟨v,b,h'⟩⟩)
  | (
   obtain⟨b,c⟩:=(show rO _ _ from d)
   exact⟨_,_,c,λa h'=>⟨b,h'⟩⟩)
  | (
   obtain⟨v,b,c⟩:=CX (e:=λk _=>tG p _ k) (λk h=>by
    obtain⟨v,l,m⟩:=h.out;exact⟨v,m,λa h'=>⟨v,l,h'⟩⟩) d
   exact⟨_,_,b,λa h'=>c (λv=>a (.v v) none) h'⟩)
  | (
   obtain⟨v,b,c⟩:=qe d
   exact⟨_,_,b,λa h'=>c _ h'⟩)
  | (
   obtain⟨v,b,c⟩:=uX d
   exact⟨_,_,b,λa h'=>c _ h'⟩)
  |skip
variable {P:Program}{T:aL}{A:Ar}[bf A]
variable {ds:List Deferred}{h0:ab}{w0:World}{β:Nat->Nat}{env:Env}{L:Loc}{h:ab}{a:Act}{w:World}
theorem DX(e:cZ ds h0 w0 β env L h a w):∀ {l:List Operand} {c:List Value},nI (l.map (og env))=some c->l.map a.eval=c
 | [],c,b=>by simp[nI]at b;simp[b]
 |x::r,c,b=>by
  simp only[List.map_cons]at b;cases hx:og env x with
  |v y=>
   rw[hx]at b;simp only[nI]at b;cases d:nI (r.map (og env))with
   |none=>rw[d]at b;cases b
   |some l=>rw[d]at b;simp at b;rw[<-b,List.map_cons,e.bt hx,DX e d]
  |loc s o=>rw[hx]at b;simp[nI]at b
  |u=>rw[hx]at b;simp[nI]at b
theorem iZ(s:cZ ds h0 w0 β env L h a w){l:Array Operand}{v:List Value}(b:nI (l.toList.map (og env))=some v):l.map a.eval=v.toArray:=by rw[<-DX s b];apply Array.ext';simp
theorem sF(b:cZ ds h0 w0 β env L h a w):∀ {l:List (Nat×Operand)} {s:List (Nat×Value)},mN (og env) l=some s->l.map (λ(i,x)=>(i,a.eval x))=s
 | [],s,v=>by simp[mN]at v;simp[v]
 | (i,x)::r,s,v=>by
  unfold mN at v;split at v
  .rename_i y l hx c;cases v;simp only[List.map_cons];rw[b.bt hx,sF b c]
  cases v
theorem BI(off:Nat):∀(s:List Value) (k:Nat) (cells:Array Value),
 (s.zipIdx k).foldl (λcs (c,j)=>cs.setIfInBounds (off+j) c) cells=(fK cells.toList (off+k) s).toArray
 | [],k,cells=>by simp[fK]
 |v::r,k,cells=>by
  simp only[List.zipIdx_cons,List.foldl_cons];rw[BI off r (k+1)];simp[fK,Array.toList_setIfInBounds,Nat.add_assoc]
theorem fill_eq(p:Nat->Option (Nat×Nat)):∀(s:List (Nat×Value)) (cells:Array Value) (cs:List Value),CF p cells.toList s=some cs->Instr.fill p cells s=some cs.toArray
 | [],cells,cs,h=>by
  simp[CF]at h;simp[Instr.fill,<-h]
 | (i,v)::r,cells,cs,h=>by
  unfold CF at h;unfold Instr.fill;cases a:p i with
  |none=>simp[a]at h
  |some x=>
   obtain⟨off,size⟩:=x;simp only[a]at h |-;have l:v.cells.toList.length=v.cells.size:=by simp
   have f:cells.toList.length=cells.size:=by simp
   rw[l,f]at h;split at h
   .cases h
   rename_i c;rw[if_neg c];have:=fill_eq p r (fK cells.toList off v.cells.toList).toArray cs (by simpa using h);rw[<-this];congr 1;rw[<-Array.foldl_toList];have e:=BI off v.cells.toList 0 cells;simp only[Nat.add_zero]at e;rw[<-e];congr 1;simp[Array.toList_zipIdx]
theorem fQ{k:Kd}(h:k.isNone=false):k≠.none:=λe=>by rw[e]at h;cases h
theorem BQ(a:fF P T)(w:World):∀(s:List Field) (l:List (Nat×Nat)),placesOf T (s.map λf=>(f.type,f.offset))=some l->
 (s.mapM λf=>do pure (f.offset,<-sizeOf f.type):Sem (List (Nat×Nat))).run P w=.ok l w
 | [],l,h=>by simp[placesOf]at h;simp[h]
 |f::r,l,h=>by
  simp only[List.map_cons]at h;unfold placesOf at h;split at h
  .rename_i d k b;cases h;have i:=fT a (fQ k);have c:=BQ a w r d b;rw[List.mapM_cons];simp only[Sem.run_bind,i.fk,Result.andThen_ok,Sem.run_pure,c]
  cases h
theorem qC{f:List (Nat×Nat)}{k:Kd}(h:k=.ck f):k≠.none:=by rw[h];simp
theorem Ch{n:Nat}{k:Kd}(h:k=.arr n e):k≠.none:=by rw[h];simp
theorem fM{k:Kd}(h:k=.oh e):k≠.none:=by rw[h];simp
theorem wU(h:nS d=.ck s):∃F,d=.struct F/\s=F.toList.map λf=>(f.type,f.offset):=by cases d<;>simp[nS]at h;exact⟨_,rfl,h.symm⟩
theorem Kv{n:Nat}(h:nS d=.arr n e):d=.array n e:=by cases d<;>simp[nS]at h;rw[h.1,h.2]
theorem nR(h:nS d=.oh e):d=.slice e:=by cases d<;>simp[nS]at h;rw[h]
theorem Ku(h:nS d=.str):d=.string:=by cases d<;>simp[nS]at h;rfl
theorem run_build(a:fF P T)(w:World){t:TypeId}{p:List (Nat×Value)}(k:(T.ty t).kd.isNone=false)
 (h:LA T (T.ty t).zero p (T.ty t).kd=some cs):(Instr.build t p.toArray).run P w=.ok (.agg cs.toArray) w:=by
 have b:=fT a (fQ k);obtain⟨z,o,I⟩:=b.nK w;obtain⟨d,hd,-,c,-⟩:=b.cf w;unfold Instr.build;simp only[Sem.run_bind,o,Result.andThen_ok,hd];unfold LA at h;split at h
 .rename_i q v;split at h
  .rename_i l hl;obtain⟨F,rfl,j⟩:=wU (c ▸ v);have m:=BQ a w F.toList l (j ▸ hl);have X:(F.mapM λf=>do pure (f.offset,<-sizeOf f.type):Sem (Array (Nat×Nat))).run P w=.ok l.toArray w:=by rw[Array.mapM_eq_mapM_toList];simp only[Sem.run_map,m,Result.andThen_ok]
   simp only[X,Result.andThen_ok,Sem.run_bind];have:=fill_eq (λi=>l[i]?) p z.cells cs (by rw[I];exact h);simp only[List.getElem?_toArray];rw[this];rfl
  cases h
 .rename_i n e g;split at h
  .rename_i U;have s:=fT a (fQ U);obtain rfl:=Kv (c ▸ g);simp only[Sem.run_bind,s.fk,Result.andThen_ok];have:=fill_eq (λi=>some (i*(T.ty e).size,(T.ty e).size)) p z.cells cs (by rw[I];exact h);rw[this];rfl
  cases h
 cases h
theorem Bz{off n:Nat}(h:takeN c off n=some cs):cs.length=n/\∀j,j<cs.length->c[off+j]? =cs[j]? :=by
 unfold takeN at h;split at h
 .rename_i hl;cases h;have:((c.drop off).take n).length=n:=by simp;omega
  refine⟨this,λj a=>?_⟩;rw[List.getElem?_take,if_pos (by omega),List.getElem?_drop]
 cases h
variable {P:Program}{T:aL}{A:Ar}[bf A]
variable {ds:List Deferred}{h0:ab}{w0:World}{β:Nat->Nat}{env:Env}{L:Loc}{h:ab}{a:Act}{w:World}
theorem fG{x:Int}{y:Nat}{code:BoundsCode}{k:IntKind}(h:0<=x/\x<=(y:Int))(w:World):(Instr.sliceBound (.int k x) y code).run P w=.ok x.toNat w:=by simp[Instr.sliceBound,asIntOf,h]
theorem BD(s:cZ ds h0 w0 β env L h a w){x:Option Operand}{l:Option Int}(hl:XB (og env) x=some l):
 (l=none/\x.map a.eval=none)\/(∃n k,l=some n/\x.map a.eval=some (.int k n)):=by
 cases x with
 |none=>simp[XB]at hl;exact .inl ⟨hl.symm,rfl⟩
 |some y=>
  unfold XB at hl;simp only at hl;split at hl
  .rename_i k n e;cases hl;exact .inr ⟨n,k,rfl,by simp[s.bt e]⟩
  cases hl
theorem BE{len:Nat}{l o m:Option Int}{q p s:Option Value}
 (u:(l=none/\q=none)\/(∃n k,l=some n/\q=some (.int k n)))
 (v:(o=none/\p=none)\/(∃n k,o=some n/\p=some (.int k n)))
 (y:(m=none/\s=none)\/(∃n k,m=some n/\s=some (.int k n)))
 (h:yy A b len cap size l o m (λx=>x=r)) (w:World):
 ∃L H M:Nat,(Instr.sliceBounds g len cap q p s).run P w=.ok (L,H,M) w/\
  r=.slice (if M=L then b else b.map (·.add (L*size))) (H-L) (M-L):=by
 rcases u with⟨rfl,rfl⟩|⟨a,z,rfl,rfl⟩<;>rcases v with⟨rfl,rfl⟩|⟨d,B,rfl,rfl⟩<;>rcases y with⟨rfl,rfl⟩|⟨f,C,rfl,rfl⟩
 .refine⟨0,len,cap,by simp[Instr.sliceBounds],?_⟩;have:Value.slice b len cap=r:=h;rw[<-this];simp[Addr.add]
 .exact h.elim
 .obtain⟨c,h⟩:=(show rO _ _ from h);refine⟨0,d.toNat,cap,by simp[Instr.sliceBounds,fG c],?_⟩;have:=h;simp only[A.CK,A.nat_eq,A.zq]at this;rw[<-this];simp
 .obtain⟨c,h⟩:=(show rO _ _ from h);refine⟨0,d.toNat,f.toNat,?_,?_⟩
  .have i:0<=f/\f<=(cap:Int):=⟨c.1,c.2.1⟩;have j:0<=d/\d<=(f.toNat:Int):=⟨c.2.2.1,by omega⟩;simp[Instr.sliceBounds,fG i,fG j]
  have:=h;simp only[A.CK,A.nat_eq,A.zq]at this;rw[<-this];have:(f=0)↔(f.toNat=0):=by omega
  simp[this]
 .obtain⟨c,h⟩:=(show rO _ _ from h);refine⟨a.toNat,len,cap,by simp[Instr.sliceBounds,fG c],?_⟩;have:=h;simp only[A.CK,A.nat_eq,A.zq]at this;rw[<-this];have e:(Int.ofNat cap=a)↔(cap=a.toNat):=by have:=c.1;simp;omega
  simp only[e];congr 1<;>(try simp)<;>omega
 .exact h.elim
 .obtain⟨c,h⟩:=(show rO _ _ from h);refine⟨a.toNat,d.toNat,cap,?_,?_⟩
  .have i:0<=d/\d<=(cap:Int):=⟨c.1,c.2.1⟩;have j:0<=a/\a<=(d.toNat:Int):=⟨c.2.2.1,by omega⟩;simp[Instr.sliceBounds,fG i,fG j]
  have:=h;simp only[A.CK,A.nat_eq,A.zq]at this;rw[<-this];have e:(Int.ofNat cap=a)↔(cap=a.toNat):=by have:=c.2.2.1;simp;omega
  simp only[e];congr 1<;>(try simp)<;>omega
 obtain⟨c,h⟩:=(show rO _ _ from h);refine⟨a.toNat,d.toNat,f.toNat,?_,?_⟩
 .have i:0<=f/\f<=(cap:Int):=⟨c.1,c.2.1⟩;have j:0<=d/\d<=(f.toNat:Int):=⟨c.2.2.1,by omega⟩;have t:0<=a/\a<=(d.toNat:Int):=⟨c.2.2.2.2.1,by omega⟩;simp[Instr.sliceBounds,fG i,fG j,fG t]
 have:=h;simp only[A.CK,A.nat_eq,A.zq]at this;rw[<-this];have e:(f=a)↔(f.toNat=a.toNat):=by omega
 simp only[e];congr 1<;>omega
theorem Ka{s:ByteArray}{l d:Option Int}{o i:Option Value}
 (g:(l=none/\o=none)\/(∃n k,l=some n/\o=some (.int k n)))
 (j:(d=none/\i=none)\/(∃n k,d=some n/\i=some (.int k n)))
 (h:BF A s l d (λx=>x=r)) (w:World):
 ∃L H M:Nat,(Instr.sliceBounds false s.size s.size o i none).run P w=.ok (L,H,M) w/\r=.string (s.extract L H):=by
 rcases g with⟨rfl,rfl⟩|⟨b,m,rfl,rfl⟩<;>rcases j with⟨rfl,rfl⟩|⟨a,p,rfl,rfl⟩
 .refine⟨0,s.size,s.size,by simp[Instr.sliceBounds],?_⟩;have:Value.string s=r:=h;rw[<-this];simp
 .obtain⟨c,h⟩:=(show rO _ _ from h);refine⟨0,a.toNat,s.size,by simp[Instr.sliceBounds,fG c],?_⟩;have:=h;simp only[A.sub_eq]at this;rw[<-this];rfl
 .obtain⟨c,h⟩:=(show rO _ _ from h);refine⟨b.toNat,s.size,s.size,by simp[Instr.sliceBounds,fG c],?_⟩;have:=h;simp only[A.sub_eq,A.RV]at this;rw[<-this];rfl
 obtain⟨c,h⟩:=(show rO _ _ from h);refine⟨b.toNat,a.toNat,s.size,?_,?_⟩
 .have e:0<=a/\a<=(s.size:Int):=⟨c.1,c.2.1⟩;have f:0<=b/\b<=(a.toNat:Int):=⟨c.2.2.1,by omega⟩;simp[Instr.sliceBounds,fG e,fG f]
 have:=h;simp only[A.sub_eq]at this;rw[<-this]
theorem VF{o:BinOp}{t:TypeId}{x:Operand}{v:Value}(h:aQa A o u v=some r)(w:World):
 (do eqGuard o t x y u v;Go.binOp o t u v:Sem Value).run P w=.ok r w:=by
 have g:(eqGuard o t x y u v).run P w=.ok () w:=by
  unfold aQa at h;cases u<;>first
   | (simp at h;done)
   | (cases v<;>first
    | (simp at h;done)
    | (unfold eqGuard;split<;>rfl))
 rw[Sem.run_bind,g,Result.andThen_ok];unfold aQa at h;split at h
 .rename_i k c a d;split at h<;>first
   |cases h
   | (
    split at h
    .rename_i G;subst G;cases h;first
      | (simp[Go.binOp,Op.intArith,A.tE,aC];done)
      | (simp[Go.binOp,Op.intBits,A.tE,aC];done)
      | (simp[Go.binOp,Op.intCmp,A.TD,ay];done)
    cases h)
 .split at h<;>first
   | (cases h;rw[A.Sg];rfl)
   | (cases h;done)
 cases h
theorem VG{o:BinOp}{t:TypeId}{x:Operand}{v:Value}{Z:Unit->Prop}(h:Jh A o u v (λz=>z=r) Z)
 (e:Z ()->∀w,(do eqGuard o t x y u v;Go.binOp o t u v:Sem Value).run P w=.ok r w) (w:World):
 (do eqGuard o t x y u v;Go.binOp o t u v:Sem Value).run P w=.ok r w:=by
 unfold Jh at h;split at h
 .rename_i g c;split at h
  .rename_i i d;split at h
   .split at h
    .rename_i k;have k:=of_decide_eq_true k;subst k;obtain⟨b,a⟩:=h;subst a;simp[eqGuard,Go.binOp,Op.intDiv,A.tE,aC,b]
    exact e h w
   .split at h
    .rename_i k;have k:=of_decide_eq_true k;subst k;obtain⟨b,a⟩:=h;subst a;simp[eqGuard,Go.binOp,Op.intDiv,A.tE,aC,b]
    exact e h w
   .obtain⟨b,a⟩:=h;subst a;have:¬d<0:=by omega
    simp[eqGuard,Go.binOp,Op.shift,A.tE,aC,this]
   .obtain⟨b,a⟩:=h;subst a;have:¬d<0:=by omega
    simp[eqGuard,Go.binOp,Op.shift,A.tE,aC,this]
   exact e h w
  exact e h w
 .rename_i c;split at h
  .rename_i d;split at h
   .obtain⟨b,a⟩:=h;subst a;have m:IntKind.i64.max=9223372036854775807:=by decide
    have K:(2:Int)^62=4611686018427387904:=by decide
    have:¬(9223372036854775807<(c.size:Int)+(d.size:Int)):=by rw[K]at b;omega
    have f:A.cat c d=c++d:=by rw[A.bZu]
    rw[f];simp[eqGuard,Go.binOp,Op.stringOp,this]
   exact e h w
  exact e h w
 exact e h w
theorem xA(g:fF P T)(d:Nat)(xs ys:Array Value)(w:World):∀(s:List Field) (i:Nat) (t:Bool),
 ((
  s.zipIdx i).all λ(f,i)=>f.offset==i&&decide (f.name≠ "_")&&(match P.info? f.type,P.underlying f.type with
  |some i,some .bool|some i,some (.int _) |some i,some .string=>i.size==1
  |_,_=>false))=true->
 jP A T.ty (s.map λf=>(f.type,f.offset)) (xs.toList.drop i) (ys.toList.drop i)=some t->(Op.eqFields (d+1) xs ys s).run P w=.ok t w
 | [],i,t,_,he=>by
  simp only[List.map_nil]at he;cases hx:xs.toList.drop i with
  |cons x r=>rw[hx]at he;simp[jP]at he
  |nil=>
   cases e:ys.toList.drop i with
   |nil=>rw[hx,e]at he;simp[jP]at he;subst he;rfl
   |cons y r=>rw[hx,e]at he;simp[jP]at he
 |f::s,i,t,p,he=>by
  simp only[List.zipIdx_cons,List.all_cons,Bool.and_eq_true,beq_iff_eq,decide_eq_true_eq]at p;obtain⟨⟨⟨u,N⟩,Y⟩,j⟩:=p;simp only[List.map_cons]at he;cases hx:xs.toList.drop i with
  |nil=>rw[hx]at he;simp[jP]at he
  |cons x r=>
   have X:xs[i]? =some x:=by have:=congrArg (·[0]?) hx;simpa using this
   have E:xs.toList.drop (i+1)=r:=by have:=congrArg (List.drop 1) hx;simpa[List.drop_drop,Nat.add_comm]using this
   cases e:ys.toList.drop i with
   |nil=>rw[hx,e]at he;simp[jP]at he
   |cons y q=>
    have I:ys[i]? =some y:=by have:=congrArg (·[0]?) e;simpa using this
    have C:ys.toList.drop (i+1)=q:=by have:=congrArg (List.drop 1) e;simpa[List.drop_drop,Nat.add_comm]using this
    rw[hx,e]at he;have K:=λc S=>xA g d xs ys w s (i+1) c j (by rw[E,C];exact S);have m:f.name≠ "_" :=N;have U:∀k,(T.ty f.type).kd=k->k≠.none->∃a,P.underlying f.type=some a/\k=nS a:=λk h F=>by
     obtain⟨a,-,o,z,-⟩:=(fT g (t:=f.type) (by rw[h];exact F)).cf w;exact⟨a,o,by rw[<-h,z]⟩
    have fin:∀(a:TypeDesc) (b:Bool) (c:Bool),P.underlying f.type=some a->(isAgg f.type).run P w=.ok false w->(Op.equalIn (d+1) f.type x y).run P w=.ok b w->
     jP A T.ty (s.map λf=>(f.type,f.offset)) r q=some c->t=(b&&c)->(Op.eqFields (d+1) xs ys (f::s)).run P w=.ok t w:=λa b c n J B S H=>by
     have Z:(part f.type xs f.offset).run P w=.ok x w:=by unfold part;rw[Sem.run_bind,J];simp[u,X]
     have D:(part f.type ys f.offset).run P w=.ok y w:=by unfold part;rw[Sem.run_bind,J];simp[u,I]
     unfold Op.eqFields;rw[if_pos m];simp only[Sem.run_bind,Z,D,Result.andThen_ok,B,H];cases b with
     |false=>rfl
     |true=>simp[K c S]
    unfold jP at he;split at he
    .rename_i h;obtain⟨a,n,l⟩:=U _ h (by simp);obtain⟨k,rfl⟩:∃k,a=.int k:=by cases a<;>simp[nS]at l;exact⟨_,rfl⟩
     split at he
     .split at he
      .split at he
       .rename_i G;split at he
        .rename_i L a1 M a2 c S;cases he;have v:=of_decide_eq_true G;subst v;refine fin _ _ _ n ?_ (run_equalIn_int w d _ _ _ _ _ n) S (by rw[A.and_eq,A.TD];rfl);unfold isAgg;rw[Sem.run_bind,run_underlying n w];rfl
        cases he
       cases he
      cases he
     cases he
    .rename_i h;obtain⟨a,n,l⟩:=U _ h (by simp);obtain rfl:a=.string:=by cases a<;>simp[nS]at l;rfl
     split at he
     .split at he
      .split at he
       .rename_i a1 a2 c S;cases he;refine fin _ _ _ n ?_ (run_equalIn_string w d _ _ _ n) S (by rw[A.and_eq,A.Sg];rfl);unfold isAgg;rw[Sem.run_bind,run_underlying n w];rfl
       cases he
      cases he
     cases he
    .rename_i h;obtain⟨a,n,l⟩:=U _ h (by simp);obtain rfl:a=.bool:=by cases a<;>simp[nS]at l;rfl
     split at he
     .split at he
      .split at he
       .rename_i a1 a2 c S;cases he;refine fin _ _ _ n ?_ (run_equalIn_bool' w d _ _ _ n) S (by rw[A.and_eq,A.LF];rfl);unfold isAgg;rw[Sem.run_bind,run_underlying n w];rfl
       cases he
      cases he
     cases he
    cases he
theorem BV{o:BinOp}{b:Bool}(h:neg A o b=some r):(o=.eql/\r=.bool b)\/(o=.neq/\r=.bool (!b)):=by
 unfold neg at h;split at h
 .cases h;exact .inl ⟨rfl,rfl⟩
 .cases h;exact .inr ⟨rfl,by rw[A.not_eq]⟩
 cases h
theorem Vr(j:fF P T){o:BinOp}{t:TypeId}{x:Operand}{v:Value}(h:bZs A T.ty (T.ty t) o u v=some r)(w:World):
 (do eqGuard o t x y u v;Go.binOp o t u v:Sem Value).run P w=.ok r w:=by
 unfold bZs at h;split at h
 .rename_i e a;have i:=fT j (fM a);obtain⟨d,hd,M,f,-⟩:=i.cf w;obtain rfl:=nR (f ▸ a);split at h
  .rename_i b l c;split at h
   .rename_i n m;have g:(eqGuard o t x y (.slice b l c) (.slice none n m)).run P w=.ok () w:=by unfold eqGuard;split<;>rfl
    have q:(Op.equal t (.slice b l c) (.slice none n m)).run P w=.ok b.isNone w:=by unfold Op.equal Op.maxDepth Op.equalIn;rw[Sem.run_bind,hd,Result.andThen_ok];cases b<;>rfl
    rw[Sem.run_bind,g,Result.andThen_ok];rcases BV h with⟨rfl,rfl⟩|⟨rfl,rfl⟩
    .simp[Go.binOp,q,A.Tz]
    simp[Go.binOp,q,A.Tz]
   cases h
  cases h
 .rename_i a;have i:=fT j (show(T.ty t).kd≠.none by rw[a];simp);obtain⟨d,hd,M,f,-⟩:=i.cf w;obtain rfl:d=.bool:=by rw[f]at a;cases d<;>simp[nS]at a;rfl
  split at h
  .rename_i b;split at h
   .rename_i c;have g:(eqGuard o t x y (.bool b) (.bool c)).run P w=.ok () w:=by unfold eqGuard;split<;>rfl
    have q:(Op.equal t (.bool b) (.bool c)).run P w=.ok (b==c) w:=run_equalIn_bool' w 9999 t b c M;rw[Sem.run_bind,g,Result.andThen_ok];rcases BV h with⟨rfl,rfl⟩|⟨rfl,rfl⟩
    .simp[Go.binOp,q,A.LF,qP]
    simp[Go.binOp,q,A.LF,qP]
   cases h
  cases h
 .rename_i E a;have i:=fT j (qC a);obtain⟨G,d,z,-,M,-,-,-,-,-,f,k⟩:=i.ex;obtain⟨F,rfl,C⟩:=wU (f ▸ a);split at h
  .rename_i J;rw[k]at J;simp only[Lp,Bool.and_eq_true,Bool.not_eq_true']at J;obtain⟨⟨p,s⟩,B⟩:=J;split at h
   .rename_i xs;split at h
    .rename_i ys;split at h
     .rename_i tt Z;have g:(eqGuard o t x y (.agg xs) (.agg ys)).run P w=.ok () w:=run_eqGuard_agg w o t x y xs ys p;have X:P.fieldsOf t=F:=by simp[Program.fieldsOf,M]
      have D:P.underlying t=some (.struct (P.fieldsOf t)):=by rw[X];exact M
      have q:(Op.equalIn 10000 t (.agg xs) (.agg ys)).run P w=.ok tt w:=by rw[run_equalIn_agg w 9999 t xs ys D s,X];exact xA j 9998 xs ys w F.toList 0 tt B (by simpa[C]using Z)
      rw[Sem.run_bind,g,Result.andThen_ok];rcases BV h with⟨rfl,rfl⟩|⟨rfl,rfl⟩
      .rw[run_eql_struct,q];rfl
      rw[run_neq_struct,q];rfl
     cases h
    cases h
   cases h
  cases h
 cases h
variable {P:Program}{T:aL}{A:Ar}[bf A]
variable {ds:List Deferred}{h0:ab}{w0:World}{β:Nat->Nat}{env:Env}{L:Loc}{h:ab}{a:Act}{w:World}
theorem JS{a:Type}{P:Program}{w:World}{x:Sem a}{f:a->Sem Next}{r:a}(hx:x.run P w=.ok r w):(x >>= f).run P w=(f r).run P w:=by rw[Sem.run_bind,hx];rfl
def eG(P:Program)(β:Nat->Nat)(L:Loc)(a:Act)(w:World)(o:Oper)(sv:SV):Prop:=
 ∃v,(execOp a.eval o).run P w=.ok (.value v) w/\pt β L sv v
theorem eG.fin(c:cZ ds h0 w0 β env L h a w){s:SV}(q:eG P β L a w o s):
 ∃v b n,(execOp a.eval o).run P w=.ok (.value v) b/\cZ ds h0 w0 n (put env o.dst s) (fq L o.dst none) h (a.put o.dst v) b:=by
 obtain⟨v,d,p⟩:=q;refine⟨v,w,β,d,?_⟩;have:fq L o.dst none=L:=by unfold fq;cases o.dst<;>rfl
 rw[this];exact c.put p
theorem BL(h:fF P T){f:Field}{n:Nat}(k:(T.ty f.type).kd.isNone=false)(a:(T.ty f.type).size=n+1)(x:Addr)(w:World):
 (fieldPlace x f).run P w=.ok (x.add f.offset) w:=by
 have i:=fT h (fQ k);simp[fieldPlace,i.fk,a]
theorem IN{F:Array Field}{i t off:Nat}(b:s=F.toList.map λf=>(f.type,f.offset))(h:s[i]? =some (t,off)):
 ∃f,F[i]? =some f/\f.type=t/\f.offset=off:=by
 subst b;rw[List.getElem?_map]at h;cases a:F.toList[i]? with
 |none=>simp[a]at h
 |some f=>simp[a]at h;exact⟨f,by simpa using a,h.1,h.2⟩
theorem Ih(i:cZ ds h0 w0 β env L h a w){s off n:Nat}(hl:kf L s=some c)(t:takeN c off n=some cs):
 cs.length=n/\∀j,j<cs.length->w.cell? ⟨β s,off+j,none⟩=cs[j]? :=by
 obtain⟨b,d⟩:=Bz t;obtain⟨-,-,e,f⟩:=i.loc s c hl;refine⟨b,λj g=>?_⟩;rw[Nw f,<-d j g];simp
set_option maxHeartbeats 1000000 in
theorem yK(E:fF P T)(j:cZ ds h0 w0 β env L h a w){sv:SV}{nb:Option (List Value)}
 (hl:iO A T (λ_=>P) o (Sx.og env) L h (λx y=>x=sv/\y=nb)):
 ∃v w' nB,(execOp a.eval o).run P w=.ok (.value v) w'/\cZ ds h0 w0 nB (put env o.dst sv) (fq L o.dst nb) h (a.put o.dst v) w':=by
 unfold iO at hl;split at hl;case h_1 x p=>-- move
  obtain⟨rfl,rfl⟩:=hl;exact eG.fin j ⟨_,by simp only[execOp,p];rfl,j.og x⟩
 case h_2 c x y p=>-- pick
  split at hl
  .rename_i hc;obtain⟨rfl,rfl⟩:=hl;exact eG.fin j ⟨_,by simp only[execOp,p,j.bt hc];rfl,j.og x⟩
  .rename_i hc;obtain⟨rfl,rfl⟩:=hl;exact eG.fin j ⟨_,by simp only[execOp,p,j.bt hc];rfl,j.og y⟩
  exact hl.elim
 case h_3 e p=>-- alloc
  split at hl
  .exact hl.elim
  rename_i G;split at hl
  .exact hl.elim
  rename_i d hd;split at hl
  .rename_i ki;obtain⟨rfl,rfl⟩:=hl;obtain⟨z,hz,Iq⟩:=(fT E (fQ G)).nK w;have hb:=j.box ki (T.ty e).zero e;rw[hd];refine⟨_,_,_,?_,hb⟩;simp only[execOp,p,Instr.alloc,Sem.run_bind,hz,Result.andThen_ok,newVar,newRow,run_newObj,Sem.run_pure];rw[<-Iq]
  exact hl.elim
 case h_4 e x p=>-- box
  split at hl
  .exact hl.elim
  rename_i d hd;split at hl
  .rename_i v C;split at hl
   .rename_i ki;obtain⟨rfl,rfl⟩:=hl;have hb:=j.box ki v.cells.toList e;rw[hd];refine⟨_,_,_,?_,hb⟩;simp only[execOp,p,Instr.box,Sem.run_bind,Result.andThen_ok,newVar,newRow,run_newObj,Sem.run_pure,j.bt C]
   exact hl.elim
  exact hl.elim
 case h_5 t x p=>-- load
  split at hl
  .exact hl.elim
  rename_i G;have H:=fT E (fQ G);split at hl
  .rename_i s off hx;split at hl
   .rename_i c hc;split at hl
    .rename_i cs ao;obtain⟨I,S⟩:=Ih j hc ao;obtain⟨v,J,h4⟩:=kO hl;obtain⟨rfl,rfl⟩:=h4;obtain⟨v',h5,h6⟩:=oD H w (β s) off cs I S J;subst h6;exact eG.fin j ⟨_,by simp only[execOp,p,(j.pN hx).2,Instr.loadAt,Instr.sureAddr,Sem.run_bind,Sem.run_pure,Result.andThen_ok,h5],rfl⟩
    exact hl.elim
   exact hl.elim
  .rename_i y hx;obtain⟨cs,I,hl⟩:=hl.out;obtain⟨U,N,V⟩:=I.cell j.after.Bf;obtain⟨v,J,h4⟩:=kO hl;obtain⟨rfl,rfl⟩:=h4;obtain⟨v',h5,h6⟩:=oD H w y.block y.off cs N V J;subst h6;have:y=⟨y.block,y.off,none⟩:=by cases y;simp at U;rw[U]
   exact eG.fin j ⟨_,by simp only[execOp,p,j.bt hx,Instr.loadAt,Instr.sureAddr,Sem.run_bind,Sem.run_pure,Result.andThen_ok];rw[this,h5];rfl,rfl⟩
  exact hl.elim
 case h_6 x p=>-- nilCheck
  split at hl
  .rename_i s off hx;obtain⟨rfl,rfl⟩:=hl;have:=j.pN hx;exact eG.fin j ⟨_,by simp only[execOp,p,this.2];rfl,this.1,rfl⟩
  .rename_i y hx;obtain⟨rfl,rfl⟩:=hl;exact eG.fin j ⟨_,by simp only[execOp,p,j.bt hx];rfl,rfl⟩
  exact hl.elim
 case h_7 t x f p=>-- fieldAddr
  split at hl
  .rename_i fs Y;have H:=fT E (qC Y);obtain⟨d,hd,-,D,-⟩:=H.cf w;obtain⟨F,rfl,hF⟩:=wU (D ▸ Y);split at hl
   .rename_i ft off hf;obtain⟨fd,R,rfl,rfl⟩:=IN hF hf;split at hl
    .exact hl.elim
    rename_i G;split at hl
    .exact hl.elim
    rename_i n hn;have hp:=λy=>BL E G hn y w;split at hl
    .rename_i s off hx;obtain⟨rfl,rfl⟩:=hl;have:=j.pN hx;exact eG.fin j ⟨_,by simp only[execOp,p,this.2,Instr.fieldAt,Instr.sureAddr,Sem.run_bind,hd,Result.andThen_ok,R,Sem.run_pure,hp,bP],this.1,rfl⟩
    .rename_i y hx;obtain⟨rfl,rfl⟩:=hl;exact eG.fin j ⟨_,by simp only[execOp,p,j.bt hx,Instr.fieldAt,Instr.sureAddr,Sem.run_bind,hd,Result.andThen_ok,R,Sem.run_pure,hp];rfl,by simp[pt,A.aKp]⟩
    exact hl.elim
   exact hl.elim
  exact hl.elim
 case h_8 t x ix p=>-- indexAddr
  split at hl
  .rename_i kk n KT;split at hl
   .rename_i e B;have H:=fT E (fM B);obtain⟨d,hd,-,D,-⟩:=H.cf w;obtain rfl:=nR (D ▸ B);split at hl
    .exact hl.elim
    rename_i G;have W:=fT E (fQ G);split at hl
    .rename_i b len cap hx;obtain⟨⟨U,N,V⟩,rfl,rfl⟩:=(show rO _ _ from hl);obtain⟨y,rfl⟩:=Option.isSome_iff_exists.1 U;refine eG.fin j ⟨.pointer (some (y.add (n.toNat*(T.ty e).size))),?_,by simp[pt,A.th,ia]⟩;simp[execOp,p,j.bt hx,j.bt KT,Instr.indexAt,asIntOf,hd,W.fk,N,V]
    exact hl.elim
   .rename_i m e B;have H:=fT E (Ch B);obtain⟨d,hd,-,D,-⟩:=H.cf w;obtain rfl:=Kv (D ▸ B);split at hl
    .exact hl.elim
    rename_i G;have W:=fT E (fQ G);split at hl
    .rename_i s off hx;obtain⟨⟨N,V⟩,rfl,rfl⟩:=(show rO _ _ from hl);have:=j.pN hx;refine eG.fin j ⟨.pointer (some ⟨β s,off+n.toNat*(T.ty e).size,none⟩),?_,this.1,by simp[A.cXK]⟩;simp[execOp,p,this.2,j.bt KT,Instr.indexAt,asIntOf,hd,W.fk,N,V,Instr.sureAddr,bP]
    .rename_i y hx;obtain⟨⟨N,V⟩,rfl,rfl⟩:=(show rO _ _ from hl);refine eG.fin j ⟨.pointer (some (y.add (n.toNat*(T.ty e).size))),?_,by simp[pt,A.th,ia]⟩;simp[execOp,p,j.bt hx,j.bt KT,Instr.indexAt,asIntOf,hd,W.fk,N,V,Instr.sureAddr]
    exact hl.elim
   exact hl.elim
  exact hl.elim
 case h_9 t x ix p=>-- index
  split at hl
  .rename_i kk n KT;split at hl
   .rename_i B;have H:=fT E (show(T.ty t).kd≠.none by rw[B];simp);obtain⟨d,hd,-,D,-⟩:=H.cf w;obtain rfl:=Ku (D ▸ B);split at hl
    .rename_i s hx;obtain⟨⟨N,V⟩,rfl,rfl⟩:=(show rO _ _ from hl);have aF:n.toNat<s.size:=by omega
     refine eG.fin j ⟨.int .u8 (s[n.toNat].toNat:Int),?_,?_⟩
     .simp[execOp,p,j.bt hx,j.bt KT,Instr.index,asIntOf,hd,N,aF]
     have:n.toNat<s.data.size:=aF;simp only[pt,A.ZY,Array.getD_eq_getD_getElem?,Array.getElem?_eq_getElem this];rfl
    exact hl.elim
   exact hl.elim
  exact hl.elim
 case h_10 t x f p=>-- field
  split at hl
  .rename_i fs Y;have H:=fT E (qC Y);obtain⟨d,hd,-,D,-⟩:=H.cf w;obtain⟨F,rfl,hF⟩:=wU (D ▸ Y);split at hl
   .rename_i ft off hf;obtain⟨fd,R,rfl,rfl⟩:=IN hF hf;split at hl
    .exact hl.elim
    rename_i G;have aj:=fT E (fQ G);split at hl
    .rename_i cs hx;split at hl
     .rename_i ds M;obtain⟨I,S⟩:=Bz M;obtain⟨v,J,h4⟩:=kO hl;obtain⟨rfl,rfl⟩:=h4;refine eG.fin j ⟨v,?_,rfl⟩;have ar:(part fd.type cs fd.offset).run P w=.ok v w:=by
       unfold part;rw[Sem.run_bind,aj.Eh];unfold rI at J;cases hg:(T.ty fd.type).agg with
       |true=>
        simp only[hg]at J;subst J;unfold takeN at M;split at M
        .cases M;simp only[Result.andThen_ok,if_true,Sem.run_bind,aj.fk,Sem.run_pure];congr 2;apply Array.ext';simp[Array.toList_extract,List.extract]
        cases M
       |false=>
        simp only[hg]at J;cases ds with
        |nil=>exact J.elim
        |cons y r=>simp only at J;subst J;have:=S 0 (by simp);simp only[Nat.add_zero,Array.getElem?_toList,List.getElem?_cons_zero]at this;simp[this]
      simp only[execOp,p,j.bt hx,Instr.field,Sem.run_bind,hd,Result.andThen_ok,R,asAgg,Sem.run_pure,ar]
     exact hl.elim
    exact hl.elim
   exact hl.elim
  exact hl.elim
 case h_11 x i p=>-- extract
  split at hl
  .rename_i vs hx;split at hl
   .rename_i v C;obtain⟨rfl,rfl⟩:=hl;simp only[Array.getElem?_toList]at C;exact eG.fin j ⟨v,by simp[execOp,p,j.bt hx,Instr.extract,C],rfl⟩
   exact hl.elim
  exact hl.elim
 case h_12 t parts p=>-- build
  split at hl
  .exact hl.elim
  rename_i G;split at hl
  .rename_i ps Ub;split at hl
   .rename_i cs ao;obtain⟨rfl,rfl⟩:=hl;have I:=run_build E w G ao;have S:(parts.map λ(i,x)=>(i,a.eval x))=ps.toArray:=by rw[<-sF j Ub];apply Array.ext';simp
    exact eG.fin j ⟨_,by simp only[execOp,p,S,Sem.run_bind,I,Result.andThen_ok,Sem.run_pure],rfl⟩
   exact hl.elim
  exact hl.elim
 case h_13 op t x y ty p=>-- binOp
  split at hl
  .rename_i u Z;split at hl
   .rename_i v C;split at hl
    .rename_i r O;obtain⟨rfl,rfl⟩:=hl;have:=VF (P:=P) (A:=A) (t:=t) (x:=x) (y:=y) O w;exact eG.fin j ⟨_,by simp only[execOp,p,j.bt Z,j.bt C];rw[JS this];rfl,rfl⟩
    split at hl
    .rename_i r O;obtain⟨rfl,rfl⟩:=hl;have:=Vr (A:=A) E (x:=x) (y:=y) O w;exact eG.fin j ⟨_,by simp only[execOp,p,j.bt Z,j.bt C];rw[JS this];rfl,rfl⟩
    obtain⟨r,⟨rfl,rfl⟩,S⟩:=CX (e:=λk _=>tG _ _ k) (λk h=>by
     obtain⟨v,U,N⟩:=h.out;exact⟨v,N,λk' h'=>⟨v,U,h'⟩⟩) hl
    have:=VG (P:=P) (A:=A) (t:=t) (x:=x) (y:=y) (S (λz=>z=r) rfl) (λh w=>by
     obtain⟨v,U,rfl⟩:=h.out;exact U w) w
    exact eG.fin j ⟨_,by simp only[execOp,p,j.bt Z,j.bt C];rw[JS this];rfl,rfl⟩
   exact hl.elim
  exact hl.elim
 case h_14 op t x p=>-- unOp
  split at hl
  .rename_i b hx;split at hl
   .obtain⟨rfl,rfl⟩:=hl;exact eG.fin j ⟨.bool (!b),by simp only[execOp,p,j.bt hx];rfl,by simp[pt,A.not_eq]⟩
   exact hl.elim
  .rename_i K n hx;split at hl
   .obtain⟨rfl,rfl⟩:=hl;exact eG.fin j ⟨.int K (K.wrap (0-n)),by simp only[execOp,p,j.bt hx];rfl,by simp[pt,A.tE,aC]⟩
   .obtain⟨rfl,rfl⟩:=hl;exact eG.fin j ⟨.int K (aC .xor K (aXA K) n),by simp only[execOp,p,j.bt hx];rfl,by simp[pt,A.tE]⟩
   exact hl.elim
  exact hl.elim
 case h_15 src dst x p=>-- convert
  split at hl
  .rename_i q n hx;split at hl
   .rename_i K D;split at hl
    .rename_i ks ag;obtain⟨rfl,rfl⟩:=hl;obtain⟨d1,Pm,-,eB,-⟩:=(fT E (t:=dst) (by rw[D];simp)).cf w;obtain⟨d2,Xb,-,oY,-⟩:=(fT E (t:=src) (by rw[ag];simp)).cf w;have e1:d1=.int K:=by rw[D]at eB;cases d1<;>simp[nS]at eB;rw[eB]
     have e2:d2=.int ks:=by rw[ag]at oY;cases d2<;>simp[nS]at oY;rw[oY]
     subst e1 e2;have O:(Go.convert src dst (.int q n)).run P w=.ok (.int K (A.conv K n)) w:=by rw[A.ZX];simp[Go.convert,Pm,Xb,Conv.intToInt]
     exact eG.fin j ⟨_,by simp only[execOp,p,j.bt hx];rw[JS O];rfl,rfl⟩
    exact hl.elim
   obtain⟨r,I,rfl,rfl⟩:=(show tG _ _ _ from hl).out;exact eG.fin j ⟨r,by simp only[execOp,p,j.bt hx];rw[JS (I w)];rfl,rfl⟩
  .rename_i u Z hx;obtain⟨r,I,rfl,rfl⟩:=(show tG _ _ _ from hl).out;exact eG.fin j ⟨r,by simp only[execOp,p,j.bt hx];rw[JS (I w)];rfl,rfl⟩
  exact hl.elim
 case h_16 t x p=>-- makeInterface
  split at hl
  .exact hl.elim
  .exact hl.elim
  rename_i eB oY;split at hl
  .rename_i v hx;obtain⟨rfl,rfl⟩:=hl;have H:=fT E (t:=t) (λe=>oY e);obtain⟨d,hd,-,D,-⟩:=H.cf w;refine eG.fin j ⟨.iface t v,?_,rfl⟩;simp only[execOp,p,j.bt hx,Instr.makeInterface,Sem.run_bind,hd,Result.andThen_ok];cases d<;>first
    |rfl
    | (exact absurd D (by simpa[nS]using eB))
  exact hl.elim
 case h_17 fn f c p=>-- makeFunc
  split at hl
  .rename_i fs Y;split at hl
   .rename_i cs ao;obtain⟨rfl,rfl⟩:=hl;refine eG.fin j ⟨.func fn fs.toArray cs.toArray,?_,rfl⟩;simp only[execOp,p,iZ j Y,iZ j ao];rfl
   exact hl.elim
  exact hl.elim
 case h_18 t x lo H mx p=>-- slice
  split at hl
  .rename_i l hh m I S J;have e1:=BD j I;have e2:=BD j S;have X:=BD j J;split at hl
   .rename_i e B;have Q:=fT E (fM B);obtain⟨d,hd,-,D,-⟩:=Q.cf w;obtain rfl:=nR (D ▸ B);split at hl
    .exact hl.elim
    rename_i G;have W:=fT E (fQ G);split at hl
    .rename_i b len cap hx;obtain⟨v,C,bp⟩:=qe hl;obtain⟨rfl,rfl⟩:=C;obtain⟨Lo,Hi,Mx,O,rfl⟩:=BE (P:=P) (A:=A) (g:=true) e1 e2 X (bp (λx=>x=v) rfl) w;refine eG.fin j ⟨_,?_,rfl⟩;simp only[execOp,p,j.bt hx,Instr.sliceAt,Instr.slice,Sem.run_bind,hd,Result.andThen_ok,O,W.fk,Sem.run_pure]
    exact hl.elim
   .rename_i n e B;have Q:=fT E (Ch B);obtain⟨d,hd,-,D,-⟩:=Q.cf w;obtain rfl:=Kv (D ▸ B);split at hl
    .exact hl.elim
    rename_i G;have W:=fT E (fQ G);split at hl
    .rename_i b hx;obtain⟨v,C,bp⟩:=qe hl;obtain⟨rfl,rfl⟩:=C;obtain⟨Lo,Hi,Mx,O,rfl⟩:=BE (P:=P) (A:=A) (g:=false) e1 e2 X (bp (λx=>x=v) rfl) w;refine eG.fin j ⟨_,?_,rfl⟩;simp only[execOp,p,j.bt hx,Instr.sliceAt,Instr.sureAddr,asAddr,Sem.run_bind,hd,Result.andThen_ok,O,W.fk,Sem.run_pure,Option.map_some];split<;>simp_all
    exact hl.elim
   .rename_i B;have Q:=fT E (show(T.ty t).kd≠.none by rw[B];simp);obtain⟨d,hd,-,D,-⟩:=Q.cf w;obtain rfl:=Ku (D ▸ B);split at hl
    .rename_i s hx;split at hl
     .obtain⟨v,C,bp⟩:=uX hl;obtain⟨rfl,rfl⟩:=C;obtain⟨Lo,Hi,Mx,O,rfl⟩:=Ka (P:=P) (A:=A) e1 e2 (bp (λx=>x=v) rfl) w;have aH:mx.map a.eval=none:=by
       rcases X with X| ⟨n,k,X,-⟩
       .exact X.2
       cases X
      refine eG.fin j ⟨_,?_,rfl⟩;simp[execOp,p,j.bt hx,Instr.sliceAt,Instr.slice,hd,O,aH]
     exact hl.elim
    exact hl.elim
   exact hl.elim
  exact hl.elim
 case h_19 b args argTypes p=>-- VB
  have ry:∀(vs:List Value),nI (args.toList.map (Sx.og env))=some vs->
   (execOp a.eval o)=builtin b argTypes o.type (args.map λ| .const _=>true|_=>false) vs.toArray:=λvs C=>by
   simp only[execOp,p,resolve];rw[iZ j C];rfl
  split at hl
  .split at hl
   .rename_i t ht;split at hl
    .rename_i q n r C;split at hl
     .rename_i e B;obtain⟨rfl,rfl⟩:=hl;have Q:=fT E (fM B);obtain⟨d,hd,-,D,-⟩:=Q.cf w;obtain rfl:=nR (D ▸ B);refine eG.fin j ⟨.int .i64 (Int.ofNat n),?_,by simp[pt,A.nat_eq]⟩;rw[ry _ C];simp[builtin,Builtin.len_,ht,hd,goInt]
     exact hl.elim
    .rename_i s C;split at hl
     .rename_i B;obtain⟨rfl,rfl⟩:=hl;have Q:=fT E (show(T.ty t).kd≠.none by rw[B];simp);obtain⟨d,hd,-,D,-⟩:=Q.cf w;obtain rfl:=Ku (D ▸ B);refine eG.fin j ⟨.int .i64 (Int.ofNat s.size),?_,by simp[pt,A.RV]⟩;rw[ry _ C];simp[builtin,Builtin.len_,ht,hd,goInt]
     exact hl.elim
    exact hl.elim
   exact hl.elim
  .split at hl
   .rename_i t ht;split at hl
    .rename_i q r n C;split at hl
     .rename_i e B;obtain⟨rfl,rfl⟩:=hl;have Q:=fT E (fM B);obtain⟨d,hd,-,D,-⟩:=Q.cf w;obtain rfl:=nR (D ▸ B);refine eG.fin j ⟨.int .i64 (Int.ofNat n),?_,by simp[pt,A.nat_eq]⟩;rw[ry _ C];simp[builtin,Builtin.cap_,ht,hd,goInt]
     exact hl.elim
    exact hl.elim
   exact hl.elim
  .split at hl
   .rename_i K x au y C;obtain⟨rfl,rfl⟩:=hl;refine eG.fin j ⟨.int K (min x y),?_,by simp[pt,A.Yy]⟩;rw[ry _ C];simp only[builtin,Builtin.min_,List.foldlM_cons,List.foldlM_nil,Builtin.min2,Sem.run_bind,Sem.run_pure,Result.andThen_ok];congr 3;simp only[Int.min_def];split<;>split<;>omega
   exact hl.elim
  .split at hl
   .rename_i K x au y C;obtain⟨rfl,rfl⟩:=hl;refine eG.fin j ⟨.int K (max x y),?_,by simp[pt,A.Yz]⟩;rw[ry _ C];simp only[builtin,Builtin.max_,List.foldlM_cons,List.foldlM_nil,Builtin.max2,Sem.run_bind,Sem.run_pure,Result.andThen_ok];congr 3;simp only[Int.max_def];split<;>split<;>omega
   exact hl.elim
  exact hl.elim
 case h_20 x q as ok p=>-- typeAssert
  split at hl
  .rename_i u Z;obtain⟨r,I,rfl,rfl⟩:=(show tG _ _ _ from hl).out;exact eG.fin j ⟨r,by simp only[execOp,p,j.bt Z];rw[JS (I w)];rfl,rfl⟩
  exact hl.elim
 case h_21=>exact hl.elim
variable {P:Program}{T:aL}{A:Ar}[bf A]
variable {ds:List Deferred}{h0:ab}{w0:World}{β:Nat->Nat}{env:Env}{L:Loc}{h:ab}{a:Act}{w:World}
theorem DR(z:List Value):∀(n i:Nat),i<n*z.length->(gu n z)[i]? =z[i % z.length]?
 |0,i,h=>by simp at h
 |n+1,i,h=>by
  unfold gu;rw[List.replicate_succ,List.flatten_cons];by_cases hl:i<z.length
  .rw[List.getElem?_append_left hl,Nat.mod_eq_of_lt hl]
  rw[List.getElem?_append_right (by omega)];have:=DR z n (i-z.length) (by rw[Nat.succ_mul]at h;generalize n*z.length=q at *;omega);unfold gu at this;rw[this,<-Nat.mod_eq_sub_mod (by omega)]
theorem eQ(z:List Value)(n:Nat):(gu n z).length=n*z.length:=by simp[gu,List.length_flatten]
theorem range_zero(z:Array Value)(n:Nat):(Array.range (n*z.size)).map (λi=>z[i % z.size]!)=(gu n z.toList).toArray:=by
 apply Array.ext';apply List.ext_getElem?;intro i;by_cases h:i<n*z.size
 .have:=DR z.toList n i (by simpa using h);simp only[Array.toList_map,List.getElem?_map,List.toList_toArray]at this |-;rw[this];have a:0<z.size:=by
   rcases Nat.eq_zero_or_pos z.size with e|e
   .rw[e]at h;simp at h
   exact e
  have m:i % z.size<z.size:=Nat.mod_lt _ a;simp[Array.toList_range,h,m]
 rw[List.getElem?_eq_none (by simp;omega),List.getElem?_eq_none (by simp[eQ];omega)]
theorem tP(s:AI h w){n:Nat}(r:aXs h b (n*size) cs)(x y:Nat):
 (Builtin.firstCells size n (.slice b x y)).run P w=.ok cs.toArray w:=by
 rcases r with⟨e,rfl⟩|⟨q,rfl,r⟩
 .cases b with
  |none=>rfl
  |some q=>simp[Builtin.firstCells,e,loadCells,loadCellsFrom]
 obtain⟨g,c,d⟩:=r.cell s;simp only[Builtin.firstCells];rw[<-c];have:q=⟨q.block,q.off,none⟩:=by cases q;simp at g;rw[g]
 rw[this];exact run_loadCells_list (P:=P) w _ cs (λj v a=>by
  have f:j<cs.length:=by rw[List.getElem?_eq_some_iff]at a;exact a.1
  rw[bP,d j f,a])
theorem Dq.run(s:AI h w){q:Addr}{k:ab->Prop}(j:iA cs=true)(hx:Dq h q cs k):
 ∃a h',(storeCells q cs).run P w=.ok () a/\k h'/\bD h w h' a:=by
 obtain⟨c,e,fr,g,d,u,f,i⟩:=hx.out;have l:q=⟨q.block,q.off,none⟩:=by cases q;simp at g;rw[g]
 obtain⟨a,m,n,p,r,t⟩:=nL (P:=P) (b:=q.block) (o:=q.off) (e:=e) (fr:=fr) cs 0 c w (s _ _ d) (by omega) (by simpa using f) j;refine⟨a,_,?_,i _ rfl,?_⟩
 .rw[l];exact m
 exact bD.set s d (by simpa using n) p r t
theorem uB.run(s:AI h w){k:ab->Prop}(c:iA cs=true)(hx:uB h b cs k):
 ∃a h',((match b with|some q=>storeCells q cs|none=>pure ()):Sem Unit).run P w=.ok () a/\k h'/\bD h w h' a:=by
 rcases hx with⟨rfl,d⟩|⟨q,rfl,hx⟩
 .refine⟨w,h,?_,d,bD.refl s⟩;cases b<;>rfl
 exact hx.run s c
theorem EK(n:Nat)(a:256<=n):∀(r c:Nat),c<=2*n->Builtin.growBy n r c<=2*n
 |0,c,h=>h
 |r+1,c,h=>by
  unfold Builtin.growBy;split
  .exact h
  exact EK n a r _ (by omega)
theorem Kq(n c:Nat)(h:c<n):Builtin.nextslicecap n c<=2*n:=by
 unfold Builtin.nextslicecap;split
 .omega
 split
 .omega
 exact EK n (by omega) 4 c (by omega)
theorem FC:(2:Int)^48=281474976710656:=rfl
theorem SQ:(2:Nat)^48=281474976710656:=rfl
theorem uE(size:Nat)(s:ByteArray)(w:World):(Builtin.firstCells size s.size (.string s)).run P w=.ok (sy s).toArray w:=by
 have h:s.extract 0 s.size=s:=by
  ext1
  rw[ByteArray.data_extract];show s.data.extract 0 s.data.size=_;simp
 simp only[Builtin.firstCells,h,Sem.run_pure];congr 1;unfold sy;rw[<-Array.toList_map]
theorem qX.run(hs:AI h w){len n:Nat}{new:List Value}{k:Value->ab->Prop}(hx:qX h b len cap n size bytes e new k)
 {t u:TypeId} {r:Array TypeId} (h0:r[0]? =some t) (l:r[1]? =some u) {g:TypeDesc} (hu:P.underlying t=some (.slice e)) (ar:P.underlying u=some g)
 {i:Ti} (hi:xO P e i) (gE:i.size=size) (mR:i.bytes=bytes) (hz:i.zero.length=size) {x:Value}
 (rR:(∃q m,x=.slice q n m/\(∀B,g≠.int B)/\aXs h q (n*size) new)\/(∃B k' j,x=.int B j/\g=.int k'/\j.toNat=n/\0<=j/\j<=2^48/\j*bytes<=2^48/\new=gu n i.zero)\/(∃s,x=.string s/\g=.string/\s.size=n/\new=sy s)) (ty:TypeId):
 ∃v w' h',(Builtin.append_ r ty #[.slice b len cap,x]).run P w=.ok v w'/\k v h'/\bD h w h' w':=by
 obtain⟨z,M,Iq⟩:=hi.nK w;have au:z.cells.size=size:=by rw[<-hz,<-Iq];simp
 have C:∀W,(underlying t).run P W=.ok (.slice e) W:=λW=>by simp[underlying,hu]
 have T:∀W,(underlying u).run P W=.ok g W:=λW=>by simp[underlying,ar]
 have I:∀W,(zeroValue e).run P W=.ok z W:=λW=>by
  obtain⟨O,d',z',e1,-,e3,-⟩:=hi.ex;simp[zeroValue,typeInfo,e1,e3]at M |-;exact M
 obtain⟨p,Y,jH,fN⟩:∃p,(∀W,(typeInfo e).run P W=.ok p W)/\i.size=p.size/\i.bytes=p.bytes:=by obtain⟨O,d',z',e1,-,e3,-,e4,e5,-⟩:=hi.ex;exact⟨O,λW=>by simp[typeInfo,e1],e4,e5⟩
 have J:∀W,(sizeOf e).run P W=.ok size W:=λW=>by rw[hi.fk,gE]
 have hm:(∃q m,x=.slice q n m/\(∀B,g≠.int B)/\aXs h q (n*size) new)->(match g with| .int _=>true|_=>false)=false:=λ⟨_,_,_,H,_⟩=>by
  cases g<;>first
   |rfl
   |exact absurd rfl (H _)
 have L:∀m,Builtin.zeroCells z.cells m=(gu m i.zero).toArray:=λm=>by
  unfold Builtin.zeroCells;rw[range_zero,Iq]
 by_cases V:len+n<=cap
 .obtain⟨w',h',k1,k2,k3⟩:=(hx.fits V).run (P:=P) hs hx.one;refine⟨_,w',h',?_,k2,k3⟩;have fin:Sem.run P (match b with
   |some a=>Functor.map (λa=>Value.slice b (len+n) cap) (storeCells (a.add (len*size)) new)
   |x=>pure (Value.slice b (len+n) cap)) w=Result.ok (Value.slice b (len+n) cap) w':=by
   cases b with
   |none=>simp at k1;simp[k1]
   |some q=>simp at k1;simp[k1]
  rcases rR with⟨q,m,rfl,H,U⟩|⟨B,kq,j,rfl,rfl,K,IB,S,ao,rfl⟩|⟨s,rfl,rfl,rfl,rfl⟩
  .have DI:=hm ⟨q,m,rfl,H,U⟩;simp[Builtin.append_,h0,l,C,T,J,DI,Builtin.lenOf,V,tP hs U];exact fin
  rotate_left
  .have vP:=uE (P:=P) size s w;simp[Builtin.append_,h0,l,C,T,J,Builtin.lenOf,V,vP];exact fin
  have E:IntKind.i64.wrap j=j:=IntWalk.i64_in j (by omega);have G:¬j<0:=by omega
  have Z:¬(281474976710656:Int)<j*p.bytes:=by rw[<-fN,mR,<-FC];omega
  by_cases A:n*size=0
  .have bF:gu n i.zero=[]:=List.eq_nil_of_length_eq_zero (by rw[eQ,hz,A]);rw[bF]at fin;simp[Builtin.append_,h0,l,C,T,J,asInt,asIntOf,E,G,Y,Z,K,V,A];exact fin
  simp[Builtin.append_,h0,l,C,T,J,asInt,asIntOf,E,G,Y,Z,K,V,A,I,L];exact fin
 obtain⟨b1,b2,Tc,ho,aj⟩:=hx.aZv (by omega);have IG:¬(281474976710656<Builtin.nextslicecap (len+n) cap*p.bytes):=by
  have:=Kq (len+n) cap (by omega);have:=Nat.mul_le_mul_right p.bytes this;rw[<-fN,mR]at this |-;have e:(2:Nat)^48=281474976710656:=by rfl
  omega
 have f:¬((9223372036854775807:Int)<(len:Int)+n):=by rw[SQ]at b2;omega
 have y:AI h w.drew:=hs;have X:(Question.appendCap (len+n) cap e).forced=false:=rfl;obtain⟨c,Q⟩:∃c,(Question.appendCap (len+n) cap e).cut (w.tape w.drawn (Question.appendCap (len+n) cap e))=c:=⟨_,rfl⟩;have hc:len+n<=c:=by rw[<-Q];simp[Question.cut]
 have o:(Builtin.firstCells size len (.slice b len cap)).run P w.drew=.ok Tc.toArray w.drew:=tP y ho len cap;obtain⟨d,F⟩:∃d,d=gu (c-(len+n)) i.zero:=⟨_,rfl⟩;have TZ:d.length=(c-(len+n))*size:=by rw[F,eQ,hz]
 have D:=bD.new y (.cells (Tc++new++d).toArray e (0,0));have aF:w.drew.heap.size=w.heap.size:=rfl;refine⟨.slice (some ⟨w.heap.size,0,none⟩) (len+n) c,w.drew.alloc (.cells (Tc++(new++d)).toArray e),_,?_,aj w.heap.size c _ d (hs.ma (Nat.le_refl _)) hc TZ rfl,?_⟩;rotate_left
 .rw[<-List.append_assoc];exact⟨D.os,D.tape,D.output,D.size,D.Bf,D.frame⟩
 rcases rR with⟨q,m,rfl,H,U⟩|⟨B,kq,j,rfl,rfl,K,IB,S,ao,R⟩|⟨s,rfl,rfl,rfl,rfl⟩
 .have DI:=hm ⟨q,m,rfl,H,U⟩;have ag:(Builtin.firstCells size n (.slice q n m)).run P w.drew=.ok new.toArray w.drew:=tP y U n m;simp[Builtin.append_,h0,l,C,T,J,DI,Builtin.lenOf,V,Y,IG,f,X,o,ag,I,L,newRow,Q,<-F]
 rotate_left
 .have vP:=uE (P:=P) size s w.drew;simp[Builtin.append_,h0,l,C,T,J,Builtin.lenOf,V,Y,IG,f,X,o,vP,I,L,newRow,Q,<-F]
 have E:IntKind.i64.wrap j=j:=IntWalk.i64_in j (by rw[FC]at S;omega);have G:¬j<0:=by omega
 have Z:¬(281474976710656:Int)<j*p.bytes:=by rw[<-fN,mR,<-FC];omega
 subst K;have N:¬((9223372036854775807:Int)<(len:Int)+max j 0):=by rw[SQ]at b2;omega
 by_cases A:j.toNat*size=0
 .have bF:new=[]:=by rw[R];exact List.eq_nil_of_length_eq_zero (by rw[eQ,hz,A])
  simp[Builtin.append_,h0,l,C,T,J,asInt,asIntOf,E,G,Y,Z,V,IG,f,X,o,A,I,L,newRow,Q,<-F,bF,N]
 simp[Builtin.append_,h0,l,C,T,J,asInt,asIntOf,E,G,Y,Z,V,IG,f,X,o,A,I,L,newRow,Q,<-F,<-R,N]
variable {P:Program}{T:aL}{A:Ar}[bf A]
variable {ds:List Deferred}{h0:ab}{w0:World}{β:Nat->Nat}{env:Env}{L:Loc}{h:ab}{a:Act}{w:World}
def dKn(Lc L AG L':Loc):Prop:=(AG=Lc/\L'=L)\/∃s c x y,kf Lc s=some x/\kf L s=some y/\AG=rZ Lc s c/\L'=rZ L s c
theorem od.run(s:AI h w){l c:Int}{kl kc:IntKind}{k:Value->ab->Prop}(hx:od h e l c bytes z k)
 {t:TypeId} (x:P.underlying t=some (.slice e)) {i:Ti} (b:xO P e i) (R:i.bytes=bytes) (o:i.zero=z) (I:z.length=i.size):
 ∃v p h',(Instr.makeSlice t (.int kl l) (.int kc c)).run P w=.ok v p/\k v h'/\bD h w h' p:=by
 obtain⟨G,K⟩:=hx.len;obtain⟨A,B⟩:=hx.room;rw[FC]at A B;obtain⟨u,a,q⟩:=b.nK w;obtain⟨D,Y,H,N⟩:=b.HK w;have J:=b.fk w;have d:(underlying t).run P w=.ok (.slice e) w:=by simp[underlying,x]
 have r:IntKind.i64.wrap l=l:=IntWalk.i64_in l (by omega);have g:IntKind.i64.wrap c=c:=IntWalk.i64_in c (by omega);have y:=bD.new s (.cells (gu c.toNat z).toArray e (0,0));refine⟨_,_,_,?_,hx.out w.heap.size _ (s.ma (Nat.le_refl _)) rfl,y⟩;have f:¬c<0:=by omega
 have j:¬((281474976710656:Int)<(D.bytes:Int)*c):=by rw[<-N,R];omega
 have m:¬l<0:=by omega
 have n:¬c<l:=by omega
 have X:u.cells.size=i.size:=by rw[<-I,<-o,<-q];simp
 have Z:=range_zero u.cells c.toNat;rw[X,q,o]at Z;by_cases C:c.toNat*i.size=0
 .have F:gu c.toNat z=[]:=List.eq_nil_of_length_eq_zero (by rw[eQ,I,C]);have E:(Array.map (λ(_:Nat)=>(default:Value)) (Array.range 0))= #[]:=by simp
  simp[Instr.makeSlice,d,asInt,asIntOf,Y,r,g,f,j,m,n,J,C,newRow,F,E]
 simp[Instr.makeSlice,d,asInt,asIntOf,Y,r,g,f,j,m,n,J,C,newRow,a,X,Z]
theorem NQ{n:Nat}(h:n*z.length=0):gu n z=[]:=List.eq_nil_of_length_eq_zero (by rw[eQ,h])
theorem zN{a b:List Value}(h:iA a=true)(d:iA b=true):iA (a++b)=true:=by
 induction a with
 |nil=>exact d
 |cons x r i=>
  simp only[List.cons_append,iA]at h |-;cases c:one x with
  |true=>simp only[c]at h |-;exact i h
  |false=>simp only[c]at h;cases h
theorem ve(h:iA z=true):∀n,iA (gu n z)=true
 |0=>rfl
 |n+1=>by
  unfold gu;rw[List.replicate_succ,List.flatten_cons];exact zN h (ve h n)
theorem qO(d:fF P T){g:FuncId}(f:T.fn g=true)(args:Array Value)(w:World):(callFunc g args).run P w=.ok (.enter g args) w:=by obtain⟨fn,h,a,b⟩:=d.fn g f;obtain⟨c,e⟩:=Option.isSome_iff_exists.1 a;simp[callFunc,h,b,e]
abbrev FW(ro:Option Nat):Fence:={ Fence.wide with round:=ro }
variable {ro:Option Nat}{n:Nat}
def mI(T:aL)(ds:List Deferred)(h0:ab)(w0:World)(Q:Exit->Act->World->Prop):Prop:=
 ∀c β env L h a w,T.kp c (T.rs.map λt=>Sx.og env (.tmp t)) h->cZ ds h0 w0 β env L h a w->Q (.panic c) a w
theorem pd(g:∀c,o.op≠.defer c){r:Result Next}(b:(execOp a.eval o).run P w=r)(h:o.uponIn (FW ro) n P a next Q r):o.wpIn (FW ro) n P a w next Q:=by unfold Oper.wpIn;refine⟨λ_ _=>trivial,?_⟩;rw[Oper.semAt_eq _ _ _ g,b];exact h
theorem wN{r:Next}{e:World}(h:(execOp a.eval o).run P w=.ok r e)(n:∀d,r≠.defer d):∀c,o.op≠.defer c:=λc b=>by
 simp only[execOp,b,Sem.run_bind]at h;cases hx:(resolve a.eval c o.type).run P w with
 |ok d f=>rw[hx]at h;simp only[Result.andThen_ok,Sem.run_pure]at h;cases h;exact n _ rfl
 |halt=>rw[hx]at h;cases h
theorem rW{v:Value}{b:World}(r:(execOp a.eval o).run P w=.ok (.value v) b)(h:next (a.put o.dst v) b):o.wpIn (FW ro) n P a w next Q:=
 pd (wN r (λ_ e=>by cases e)) r h
theorem Hc{b:World}(r:(execOp a.eval o).run P w=.ok .skip b)(h:next (a.put o.dst undef) b):o.wpIn (FW ro) n P a w next Q:=
 pd (wN r (λ_ e=>by cases e)) r h
set_option maxHeartbeats 2000000 in
theorem Kz(M:fF P T)(p:cZ ds h0 w0 β env L h a w){Lc:Loc}(br:∀s c,kf L s=some c->kf Lc s=some c){k:SV->Loc->ab->Prop}
 (j:hx A T (λ_=>P) o (Sx.og env) Lc h k)  
 (gF:mI T ds h0 w0 Q) (hn:∀sv v AG L' h' D,k sv AG h'->cZ ds h0 w0 β (put env o.dst sv) L' h' (a.put o.dst v) D->dKn Lc L AG L'->next (a.put o.dst v) D):o.wpIn (FW ro) n P a w next Q:=by
 have val:∀ {v:Value} {D:World} {h':ab},(execOp a.eval o).run P w=.ok (.value v) D->k (.v v) Lc h'->bD h w h' D->o.wpIn (FW ro) n P a w next Q:=λ{v D h'} H GO ha=>
  rW H (hn _ _ _ _ _ _ GO ((p.step ha).put rfl) (.inl ⟨rfl,rfl⟩))
 have aN:∀ {D:World} {h':ab},(execOp a.eval o).run P w=.ok .skip D->k (.v undef) Lc h'->bD h w h' D->o.wpIn (FW ro) n P a w next Q:=λ{D h'} H GO ha=>
  Hc H (hn _ _ _ _ _ _ GO ((p.step ha).put rfl) (.inl ⟨rfl,rfl⟩))
 have Z:=p.after.Bf;have N:∀ {s:Sem Value},ef (λ_=>P) (λ_=>s) h (λr h'=>k (.v r) Lc h')->execOp a.eval o=(do pure (.value (<-s)))->o.wpIn (FW ro) n P a w next Q:=λ{s} hx E=>by
  obtain⟨v,D,h',C,J,K⟩:=hx.out w Z;exact val (by rw[E,Sem.run_bind,C];rfl) J K
 have ar:∀ {s:Sem Unit},ef (λ_=>P) (λ_=>do s;pure undef) h (λ_ h'=>k (.v undef) Lc h')->execOp a.eval o=(do s;pure .skip)->o.wpIn (FW ro) n P a w next Q:=λ{s} hx E=>by
  obtain⟨v,D,h',C,J,K⟩:=hx.out w Z;rw[Sem.run_bind]at C;cases H:s.run P w with
  |ok u w1=>rw[H]at C;simp only[Result.andThen_ok,Sem.run_pure]at C;cases C;exact aN (by rw[E,Sem.run_bind,H];rfl) J K
  |halt=>rw[H]at C;cases C
 unfold hx at j;split at j;case h_1 x B=>-- assign
  have H:(execOp a.eval o).run P w=.ok (.value (a.eval x)) w:=by simp only[execOp,B];rfl
  refine rW H ?_;exact hn _ _ _ _ _ _ j (p.put (p.og x)) (.inl ⟨rfl,rfl⟩)
 case h_2 t q x B=>-- store
  split at j
  .exact j.elim
  rename_i O;have hi:=fT M (fQ O);split at j
  .rename_i v G;split at j
   .exact j.elim
   rename_i gE;have bj:v.cells.size=(T.ty t).size:=by simpa using gE
   split at j
   .exact j.elim
   rename_i V;have iq:∀ {y:Addr} {D:World},(storeCells y v.cells.toList).run P w=.ok () D->(Instr.storeAt t (.pointer (some y)) v).run P w=.ok () D:=λ{y D} H=>by
    simp only[Instr.storeAt,Instr.sureAddr,Sem.run_bind,Sem.run_pure,Result.andThen_ok,storeVar,hi.fk,bj];simp[H]
   split at j
   .rename_i s off hq;split at j
    .rename_i c hc;obtain⟨⟨c',vt⟩,bp⟩:=p.pN hq;have:c'=c:=by have:=br _ _ vt;rw[hc]at this;cases this;rfl
     subst this;split at j
     .rename_i hd;have bd:=of_decide_eq_true hd;obtain⟨-,-,e,E⟩:=p.loc s c' vt;obtain⟨D,C,J,K,k4,k5⟩:=nL (P:=P) (b:=β s) (o:=off) (e:=e) (fr:=(0,0)) v.cells.toList 0 c'.toArray w E (by simpa using bd) (by simp) V;have H:(execOp a.eval o).run P w=.ok .skip D:=by simp only[execOp,B,bp,p.bt G,Sem.run_bind,iq C,Result.andThen_ok,Sem.run_pure]
      refine Hc H ?_;refine hn _ _ _ (rZ L s (fK c' off v.cells.toList)) _ _ j (cZ.put ?_ rfl) (.inr ⟨s,_,c',c',hc,vt,rfl,rfl⟩);refine p.aJv vt (λe' aZ=>?_) K k4 k5;rw[E]at aZ;cases aZ;simpa using J
     exact j.elim
    exact j.elim
   .rename_i y hq;obtain⟨D,h',C,J,K⟩:=(show Dq h y v.cells.toList _ from j).run (P:=P) Z V;exact aN (by simp only[execOp,B,p.bt hq,p.bt G,Sem.run_bind,iq C,Result.andThen_ok,Sem.run_pure]) J K
   exact j.elim
  exact j.elim
 case h_3 e B=>-- alloc
  split at j
  .exact j.elim
  rename_i O;obtain⟨z,hz,Iq⟩:=(fT M (fQ O)).nK w;refine val ?_ (j w.heap.size _ (Z.ma (Nat.le_refl _)) rfl) (bD.new Z _);simp only[execOp,B,Instr.alloc,Sem.run_bind,hz,Result.andThen_ok,newVar,newRow,run_newObj,Sem.run_pure];rw[<-Iq]
 case h_4 e x B=>-- box
  split at j
  .rename_i v G;refine val ?_ (j w.heap.size _ (Z.ma (Nat.le_refl _)) rfl) (bD.new Z _);simp only[execOp,B,Instr.box,Sem.run_bind,Result.andThen_ok,newVar,newRow,run_newObj,Sem.run_pure,p.bt G]
  exact j.elim
 case h_5 t len parts B=>-- buildSlice
  split at j
  .rename_i e E;have sP:=fT M (fM E);obtain⟨d,hd,MW,O,-⟩:=sP.cf w;obtain rfl:=nR (O ▸ E);split at j
   .exact j.elim
   rename_i X;have R:=fT M (fQ X);split at j
   .rename_i ps Ub;split at j
    .rename_i aW Ip;have aW:len*(T.ty e).size<=2^24:=of_decide_eq_true aW;have Kw:(T.ty e).zero.length=(T.ty e).size:=by simpa using Ip
     split at j
     .rename_i cs ao;refine val ?_ (j w.heap.size _ (Z.ma (Nat.le_refl _)) rfl) (bD.new Z _);obtain⟨zz,au,Iq⟩:=R.nK w;have aF:zz.cells.size=(T.ty e).size:=by rw[<-Kw,<-Iq];simp
      have aH:=range_zero zz.cells len;rw[aF,Iq]at aH;have wZ:(parts.map λ(i,x)=>(i,a.eval x))=ps.toArray:=by rw[<-sF p Ub];apply Array.ext';simp
      have Y:=fill_eq (λi=>some (i*(T.ty e).size,(T.ty e).size)) ps (gu len (T.ty e).zero).toArray cs (by simpa using ao);have bk:¬(2^24<len*(T.ty e).size):=by omega
      by_cases kC:len*(T.ty e).size=0
      .have bF:gu len (T.ty e).zero=[]:=NQ (by rw[Kw,kC]);rw[bF]at Y;have uv:(Array.map (λ(_:Nat)=>(default:Value)) (Array.range 0))= #[]:=by simp
       simp only[List.toArray]at Y;simp[execOp,B,Instr.buildSlice,hd,R.fk,kC,wZ,Y,newRow,uv]
      have bc:¬(16777216<len*(T.ty e).size):=bk;simp[execOp,B,Instr.buildSlice,hd,R.fk,bc,kC,wZ,Y,newRow,au,aF,aH]
     exact j.elim
    exact j.elim
   exact j.elim
  exact j.elim
 case h_6 t l c B=>-- makeSlice
  split at j
  .rename_i e E;have sP:=fT M (fM E);obtain⟨d,hd,MW,O,-⟩:=sP.cf w;obtain rfl:=nR (O ▸ E);split at j
   .exact j.elim
   rename_i X;have R:=fT M (fQ X);split at j
   .rename_i kl l' hl;split at j
    .rename_i kc c' hc;split at j
     .rename_i Ip;obtain⟨v,D,h',C,J,K⟩:=od.run (P:=P) (kl:=kl) (kc:=kc) Z j MW R rfl rfl (by simpa using Ip);exact val (by simp only[execOp,B,p.bt hl,p.bt hc,Sem.run_bind,C,Result.andThen_ok,Sem.run_pure]) J K
     exact j.elim
    exact j.elim
   exact j.elim
  exact j.elim
 case h_7 t r B=>-- makeMap
  split at j
  .exact val (by simp[execOp,B,Instr.makeMap]) (j w.heap.size _ (Z.ma (Nat.le_refl _)) rfl) (bD.new Z _)
  exact j.elim
 case h_8 f args argTypes B=>-- call
  split at j
  .rename_i g first cap hf
   split at j
   .rename_i U has;split at j
    .rename_i hg;have H:(execOp a.eval o).run P w=.ok (.enter g (first++U.toArray++cap)) w:=by simp only[execOp,B,resolve,p.bt hf,iZ p has,Deferred.ofValue,Sem.run_bind,Sem.run_pure,Result.andThen_ok,invoke,qO M hg]
     refine pd (wN H (λ_ e=>by cases e)) H ?_;refine⟨λhd=>by simp[FW,Fence.wide]at hd,?_⟩;have E:(first.toList++U++cap.toList).toArray=first++U.toArray++cap:=by apply Array.ext';simp
     split at j
     .have:=callsIn_wide (n:=n-1).2 ((show Qj _ _ _ _ _ _ from j).out w Z);rw[E]at this;refine CallsIn.mono (F:=FW ro) (show CallsIn (FW ro) (n-1) P g _ w _ from this) λe D hq=>?_;rcases hq with⟨v,h',V,h2,h3⟩|⟨c,h',V,h2,h3⟩
      .subst V;exact hn _ _ _ _ _ _ h2 ((p.step h3).put rfl) (.inl ⟨rfl,rfl⟩)
      subst V;exact gF c _ _ _ _ _ _ h2 (p.step h3)
     have:=callsIn_wide (n:=n-1).2 ((show Dr _ _ _ _ _ from j).out w Z);rw[E]at this;refine CallsIn.mono (F:=FW ro) (show CallsIn (FW ro) (n-1) P g _ w _ from this) λe D ⟨v,h',V,h2,h3⟩=>?_;subst V;exact hn _ _ _ _ _ _ h2 ((p.step h3).put rfl) (.inl ⟨rfl,rfl⟩)
    obtain⟨v,D,h',C,J,K⟩:=(show ef _ _ _ _ from j).out w Z;refine val ?_ J K;have E:(first.toList++U++cap.toList).toArray=first++U.toArray++cap:=by apply Array.ext';simp
    simp only[zl]at C;rw[E,Sem.run_bind]at C;simp only[execOp,B,resolve,p.bt hf,iZ p has,Deferred.ofValue,Sem.run_bind,Sem.run_pure,Result.andThen_ok,invoke];cases H:(callFunc g (first++U.toArray++cap)).run P w with
    |ok n w1=>
     rw[H]at C;simp only[Result.andThen_ok]at C;cases n with
     |value z=>simp only[Sem.run_pure]at C;cases C;rfl
     |_=>simp at C
    |halt=>rw[H]at C;cases C
   exact j.elim
  .rename_i l first cap hf
   split at j
   .rename_i U has;obtain⟨fn,aj,Ae,ag,g1,S⟩:=(show aQk _ _ _ _ _ from j).out w Z;have E:(first.toList++U).toArray=first++U.toArray:=by apply Array.ext';simp
    have H:(execOp a.eval o).run P w=.ok (.round l fn aj Ae ag) w:=by rw[E]at g1;simp only[execOp,B,resolve,p.bt hf,iZ p has,Deferred.ofValue,Sem.run_bind,Sem.run_pure,Result.andThen_ok,invoke,g1]
    refine pd (wN H (λ_ e=>by cases e)) H ?_;refine⟨λhd=>by simp[FW,Fence.wide]at hd,?_⟩;refine RoundIn.mono (F:=FW ro) (show RoundIn (FW ro) (n-1) P l fn aj Ae ag w _ from S (n-1)) λe D ⟨v,h',V,h2,h3⟩=>?_;subst V;exact hn _ _ _ _ _ _ h2 ((p.step h3).put rfl) (.inl ⟨rfl,rfl⟩)
   exact j.elim
  exact j.elim
 case h_9 b args argTypes B=>-- VB
  have ry:∀(vs:List Value),nI (args.toList.map (Sx.og env))=some vs->
   (execOp a.eval o)=builtin b argTypes o.type (args.map λ| .const _=>true|_=>false) vs.toArray:=λvs G=>by
   simp only[execOp,B,resolve];rw[iZ p G];rfl
  split at j
  .split at j -- append
   .rename_i t u ht I;split at j
    .rename_i e E;have sP:=fT M (fM E);obtain⟨d,hd,MW,O,-⟩:=sP.cf w;obtain rfl:=nR (O ▸ E);split at j
     .exact j.elim
     rename_i X;have R:=fT M (fQ X);split at j
     .exact j.elim
     rename_i Ip;have Kw:(T.ty e).zero.length=(T.ty e).size:=by simpa using Ip
     split at j
     .rename_i b' len cap x n q G;split at j
      .rename_i e2 W;obtain⟨d2,-,UG,UA,-⟩:=(fT M (fM W)).cf w;obtain rfl:=nR (UA ▸ W);obtain⟨new,g1,S⟩:=(show fS _ _ _ _ _ _ _ _ _ _ from j).out;obtain⟨v,D,h',C,J,K⟩:=S.run (P:=P) Z ht I MW UG R rfl rfl Kw (.inl ⟨x,q,rfl,λ_=>by simp,g1⟩) o.type;exact val (by rw[ry _ G];simp only[builtin,Sem.run_bind,C,Result.andThen_ok,Sem.run_pure]) J K
      exact j.elim
     .rename_i b' len cap s G;split at j
      .rename_i W;obtain⟨d2,-,UG,UA,-⟩:=(fT M (show(T.ty u).kd≠.none by rw[W];simp)).cf w;obtain rfl:d2=.string:=by rw[UA]at W;cases d2<;>simp[nS]at W;rfl
       obtain⟨v,D,h',C,J,K⟩:=qX.run (P:=P) Z j ht I MW UG R rfl rfl Kw (x:=.string s) (.inr (.inr ⟨s,rfl,rfl,rfl,rfl⟩)) o.type;exact val (by rw[ry _ G];simp only[builtin,Sem.run_bind,C,Result.andThen_ok,Sem.run_pure]) J K
      exact j.elim
     .rename_i b' len cap kk n G;split at j
      .rename_i W;obtain⟨d2,-,UG,UA,-⟩:=(fT M (show(T.ty u).kd≠.none by rw[W];simp)).cf w;obtain⟨k',rfl⟩:∃k',d2=.int k':=by rw[UA]at W;cases d2<;>simp[nS]at W;exact⟨_,rfl⟩
       obtain⟨⟨c1,c2,c3⟩,S⟩:=(show rO _ _ from j);have S:=S.out;rw[show A.mg n 0=n.toNat by rw[A.zq];simp]at S;obtain⟨v,D,h',C,J,K⟩:=qX.run (P:=P) Z S ht I MW UG R rfl rfl Kw (x:=.int kk n) (.inr (.inl ⟨kk,k',n,rfl,rfl,rfl,c1,c2,c3,rfl⟩)) o.type;exact val (by rw[ry _ G];simp only[builtin,Sem.run_bind,C,Result.andThen_ok,Sem.run_pure]) J K
      exact j.elim
     exact j.elim
    exact j.elim
   exact j.elim
  .split at j -- copy
   .rename_i t ht;split at j
    .rename_i e E;have sP:=fT M (fM E);obtain⟨d,hd,MW,O,-⟩:=sP.cf w;obtain rfl:=nR (O ▸ E);split at j
     .exact j.elim
     rename_i X;have R:=fT M (fQ X);split at j
     .rename_i b' len q x n q' G;obtain⟨cs,g1,S,g3⟩:=(show uQ _ _ _ _ _ _ _ from j).out;obtain⟨D,h',C,J,K⟩:=g3.run (P:=P) Z S;refine val ?_ J K;rw[ry _ G];have hf:=tP (P:=P) Z g1 n q';have DH:Nat.min n len=min n len:=rfl;simp[builtin,Builtin.copy_,ht,hd,Builtin.lenOf,R.fk,DH,hf,goInt];cases b' with
      |none=>simp at C;simp[C]
      |some y=>simp at C;simp[C]
     exact j.elim
    exact j.elim
   exact j.elim
  .split at j -- clear
   .rename_i t ht;split at j
    .rename_i e E;have sP:=fT M (fM E);obtain⟨d,hd,MW,O,-⟩:=sP.cf w;obtain rfl:=nR (O ▸ E);split at j
     .exact j.elim
     rename_i X;have R:=fT M (fQ X);split at j
     .exact j.elim
     rename_i Ip;have Kw:(T.ty e).zero.length=(T.ty e).size:=by simpa using Ip
     split at j
     .rename_i b' len q G;obtain⟨S,g3⟩:=(show vL _ _ _ _ _ from j);obtain⟨D,h',C,J,K⟩:=g3.run (P:=P) Z (ve S len);refine val ?_ J K;rw[ry _ G];obtain⟨zz,au,Iq⟩:=R.nK w;have bl:Builtin.zeroCells zz.cells len=(gu len (T.ty e).zero).toArray:=by unfold Builtin.zeroCells;rw[range_zero,Iq]
      cases b' with
      |none=>simp at C;subst C;simp[builtin,Builtin.clear_,ht,hd]
      |some y=>
       simp at C;cases len with
       |zero=>have:gu 0 (T.ty e).zero=[]:=rfl;rw[this]at C;simp[storeCells]at C;subst C;simp[builtin,Builtin.clear_,ht,hd]
       |succ m=>simp[builtin,Builtin.clear_,ht,hd,au,bl,C]
     exact j.elim
    exact j.elim
   exact j.elim
  .split at j -- delete
   .rename_i U has;exact N j (by rw[ry _ has];rfl)
   exact j.elim
  exact j.elim
 case h_10 src dst x B=>-- convert
  split at j
  .rename_i u I;exact N j (by simp only[execOp,B,p.bt I])
  exact j.elim
 case h_11 t x i b B=>-- lookup
  split at j
  .rename_i u I;split at j
   .rename_i v G;exact N j (by simp only[execOp,B,p.bt I,p.bt G])
   exact j.elim
  exact j.elim
 case h_12 t m i x B=>-- mapUpdate
  split at j
  .rename_i u I;split at j
   .rename_i v G;split at j
    .rename_i z hz;exact ar j (by simp only[execOp,B,p.bt I,p.bt G,p.bt hz])
    exact j.elim
   exact j.elim
  exact j.elim
 case h_13 t m i B=>-- mapEntry
  split at j
  .rename_i u I;split at j
   .rename_i v G;exact N j (by simp only[execOp,B,p.bt I,p.bt G])
   exact j.elim
  exact j.elim
 case h_14 t m i x B=>-- entryStore
  split at j
  .rename_i u I;split at j
   .rename_i v G;split at j
    .rename_i z hz;exact ar j (by simp only[execOp,B,p.bt I,p.bt G,p.bt hz])
    exact j.elim
   exact j.elim
  exact j.elim
 case h_15 t x B=>-- range
  split at j
  .rename_i u I;exact N j (by simp only[execOp,B,p.bt I])
  exact j.elim
 case h_16 it str B=>-- next
  split at j
  .rename_i u I;exact N j (by simp only[execOp,B,p.bt I])
  exact j.elim
 case h_17 it B=>-- entry
  split at j
  .rename_i u I;exact N j (by simp only[execOp,B,p.bt I])
  exact j.elim
 case h_18 t m i x B=>-- insert
  split at j
  .rename_i u I;split at j
   .rename_i v G;split at j
    .rename_i z hz;exact ar j (by simp only[execOp,B,p.bt I,p.bt G,p.bt hz])
    exact j.elim
   exact j.elim
  exact j.elim
 case h_19 x B=>-- panic
  split at j
  .rename_i t v G;have H:(execOp a.eval o).run P w=.halt (.panic (.iface t v)) w:=by simp only[execOp,B,p.bt G,Sem.run_bind,show(Instr.panic (.iface t v)).run P w=.halt (.panic (.iface t v)) w from rfl];rfl
   refine pd (λc hc=>by rw[hc]at B;cases B) H ?_;rw[Oper.uponIn_panic];exact gF _ _ _ _ _ _ _ j p
  exact j.elim
 case h_20=>exact j.elim
end Go.Sx
