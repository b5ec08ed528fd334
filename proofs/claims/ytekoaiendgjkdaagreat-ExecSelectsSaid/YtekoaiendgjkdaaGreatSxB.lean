import Derived.Test.YtekoaiendgjkdaaGreatSxA
import Derived.Tactics
import Derived.Deep.LoopGhost
import Derived.Defers
import Derived.RangeFuncRecord
import Derived.RecoverIn
set_option linter.unusedVariables false
set_option linter.unusedSimpArgs false
set_option linter.unusedSectionVars false
namespace Go.Sx
variable {ro:Option Nat}{n:Nat}
variable {P:Program}{T:aU}{A:Ar}[aV A]
variable {ds:List Deferred}{h0:ad}{w0:World}{β:Nat->Nat}{env:Env}{L:Loc}{h:ad}{a:Act}{w:World}
def jq(o:Oper):Bool:=match o.op with
 | .load .. =>true
 |_=>false
def jI(o:Oper):Bool:=match o.op with
 | .alloc _| .box .. =>true
 |_=>false
def dE(o:Oper):Bool:=match o.op with
 | .assign _=>true
 |_=>false
variable {P:Program}{T:aU}{A:Ar}[aV A]
variable {ds:List Deferred}{h0:ad}{w0:World}
def iu(o:Oper):List Nat:=(o.after.toList.filter fun e=>Region.binds .any e).map (·.on)
def pI(T:aU)(ops:Array Oper):Bool:=
 (List.range ops.size).all fun i=>match ops[i]? with
  |none=>false
  |some oi=>(iu oi).all (fun e=>decide (e<i))&&
   (match oi.dst with|none=>true|some d=> !iP T oi|| !(oi.looksAt ops).contains d)&&
   (List.range ops.size).all fun j=>i==j||match ops[j]? with
    |none=>false
    |some oj=>match oi.dst with
     |none=>true
     |some d=>oj.dst !=some d&&(!(oj.looksAt ops).contains d||(iu oj).contains i||(!iP T oi&&(iu oi).contains j))
def Jr(T:aU)(ops:Array Oper):Bool:=ops.toList.all fun o=>match o.dst with
 |some d=> !T.rs.contains d
 |none=>true
def gW(ops:Array Oper):Nat->List Nat->List Nat
 |0,s=>s
 |i+1,s=>gW ops i (if s.contains i then(match ops[i]? with|some o=>iu o|none=>[])++s else s)
def nI:pF->List Nat
 | .aq i _ _=>[i]
 | .fork l r=>nI l++nI r
 |_=>[]
def As(ops:Array Oper)(p:pF)(a3:List Nat):Bool:=
 (List.range ops.size).all fun j=>a3.contains j||(nI p).contains j||match ops[j]? with
  |some o=> !(iu o).all a3.contains
  |none=>true
def uE(T:aU)(ops:Array Oper):pF->Bool->List Nat->List Nat->List Nat->Bool
 | .done,br,a3,_,_=> !br&&(List.range ops.size).all a3.contains
 | .aa i rest,br,a3,a4,known=> !br&& !a3.contains i&&(match ops[i]? with
  |some o=>iP T o&&(iu o).all a3.contains
  |none=>false)&&uE T ops rest false (i::a3) (i::a4) known
 | .aq i pn rest,br,a3,a4,known=>(br||As ops (.aq i pn rest) a3)&& !a3.contains i&&(match ops[i]? with
  |some o=> !iP T o&&(dE o||a4.all fun j=>(gW ops ops.size (i::known)).contains j||pn.contains j||(match ops[j]? with
   |some oj=> !jq oj
   |none=>true))
  |none=>false)&&
  uE T ops rest false (i::a3) (a4.filter fun j=> !(gW ops ops.size (i::known)).contains j) (gW ops ops.size (i::known))
 | .fork l r,br,a3,a4,known=>(br||As ops (.fork l r) a3)&&uE T ops l true a3 a4 known&&uE T ops r true a3 a4 known
def In(X:Array Bool)(i:Nat):Prop:=X.getD i false=true
structure lz where
 i:Nat
 o:Oper
 sv:SV
 nb:Option (List Value)
def lz.fact(A:Ar)(T:aU)(P:Program)(ops:Array Oper)(env:Env)(L:Loc)(h:ad)(x:lz):Prop:=
 gd ops.toList env x.o (fun _=>fD A T (fun _=>P) x.o (kE env) (if jI x.o then []else L) h (fun a b=>a=x.sv/\b=x.nb)) (fun _=>x.sv=.v undef/\x.nb=none)
structure eP(A:Ar)(T:aU)(P:Program)(ops:Array Oper)(X:Array Bool)(D:List lz)(a3 a4 known:List Nat)(a6:Env)(Lc:Loc)(fP:Env)(La:Loc)(h:ad):Prop where
 size:X.size=ops.size
 Tw:∀j,j∈a3↔In X j\/∃x∈D,x.i=j
 apart:∀x∈D,¬In X x.i
 down:∀i o,In X i->ops[i]? =some o->∀e∈iu o,In X e
 known:∀i∈known,In X i
 a4:∀x∈D,x.i∈a4
 len:fP.length=a6.length
 env:∀t,(∀x∈D,x.o.dst≠some t)->fP[t]? =a6[t]?
 dst:∀x∈D,∀t,x.o.dst=some t->t<a6.length->a6[t]? =some x.sv
 loc:∀s,(∀x∈D,x.nb.isSome=true->x.o.dst≠some s)->iM La s=iM Lc s
 box:∀x∈D,∀s c,x.nb=some c->x.o.dst=some s->iM La s=none/\iM Lc s=some c
 op:∀x∈D,ops[x.i]? =some x.o/\iP T x.o=true
 Yq:∀x∈D,∀e∈iu x.o,e∈a3
 uniq:∀x∈D,∀y∈D,x.i=y.i->x=y
 fact:∀x∈D,x.fact A T P ops a6 Lc h
variable {ro:Option Nat}{n:Nat}
variable {P:Program}{T:aU}{A:Ar}[aV A]
variable {ds:List Deferred}{h0:ad}{w0:World}{β:Nat->Nat}{h:ad}{a:Act}{w:World}
variable {ops:Array Oper}{X:Array Bool}{D:List lz}{a3 a4 known:List Nat}{a6 fP:Env}{Lc La:Loc}
variable {ro:Option Nat}{n:Nat}
variable {P:Program}{T:aU}{A:Ar}[aV A]
variable {ds:List Deferred}{h0:ad}{w0:World}{β:Nat->Nat}{h:ad}{a:Act}{w:World}
variable {ops:Array Oper}{X:Array Bool}{D:List lz}{a3 a4 known:List Nat}{a6 fP:Env}{Lc La:Loc}
variable {ro:Option Nat}{n:Nat}
variable {P:Program}{T:aU}{A:Ar}[aV A]
variable {ds:List Deferred}{h0:ad}{w0:World}{β:Nat->Nat}{h:ad}{a:Act}{w:World}
variable {ops:Array Oper}{X:Array Bool}{D:List lz}{a3 a4 known:List Nat}{a6 fP:Env}{Lc La:Loc}
def W6(X:Array Bool):Nat:=X.toList.countP (!·)
variable {ro:Option Nat}{n:Nat}
variable {P:Program}{T:aU}{A:Ar}[aV A]
variable {ds:List Deferred}{h0:ad}{w0:World}{β:Nat->Nat}{h:ad}{a:Act}{w:World}{env:Env}{L:Loc}
def dw(T:aU):Code->Bool
 | .region id ops true=>(pI T ops&&Jr T ops)&&uE T ops (T.aA id) false [] [] []
 | .seq a b| .cond _ a b=>dw T a&&dw T b
 | .block _ c| .loop c=>dw T c
 | .rangeFunc _ _ a c=>dw T a&&dw T c
 |_=>true
def LL:Ex->Exit
 | .normal=>.normal
 | .exit id=>.exit id
 | .ret=>.ret
def zE(tmps:Array Value):ResultVar->Sem Value
 | .tmp t=>pure (tmps.getD t undef)
 | .cell q t=>do loadVar t (<-asAddr (tmps.getD q undef))
variable {ro:Option Nat}{n:Nat}
variable {P:Program}{T:aU}{A:Ar}[aV A]
inductive Df where
 |call (g:FuncId) (args cap:List Value)
 |mark (m:Nat)
def Df.at:Df->Deferred
 | .call g args cap=>{ target:=.fn (.func g) cap.toArray,args:=args.toArray }
 | .mark m=>{ target:=.collected m,args:= #[] }
def jb:Env->Env
 | []=>[]
 |x::r=>match x with
  | .loc _ _=>.u::jb r
  |x=>x::jb r
def tB:Env->List Nat->List Value->Env
 |env,p::ps,v::vs=>tB (env.set p (.v v)) ps vs
 |env,_,_=>env
def Dn(A:Ar)(T:aU)(p:Unit->Program)(ua body:Code)(env:Env)(ps:List Nat)(l:Nat)(o1 o2:Obj)(vs:List Value)(k:ad->Prop)(hh:ad):Prop:=
 sx A T p ua (fun e ig L1 h1=>match e with
  | .normal=>h1 l=some o1/\sx A T p body (fun e _ _ h2=>match e with
   | .normal=>h2 l=some o2/\k (bp h2 l o1)
   |_=>False) ig L1 (bp h1 l o2)
  |_=>False) (tB env ps vs) [] hh
structure ox(p:Unit->Program)(gf:FuncId)(lb:List Value)(n:Nat)(round:Nat->Obj->Obj->List Value->(ad->Prop)->ad->Prop)(h:ad)(K:Nat->ad->Prop):Prop where
 out:∀(m l:Nat) (o1 o2:Obj),h m=none->h l=none->m≠l->(∀c e fr,o1≠.cells c e fr)->(∀c e fr,o2≠.cells c e fr)->
  (∀vs hh (k:ad->Prop),vs.length=n->hh l=some o1->round l o1 o2 vs k hh->Qj p l vs hh (fun v h'=>v=.bool true/\k h'))->
  IC p gf (.func (.yield l) #[] #[]::lb) (bp (bp h m (.deferred (some []))) l o1) (fun _ h'=>h' l=some o1/\∀o3,(∀c e fr,o3≠.cells c e fr)->K m (bp h' l o3))
def o6(P:Program)(f:FuncId)(args:List Value)(h:ad)(R:Value->ad->Prop):Prop:=
 ∀w,uc h w->∀n,CallsDIn Fence.wide n P f args.toArray .returning w fun e u' w'=>u'=.returning/\∃v h',e=.returned v/\R v h'/\aY h w h' w'
structure H4(p:Unit->Program)(f:FuncId)(args:List Value)(h:ad)(R:Value->ad->Prop):Prop where
 out:o6 (p ()) f args h R
def pS(A:Ar)(T:List Df->aU)(p:Unit->Program)(all:List Oper)(K:List Df->Env->Loc->ad->Prop):List Oper->List Df->Env->Loc->ad->Prop
 | [],ds,env,L,h=>K ds env L h
 |o::rest,ds,env,L,h=>
  gd all env o
   (fun _=>match o.op with
    | .defer c=>match c.callee with
     | .value f=>match kE env f with
      | .v (.func (.func g) first cap)=>match kG (c.args.toList.map (kE env))with
       |some as=>pS A T p all K rest (.call g (first.toList++as) cap.toList::ds) (put env o.dst (.v undef)) L h
       |none=>False
      |_=>False
     |_=>False
    |_=>match iP (T ds) o with
     |true=>fD A (T ds) p o (kE env) L h (fun x nb=>pS A T p all K rest ds (put env o.dst x) (nB L o.dst nb) h)
     |false=>hx A (T ds) p o (kE env) L h (fun x L' h'=>pS A T p all K rest ds (put env o.dst x) L' h'))
   (fun _=>pS A T p all K rest ds (put env o.dst (.v undef)) L h)
def H6(A:Ar)(T:List Df->aU)(p:Unit->Program):Code->(Ex->List Df->Env->Loc->ad->Prop)->List Df->Env->Loc->ad->Prop
 | .region id ops false,K,ds,env,L,h=>pS A T p ops.toList (fun ds env L h=>K .normal ds env L h) ops.toList ds env L h
 | .seq a b,K,ds,env,L,h=>H6 A T p a (fun e ds env L h=>match e with
  | .normal=>H6 A T p b K ds env L h
  |e=>K e ds env L h) ds env L h
 | .cond c a b,K,ds,env,L,h=>match kE env c with
  | .v (.bool t)=>HT t (fun _=>H6 A T p a K ds env L h) (fun _=>H6 A T p b K ds env L h)
  |_=>False
 | .block id c,K,ds,env,L,h=>H6 A T p c (fun e ds env L h=>match e with
  | .exit j=>if j=id then K .normal ds env L h else K (.exit j) ds env L h
  |e=>K e ds env L h) ds env L h
 | .rangeFunc g ps ua body,K,ds,env,L,h=>match kE env g with
  | .v (.func (.func gf) first lb)=>match first.isEmpty,(T ds).fn gf with
   |true,true=>ox p gf lb.toList ps.size (Dn A (T ds) p ua body (jb env) ps.toList) h (fun m h'=>K .normal (.mark m::ds) env L h')
   |_,_=>False
  |_=>False
 |c,K,ds,env,L,h=>sx A (T ds) p c (fun e env L h=>K e ds env L h) env L h
def zD(T:aU)(p:Unit->Program):List Df->(ad->Prop)->ad->Prop
 | [],k,h=>k h
 | .call g args cap::r,k,h=>match T.fn g with
  |true=>H4 p g (args++cap) h (fun _ h'=>zD T p r k h')
  |false=>False
 | .mark m::r,k,h=>h m=some (.deferred (some []))/\zD T p r k (bp h m (.deferred none))
def X7(A:Ar)(T:aU)(p:Unit->Program)(c:Code)(ntmps:Nat)(rs:List ResultVar)(args:List Value)(h:ad)(R:Value->ad->Prop):Prop:=
 H6 A (fun _=>T) p c (fun e ds env L h=>match e with
  | .exit _=>False
  |_=>zD T p ds (fun h=>mw T env L h rs (fun l=>jH l (fun v=>R v h))) h) [] (args.map SV.v++List.replicate (ntmps-args.length) (.v undef)) [] h
variable {h0:ad}{w0:World}{β:Nat->Nat}{h:ad}{a:Act}{w:World}{env:Env}{L:Loc}
def Mu(T:List Df->aU)(h0:ad)(w0:World)(Q:Exit->Act->World->Prop):Prop:=∀ds:List Df,ki (T ds) (ds.map Df.at) h0 w0 Q
variable {TT:List Df->aU}
def Bs:Code->Bool
 | .rangeFunc .. =>false
 | .seq a b| .cond _ a b=>Bs a&&Bs b
 | .block _ c=>Bs c
 |_=>true
variable {ro:Option Nat}{n:Nat}
variable {P:Program}{T:aU}{A:Ar}[aV A]
variable {h0:ad}{w0:World}{β:Nat->Nat}{h:ad}{a:Act}{w:World}{env:Env}{L:Loc}{ds:List Deferred}
structure hL(p:Unit->Program)(f:FuncId)(args:List Value)(v:Value)(h:ad)(R:ad->Prop):Prop where
 out:∀w,uc h w->∀n,CallsDIn Fence.wide n (p ()) f args.toArray (.panicking [{ v,recovered:=false }]) w fun e u' w'=>u'=.panicking [{ v,recovered:=true }]/\∃x h',e=.returned x/\R h'/\aY h w h' w'
def Bj(T:aU)(h:ad):List ResultVar->List SV->(List Value->Prop)->Prop
 | [],_,k=>k []
 |r::rs,ss,k=>match r with
  | .cell _ t=>match ss with
   |s::ss=>match s with
    | .v (.pointer (some x))=>match (T.ty t).kd.isNone with
     |true=>False
     |false=>tq h x (T.ty t).size (fun cs=>nK (T.ty t).agg cs (fun v=>Bj T h rs ss (fun l=>k (v::l))))
    |_=>False
   | []=>False
  | .tmp _=>False
def GA:List ResultVar->List Nat
 | []=>[]
 | .cell a _::r=>a::GA r
 | .tmp t::r=>t::GA r
def SE(T:aU)(p:Unit->Program)(rs:List ResultVar)(R:Value->ad->Prop)(ds:List Df)(c:List PanicEntry)(s:List SV)(h:ad):Prop:=
 match ds with
 | [.call g args cap]=>match T.fn g with
  |true=>∃x,c=[{ v:=x,recovered:=false }]/\hL p g (args++cap) x h (fun h'=>Bj T h' rs s (fun l=>jH l (fun v=>R v h')))
  |false=>False
 |_=>False
def aU.Qz(T:aU)(p:Unit->Program)(rs:List ResultVar)(R:Value->ad->Prop)(ds:List Df):aU:={ T with rs:=GA rs,kp:=SE T p rs R ds }
def X6(A:Ar)(T:aU)(p:Unit->Program)(c:Code)(ntmps:Nat)(rs:List ResultVar)(args:List Value)(h:ad)(R:Value->ad->Prop):Prop:=
 H6 A (T.Qz p rs R) p c (fun e ds env L h=>match e with
  | .exit _=>False
  |_=>zD T p ds (fun h=>mw T env L h rs (fun l=>jH l (fun v=>R v h))) h) [] (args.map SV.v++List.replicate (ntmps-args.length) (.v undef)) [] h
end Go.Sx
