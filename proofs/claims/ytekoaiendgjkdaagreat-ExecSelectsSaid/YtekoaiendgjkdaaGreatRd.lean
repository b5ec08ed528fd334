import Derived.Test.YtekoaiendgjkdaaGreatSxB
import Derived.Laws.LoneSync
import Derived.Lib.Bytealg
import Derived.MapKept
import Derived.Maps.RangeRun
import Derived.Laws.RangeString
set_option linter.unusedVariables false
set_option linter.unusedSimpArgs false
set_option linter.unusedSectionVars false
namespace Go.Sx
def Le(h h':ad):Prop:=∀b o,h b=some o->h' b=some o
def cF(a5:List Nat)(h h':ad):Prop:=∀b c e fr,e∈a5->h b=some (.cells c e fr)->h' b=some (.cells c e fr)
structure Sh(α:Type)where
 n:Nat
 R:ad->List Value->α->Prop
 len:∀ {h cs x},R h cs x->cs.length=n
 one:∀ {h cs x},R h cs x->jo cs=true
 a5:List Nat
 mono:∀ {h h' cs x},cF a5 h h'->R h cs x->R h' cs x
def Rows{α:Type}(s:Sh α)(h:ad)(c:List Value)(off:Nat)(xs:List α):Prop:=
 off+xs.length*s.n<=c.length/\∀i x,xs[i]? =some x->s.R h ((c.drop (off+i*s.n)).take s.n) x
structure Sl{α:Type}(e:Nat)(s:Sh α)(h:ad)(v:Value)(xs:List α):Prop where
 out:∃b cap,v=.slice b xs.length cap/\xs.length<=cap/\xs.length<=2^40/\
  (xs=[]\/∃kY off c fr,b=some ⟨kY,off,none⟩/\h kY=some (.cells c e fr)/\Rows s h c.toList off xs)
def jU{α:Type}(e:Nat)(s:Sh α):Sh (List α)where
 n:=1
 R h cs xs:=∃v,cs=[v]/\Sl e s h v xs
 len:=by rintro h cs x ⟨v,rfl,-⟩;rfl
 one:=by rintro h cs x ⟨v,rfl,q⟩;obtain⟨b,cap,rfl,-⟩:=q.out;rfl
 a5:=e::s.a5
 mono:=by rintro h h' cs x hl ⟨v,rfl,q⟩;exact⟨v,rfl,q.mono hl⟩
structure dI{α:Type}(e:Nat)(s:Sh α)(h:ad)(nb cap:Nat)(xs:List α):Prop where
 out:∃c,h nb=some (.cells (List.toArray c) e (0,0))/\Rows s h c 0 xs/\c.length=cap*s.n
 le:xs.length<=cap
 bd:xs.length<=2^40
def ue:Env->List (Nat×SV)->Env
 |env,[]=>env
 |env,(t,x)::r=>ue (env.set t x) r
def Iq:Env->List Nat->Env
 |env,[]=>env
 |env,t::r=>Iq (env.set t .u) r
def Kp(bs:List Nat)(h h':ad):Prop:=∀b o,h b=some o->b∉bs->h' b=some o
structure aS(z:Int)(i:Nat):Prop where
 eq:z=(i:Int)
variable {P:Program}
structure jP(P:Program)(f:FuncId)(fn:Func):Prop where
 hf:P.funcs[f]? =some fn
 rD:(fn.name== "runtime.NumGoroutine")=false
 hb:fn.body.isNone=true
 hn:Extern.findNext fn=none
structure mM(h:ad)(a:Addr)(v:Value):Prop where
 out:a.spot=none/\∃c e,h a.block=some (.cells c e (0,0))/\c[a.off]? =some v
def lX(l:List Int)(i j:Nat):Nat:=
 if i<j then
  if l.getD ((i+j) / 2) 0<0 then lX l ((i+j) / 2+1) j else lX l i ((i+j) / 2)
 else i
 termination_by j-i
 decreasing_by all_goals omega
open Go.MapKept
variable {P:Program}
structure Mp(h:ad)(m:Nat)(d:TypeDesc)(l:List (Value×Value)):Prop where
 out:∃es clock,h m=some (.map es clock)/\es.toList.map (fun e=>(e.key,e.val))=l/\Stamped es clock/\∀x∈es.toList,IsKey d x.key
structure pG{α:Type}(xs:List α)(p:α->Bool)(z:Int):Prop where
 out:(z=-1/\∀x∈xs,p x=false)\/∃i x,aS z i/\xs[i]? =some x/\p x=true/\∀j,j<i->∀y,xs[j]? =some y->p y=false
structure cX{α:Type}(e:Nat)(s:Sh α)(h0 h:ad)(v:Value)(xs:List α):Prop where
 out:(∃b,v=.slice b 0 0/\xs=[])\/∃nb cap,v=.slice (some ⟨nb,0,none⟩) xs.length cap/\h0 nb=none/\dI e s h nb cap xs
def dr(l:List Int):Nat:=lX l 0 l.length
def lK(l:List Int):Bool:=decide (dr l<l.length/\l.getD (dr l) 0=0)
open Go.ChangeMaps (setBlock)
variable {P:Program}
structure It(h:ad)(r m:Nat)(left:List (Value×Value))(last:Option (Value×Value)):Prop where
 out:∃es clock since seen c0,h m=some (.map es clock)/\h r=some (.mapIter (some m) since seen c0)/\(∀x∈es.toList,x.born<since)/\since<=c0/\since<=clock/\(es.toList.map (·.born)).Nodup/\
  left=(leftOf es seen).toList.map (fun e=>(e.key,e.val))/\∀p,last=some p->∃e∈es.toList,(e.key,e.val)=p/\∃Jo:Array Nat,seen=Jo.push e.born/\c0=clock
structure nR{α:Type}(e:Nat)(s:Sh α)(h0 h:ad)(v:Value)(xs:List α)(p:Nat):Prop where
 out:(∃b,v=.slice b 0 0/\xs=[])\/∃nb cap pre,v=.slice (some ⟨nb,pre.length*s.n,none⟩) xs.length (cap-pre.length)/\h0 nb=none/\dI e s h nb cap (pre++xs)/\(pre++xs).length<=p
structure xL{α:Type}(s:Sh α)(h:ad)(v:Value)(xs:List α):Prop where
 out:∃b cap,v=.slice b xs.length cap/\xs.length<=2^50/\(xs=[]\/∃kY off c e fr,b=some ⟨kY,off,none⟩/\h kY=some (.cells c e fr)/\Rows s h c.toList off xs)
def de(h:ad)(n:Nat):ad:=fun b=>if b=n then none else h b
variable {P:Program}
variable {P:Program}
end Go.Sx
