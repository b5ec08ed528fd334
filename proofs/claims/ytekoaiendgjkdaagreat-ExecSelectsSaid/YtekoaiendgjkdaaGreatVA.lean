import Derived.Test.YtekoaiendgjkdaaGreatUA
import Derived.Test.YtekoaiendgjkdaaGreatRd
import Derived.Test.YtekoaiendgjkdaaGreatEA
import Derived.Test.YtekoaiendgjkdaaGreatEC
set_option linter.unusedVariables false
set_option linter.unusedSimpArgs false
set_option linter.unusedSectionVars false
set_option maxRecDepth 100000
set_option maxHeartbeats 8000000
namespace Go.S
open Go.Sx Go.Proofs
def sI:Sh Wd where
 n:=3
 R _ cs v:=cs=[.int .i64 v.k,.int .i64 v.n,.string v.s]
 len:=by rintro h cs x rfl;rfl
 one:=by rintro h cs x rfl;rfl
 a5:=[]
 mono:=fun _ q=>q
def dh:Sh Nd where
 n:=7
 R _ cs v:=cs=[.int .i64 v.op,.int .i64 v.a,.int .i64 v.b,.int .i64 v.v.k,.int .i64 v.v.n,.string v.v.s,.string v.name]
 len:=by rintro h cs x rfl;rfl
 one:=by rintro h cs x rfl;rfl
 a5:=[]
 mono:=fun _ q=>q
abbrev Sa:Wd:=⟨0,0,b0⟩
def AD(ws:List Wd):Prop:=∃l,ws=l++[Sa]
structure gX(lv:Bool)(base h:ad)(pb:Nat)(s:PS):Prop where
 out:∃wb wn wc eb en ec at_ i all,h pb=some (.cells #[.slice wb wn wc,.int .i64 at_,.int .i64 s.err,.slice eb en ec] 136 (0,0))/\Sl 139 sI base (.slice wb wn wc) all/\aS at_ i/\all.drop i=s.ws/\AD s.ws/\all.length<=700/\(lv=true->cX 325 dh base h (.slice eb en ec) s.e/\s.e.length<=60)/\Le base h/\base pb=none
structure pO(s:ByteArray)(i:Nat)(t:By):Prop where
 le:i<=s.size
 eq:s.data.toList.drop i=t
abbrev qh(n:Nd):Value:=.agg #[.int .i64 n.op,.int .i64 n.a,.int .i64 n.b,.int .i64 n.v.k,.int .i64 n.v.n,.string n.v.s,.string n.name]
abbrev ub(f:FuncId)(hD:Nat)(fn:Nat->PS->Int×PS)(n:Nat):Prop:=∀(base h:ad) (pb:Nat) (s:PS) (k:Value->ad->Prop),gX true base h pb s->9*s.ws.length+hD<=n->
 (∀h' a s',fn n s=(a,s')->gX true base h' pb s'->s'.ws.length<=s.ws.length->k (.int .i64 a) h')->Ct f [.pointer (some ⟨pb,0,none⟩)] h k
def GK(n:Nat)(s:PS):Int×PS:=match s.is (ax [116,114,117,101])with
 | (true,q)=>q.node (lit ⟨1,1,b0⟩)
 | (false,q)=>match q.is (ax [102,97,108,115,101])with
  | (true,q)=>q.node (lit ⟨1,0,b0⟩)
  | (false,q)=>match q.is (ax [110,117,108,108])with
   | (true,q)=>q.node (lit v0)
   | (false,q)=>match q.is (ax [40])with
    | (true,q)=>let a:=JJ ao n q;(a.1,a.2.cg [(ax [41])])
    | (false,q)=>let s:=q.column ao;s.2.node (eJ s.1)
end Go.S
