import Derived.Test.YtifjeceolckgaaaGreatI2a
set_option linter.all false
set_option maxRecDepth 100000
set_option maxHeartbeats 8000000
namespace Go.S
open Go.Sx Go.Proofs
set_option maxHeartbeats 4000000
variable {a:Int}{R:List Row}{p:Nat}{x:Row}
def tT(R:List Row):List cW:=[⟨aF 0,R⟩,dZ 1,dZ 2]
structure SO(R:List Row):Prop where
 sr:SR R
 ok:∀row∈R,fK row
 le:R.length<=200
theorem SO.nil:SO []:=⟨SR.nil,by simp,by simp⟩
theorem At.ins{v:cO}(q:At R a p):At (R.take p++[[⟨2,a,fQ⟩,v]]++R.drop p) a p/\kJ (R.take p++[[⟨2,a,fQ⟩,v]]++R.drop p) a p=true:=by
 have f:=q.le;have t:(R.take p).length=p:=by simp;omega
 have c:∀i,i<p->(R.take p++[[⟨2,a,fQ⟩,v]]++R.drop p)[i]? =R[i]? :=λi b=>by
  rw[mXk,mZw (by omega),mXl,if_pos b]
 have e:(R.take p++[[⟨2,a,fQ⟩,v]]++R.drop p)[p]? =some [⟨2,a,fQ⟩,v]:=by rw[mXk,mXJ (by omega),t,mXK];rfl
 have d:∀i,p<i->(R.take p++[[⟨2,a,fQ⟩,v]]++R.drop p)[i]? =R[i-1]? :=λi b=>by
  rw[mXJ (by simp;omega),mXr];congr 1;simp;omega
 refine⟨⟨by simp;omega,λi o b r=>?_,λi o b r=>?_⟩,?_⟩
 .rw[c i b]at r;exact q.lo i o b r
 .rcases Nat.eq_or_lt_of_le b with h|h
  .subst h;rw[e]at r;cases r;exact mZa _
  rw[d i h]at r;exact q.hi (i-1) o (by omega) r
 unfold kJ;rw[e];exact mQu rfl
theorem VV(h:p<=R.length):(R.take p++[x]++R.drop p).take p++(R.take p++[x]++R.drop p).drop (p+1)=R:=by
 have t:(R.take p).length=p:=by simp;omega
 rw[mXk,mJE (by omega),mXa (by omega),<-mXk,List.drop_append_of_le_length (by simp;omega),mQT (by simp;omega),mZn,mXo]
theorem At.del(h:SR R)(q:At R a p)(k:kJ R a p=true):At (R.take p++R.drop (p+1)) a p/\kJ (R.take p++R.drop (p+1)) a p=false:=by
 have P:p<R.length:=by
  unfold kJ at k;cases b:R[p]? with
  |none=>rw[b]at k;cases k
  |some r=>exact(mQB.1 b).1
 have t:(R.take p).length=p:=by simp;omega
 have f:∀i,i<p->(R.take p++R.drop (p+1))[i]? =R[i]? :=λi c=>by
  rw[mZw (by omega),mXl,if_pos c]
 have e:∀i,p<=i->(R.take p++R.drop (p+1))[i]? =R[i+1]? :=λi c=>by
  rw[mXJ (by omega),mXr];congr 1;omega
 have Q:∀i r,p<i->R[i]? =some r->a<kN r:=λi r c b=>by
  unfold kJ at k;obtain⟨d,Z⟩:=aE P;rw[Z]at k;have X:kN d=a:=mQL k;have g:=mQZ.1 h.jC p i P (mQB.1 b).1 c;rw[(mQB.1 Z).2,(mQB.1 b).2]at g;omega
 refine⟨⟨by simp;omega,λi r c b=>?_,λi r c b=>?_⟩,?_⟩
 .rw[f i c]at b;exact q.lo i r c b
 .rw[e i c]at b;have:=Q (i+1) r (by omega) b;omega
 unfold kJ;rw[e p (mQD _)];cases b:R[p+1]? with
 |none=>rfl
 |some r=>have:=Q (p+1) r (by omega) b;exact mQv (by omega)
theorem WQ(hx:R[p]? =some x):(R.take p++R.drop (p+1)).take p++[x]++(R.take p++R.drop (p+1)).drop p=R:=by
 have a:=(mQB.1 hx).1;have h:(R.take p).length=p:=by simp;omega
 rw[mJE (by omega),mXa (by omega),List.drop_append_of_le_length (by omega),mQT (by omega),mZn,mXk];conv=>rhs;rw[<-mXo p R,mQJ a,(mQB.1 hx).2]
 rfl
structure Bk(R:List Row)(L:List dV)(R0:List Row)(n:Nat):Prop where
 le:n<=L.length
 un:eV (tT R) (L.drop n)=tT R0
def hR:cg:=⟨0,oF,false⟩
def jU:ByteArray:=⟨#[104,101,114,101]⟩
theorem gJt:nI jU=false:=by kernel_rfl
end Go.S
