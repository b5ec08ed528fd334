import Derived.Test.YthnbpiejemlbeaaGreatHA
set_option linter.all false
set_option maxRecDepth 100000
set_option maxHeartbeats 4000000
namespace Go.S
open Go.Sx Go.Proofs
variable {a:Int}{R:List Row}{p:Nat}
def kN(r:Row):Int:=match r with
 |v::_=>v.n
 | []=>0
structure SR(R:List Row):Prop where
 form:∀row∈R,∃a v,row=[⟨2,a,dZ⟩,v]
 gL:R.Pairwise (λx y=>kN x<kN y)
theorem SR.nil:SR []:=⟨by simp,List.Pairwise.nil⟩
theorem Vy(a b:Int):dg ⟨2,a,dZ⟩ ⟨2,b,dZ⟩=jc a b:=by unfold dg;simp only[Cz,xH];unfold fk fk fk fk;by_cases h:jc a b=0<;>simp[h]
theorem NO{S:tE}(c:S.key=0)(h:SR R)(a:Int):cM ⟨S,R⟩ ⟨2,a,dZ⟩=R.map λr=>jc (kN r) a:=by
 unfold cM;refine jKZ (λr d=>?_);obtain⟨b,v,rfl⟩:=h.form r d;rw[show(⟨S,R⟩:ca).S.key=0 from c];have:keyOf 0 [⟨2,b,dZ⟩,v]=⟨2,b,dZ⟩:=by simp[keyOf]
 rw[this,Vy];rfl
theorem wI(a b:Int):jc a b<0↔a<b:=by
 unfold jc;by_cases h:a<b
 .simp[h]
 by_cases c:a>b
 .simp[h,c]
 simp[h,c]
theorem iI(a b:Int):jc a b=0↔a=b:=by
 unfold jc;by_cases h:a<b
 .simp[h];omega
 by_cases c:a>b
 .simp[h,c];omega
 simp[h,c];omega
theorem KK(a:Int):∀ {R:List Row},R.Pairwise (λx y=>kN x<kN y)->∃p,p<=R.length/\(∀i o,i<p->R[i]? =some o->kN o<a)/\(∀i o,p<=i->R[i]? =some o->a<=kN o)
 | [],_=>⟨0,by simp,by simp,by simp⟩
 |x::r,h=>by
  obtain⟨p,c,d,e⟩:=KK a (List.Pairwise.of_cons h);by_cases hx:kN x<a
  .refine⟨p+1,by simp;exact c,λi o f b=>?_,λi o f b=>?_⟩
   .cases i with
    |zero=>simp at b;rw[<-b];exact hx
    |succ i=>simp at b;exact d i o (by omega) b
   cases i with
   |zero=>omega
   |succ i=>simp at b;exact e i o (by omega) b
  refine⟨0,by simp,by simp,λi o _ b=>?_⟩;cases i with
  |zero=>simp at b;rw[<-b];omega
  |succ i=>simp at b;have:=kXA h (cK b);omega
structure At(R:List Row)(a:Int)(p:Nat):Prop where
 le:p<=R.length
 lo:∀i row,i<p->R[i]? =some row->kN row<a
 hi:∀i row,p<=i->R[i]? =some row->a<=kN row
theorem SR.at_(h:SR R)(a:Int):∃p,At R a p:=by obtain⟨p,b,c,d⟩:=KK a h.gL;exact⟨p,b,c,d⟩
def jM(R:List Row)(a:Int)(p:Nat):Bool:=match R[p]? with
 |some row=>decide (kN row=a)
 |none=>false
theorem At.bs(q:At R a p)(h:SR R){S:tE}(g:S.key=0):dC (cM ⟨S,R⟩ ⟨2,a,dZ⟩)=p/\iQ (cM ⟨S,R⟩ ⟨2,a,dZ⟩)=jM R a p:=by
 rw[NO g h];have get:∀i,i<R.length->∃r,R[i]? =some r/\(R.map λr=>jc (kN r) a).getD i 0=jc (kN r) a:=λi c=>by
  obtain⟨r,b⟩:=aJ c;refine⟨r,b,?_⟩;rw[yz,kS,b];rfl
 have I:dC (R.map λr=>jc (kN r) a)=p:=by
  unfold dC;refine xJ _ p (λi c=>?_) 0 _ (λi d f=>?_) (nr _) (by simpa using q.le)
  .obtain⟨r,b,e⟩:=get i (by have:=q.le;omega);rw[e,wI];exact q.lo i r c b
  obtain⟨r,b,e⟩:=get i (by simpa using f);rw[e,wI];have:=q.hi i r d b;omega
 refine⟨I,?_⟩;unfold iQ;rw[I];unfold jM;cases b:R[p]? with
 |none=>have:R.length<=p:=kXU.1 b;simp;intro d;omega
 |some r=>
  have U:=(ff.1 b).1;obtain⟨L,A,e⟩:=get p U;rw[b]at A;cases A;rw[e];simp only[vi];by_cases k:kN r=a
  .rw[ak k];exact ak ⟨U,(iI _ _).2 k⟩
  rw[bn k];exact bn (λh=>k ((iI _ _).1 h.2))
theorem SR.sub{a:List Row}(h:SR R)(s:a.Sublist R):SR a:=⟨λr b=>h.form r (s.subset b),h.gL.sublist s⟩
theorem SR.ins(h:SR R){v:jd}(q:At R a p)(n:jM R a p=false):SR (R.take p++[[⟨2,a,dZ⟩,v]]++R.drop p):=by
 have D:∀r∈R.take p,kN r<a:=λr b=>by
  obtain⟨i,d,e⟩:=kQy b;rw[eA]at d;rw[List.getElem_take]at e;exact q.lo i r (by omega) (by rw[zG (by omega),e])
 have X:∀r∈R.drop p,a<kN r:=λr b=>by
  obtain⟨i,d,e⟩:=kQy b;rw[iz]at d;rw[List.getElem_drop]at e;have h0:R[p+i]? =some r:=by rw[zG (by omega),e]
  have j:=q.hi (p+i) r (by omega) h0;rcases jKj i with f|f
  .subst f;unfold jM at n;rw[kQt]at h0;rw[h0]at n;have:=kz n;omega
  obtain⟨J,t⟩:=cB R p;have k:=q.hi p J (kB _) t;have g:=wL.1 h.gL p (p+i) (by omega) (by omega) (by omega);rw[(ff.1 t).2,(ff.1 h0).2]at g;omega
 refine⟨λr b=>?_,?_⟩
 .rcases wy.1 b with b|b
  .rcases wy.1 b with b|b
   .exact h.form r (jKk b)
   simp at b;exact⟨a,v,b⟩
  exact h.form r (jKd b)
 rw[jKE,jKE];refine⟨⟨h.gL.sublist (List.take_sublist _ _),by simp,λx hx y c=>?_⟩,h.gL.sublist (List.drop_sublist _ _),λx hx y c=>?_⟩
 .simp at c;subst c;exact D x hx
 rcases wy.1 hx with hx|hx
 .have:=D x hx;have:=X y c;omega
 simp at hx;subst hx;exact X y c
theorem kU{S:tE}(b:S.key=0)(h:SR R){v:jd}(f:eF S.bB [⟨2,a,dZ⟩,v]=0)(q:At R a p):
 bK ⟨S,R⟩ [⟨2,a,dZ⟩,v]=if jM R a p=true then(⟨S,R⟩,7)else if decide ((R.length:Int)>=200)=true then(⟨S,R⟩,4)else(⟨S,R.take p++[[⟨2,a,dZ⟩,v]]++R.drop p⟩,0):=by
 have k:keyOf S.key [⟨2,a,dZ⟩,v]=⟨2,a,dZ⟩:=by rw[b];simp[keyOf]
 obtain⟨c,d⟩:=q.bs h b;unfold bK;simp only;rw[f,k,c,d];rfl
theorem kf{S:tE}(d:S.key=0)(h:SR R)(q:At R a p):
 bE ⟨S,R⟩ ⟨2,a,dZ⟩=if jM R a p=true then(⟨S,R.take p++R.drop (p+1)⟩,(R[p]?).getD [],0)else(⟨S,R⟩,[],2):=by
 obtain⟨b,c⟩:=q.bs h d;unfold bE;rw[b,c];rfl
theorem jG{a:Type}(R:List a)(p:Nat):(R.take p++R.drop (p+1)).Sublist R:=by rw[<-jKM];exact kQO _ _
end Go.S
