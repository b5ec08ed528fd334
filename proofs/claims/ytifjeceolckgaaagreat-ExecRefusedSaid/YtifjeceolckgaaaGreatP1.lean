import Derived.Test.YtifjeceolckgaaaGreatHA
set_option linter.all false
set_option maxRecDepth 100000
set_option maxHeartbeats 4000000
namespace Go.S
open Go.Sx Go.Proofs
variable {a:Int}{R:List Row}{p:Nat}
def kN(r:Row):Int:=match r with
 |v::_=>v.n
 | []=>0
structure SR(R:List Row):Prop where
 form:∀row∈R,∃a v,row=[⟨2,a,fQ⟩,v]
 jC:R.Pairwise (λx y=>kN x<kN y)
theorem SR.nil:SR []:=⟨by simp,List.Pairwise.nil⟩
theorem aQZ(a b:Int):bC ⟨2,a,fQ⟩ ⟨2,b,fQ⟩=eR a b:=by unfold bC;simp only[EA,zJ];unfold fP fP fP fP;by_cases h:eR a b=0<;>simp[h]
theorem Ss{S:FR}(c:S.key=0)(h:SR R)(a:Int):dA ⟨S,R⟩ ⟨2,a,fQ⟩=R.map λr=>eR (kN r) a:=by
 unfold dA;refine mZv (λr d=>?_);obtain⟨b,v,rfl⟩:=h.form r d;rw[show(⟨S,R⟩:cW).S.key=0 from c];have:keyOf 0 [⟨2,b,fQ⟩,v]=⟨2,b,fQ⟩:=by simp[keyOf]
 rw[this,aQZ];rfl
theorem Dg(a b:Int):eR a b<0↔a<b:=by
 unfold eR;by_cases h:a<b
 .simp[h]
 by_cases c:a>b
 .simp[h,c]
 simp[h,c]
theorem zH(a b:Int):eR a b=0↔a=b:=by
 unfold eR;by_cases h:a<b
 .simp[h];omega
 by_cases c:a>b
 .simp[h,c];omega
 simp[h,c];omega
theorem OA(a:Int):∀ {R:List Row},R.Pairwise (λx y=>kN x<kN y)->∃p,p<=R.length/\(∀i o,i<p->R[i]? =some o->kN o<a)/\(∀i o,p<=i->R[i]? =some o->a<=kN o)
 | [],_=>⟨0,by simp,by simp,by simp⟩
 |x::r,h=>by
  obtain⟨p,c,d,e⟩:=OA a (List.Pairwise.of_cons h);by_cases hx:kN x<a
  .refine⟨p+1,by simp;exact c,λi o f b=>?_,λi o f b=>?_⟩
   .cases i with
    |zero=>simp at b;rw[<-b];exact hx
    |succ i=>simp at b;exact d i o (by omega) b
   cases i with
   |zero=>omega
   |succ i=>simp at b;exact e i o (by omega) b
  refine⟨0,by simp,by simp,λi o _ b=>?_⟩;cases i with
  |zero=>simp at b;rw[<-b];omega
  |succ i=>simp at b;have:=mKt h (mQz b);omega
structure At(R:List Row)(a:Int)(p:Nat):Prop where
 le:p<=R.length
 lo:∀i row,i<p->R[i]? =some row->kN row<a
 hi:∀i row,p<=i->R[i]? =some row->a<=kN row
theorem SR.at_(h:SR R)(a:Int):∃p,At R a p:=by obtain⟨p,b,c,d⟩:=OA a h.jC;exact⟨p,b,c,d⟩
def kJ(R:List Row)(a:Int)(p:Nat):Bool:=match R[p]? with
 |some row=>decide (kN row=a)
 |none=>false
theorem At.bs(q:At R a p)(h:SR R){S:FR}(g:S.key=0):di (dA ⟨S,R⟩ ⟨2,a,fQ⟩)=p/\jG (dA ⟨S,R⟩ ⟨2,a,fQ⟩)=kJ R a p:=by
 rw[Ss g h];have get:∀i,i<R.length->∃r,R[i]? =some r/\(R.map λr=>eR (kN r) a).getD i 0=eR (kN r) a:=λi c=>by
  obtain⟨r,b⟩:=aE c;refine⟨r,b,?_⟩;rw[mXE,mXe,b];rfl
 have I:di (R.map λr=>eR (kN r) a)=p:=by
  unfold di;refine Dn _ p (λi c=>?_) 0 _ (λi d f=>?_) (mQC _) (by simpa using q.le)
  .obtain⟨r,b,e⟩:=get i (by have:=q.le;omega);rw[e,Dg];exact q.lo i r c b
  obtain⟨r,b,e⟩:=get i (by simpa using f);rw[e,Dg];have:=q.hi i r d b;omega
 refine⟨I,?_⟩;unfold jG;rw[I];unfold kJ;cases b:R[p]? with
 |none=>have:R.length<=p:=nQJ.1 b;simp;intro d;omega
 |some r=>
  have P:=(mQB.1 b).1;obtain⟨O,u,e⟩:=get p P;rw[b]at u;cases u;rw[e];simp only[mQN];by_cases k:kN r=a
  .rw[mQu k];exact mQu ⟨P,(zH _ _).2 k⟩
  rw[mQv k];exact mQv (λh=>k ((zH _ _).1 h.2))
theorem SR.sub{a:List Row}(h:SR R)(s:a.Sublist R):SR a:=⟨λr b=>h.form r (s.subset b),h.jC.sublist s⟩
theorem SR.ins(h:SR R){v:cO}(q:At R a p)(n:kJ R a p=false):SR (R.take p++[[⟨2,a,fQ⟩,v]]++R.drop p):=by
 have F:∀r∈R.take p,kN r<a:=λr b=>by
  obtain⟨i,f,e⟩:=mZl b;rw[mQK]at f;rw[List.getElem_take]at e;exact q.lo i r (by omega) (by rw[mXP (by omega),e])
 have c:∀r∈R.drop p,a<kN r:=λr b=>by
  obtain⟨i,f,e⟩:=mZl b;rw[mXg]at f;rw[List.getElem_drop]at e;have h0:R[p+i]? =some r:=by rw[mXP (by omega),e]
  have k:=q.hi (p+i) r (by omega) h0;rcases mXI i with g|g
  .subst g;unfold kJ at n;rw[mJr]at h0;rw[h0]at n;have:=mQO n;omega
  obtain⟨X,Z⟩:=mQA R p;have l:=q.hi p X (mQD _) Z;have j:=mQZ.1 h.jC p (p+i) (by omega) (by omega) (by omega);rw[(mQB.1 Z).2,(mQB.1 h0).2]at j;omega
 refine⟨λr b=>?_,?_⟩
 .rcases mQE.1 b with b|b
  .rcases mQE.1 b with b|b
   .exact h.form r (mXF b)
   simp at b;exact⟨a,v,b⟩
  exact h.form r (mXZ b)
 rw[mXw,mXw];refine⟨⟨h.jC.sublist (List.take_sublist _ _),by simp,λx hx y d=>?_⟩,h.jC.sublist (List.drop_sublist _ _),λx hx y d=>?_⟩
 .simp at d;subst d;exact F x hx
 rcases mQE.1 hx with hx|hx
 .have:=F x hx;have:=c y d;omega
 simp at hx;subst hx;exact c y d
theorem mJ{S:FR}(b:S.key=0)(h:SR R){v:cO}(f:dg S.cols [⟨2,a,fQ⟩,v]=0)(q:At R a p):
 bK ⟨S,R⟩ [⟨2,a,fQ⟩,v]=if kJ R a p=true then(⟨S,R⟩,7)else if decide ((R.length:Int)>=200)=true then(⟨S,R⟩,4)else(⟨S,R.take p++[[⟨2,a,fQ⟩,v]]++R.drop p⟩,0):=by
 have k:keyOf S.key [⟨2,a,fQ⟩,v]=⟨2,a,fQ⟩:=by rw[b];simp[keyOf]
 obtain⟨c,d⟩:=q.bs h b;unfold bK;simp only;rw[f,k,c,d];rfl
theorem km{S:FR}(d:S.key=0)(h:SR R)(q:At R a p):
 bH ⟨S,R⟩ ⟨2,a,fQ⟩=if kJ R a p=true then(⟨S,R.take p++R.drop (p+1)⟩,(R[p]?).getD [],0)else(⟨S,R⟩,[],2):=by
 obtain⟨b,c⟩:=q.bs h d;unfold bH;rw[b,c];rfl
theorem lS{a:Type}(R:List a)(p:Nat):(R.take p++R.drop (p+1)).Sublist R:=by rw[<-mJg];exact mKs _ _
theorem At.filter(h:SR R)(q:At R a p)(k:kJ R a p=true):∃r,R[p]? =some r/\kN r=a/\R.filter (λr=>decide (kN r=a))=[r]:=by
 unfold kJ at k;cases b:R[p]? with
 |none=>rw[b]at k;cases k
 |some r=>
  rw[b]at k;have X:kN r=a:=mQL k;refine⟨r,rfl,X,?_⟩;have P:=(mQB.1 b).1;have M:R=R.take p++r::R.drop (p+1):=by
   conv=>lhs;rw[<-mXo p R]
   rw[mQJ P,(mQB.1 b).2]
  have d:(R.take p).filter (λr=>decide (kN r=a))=[]:=by rw[List.filter_eq_nil_iff];intro x hx;obtain⟨i,c,e⟩:=mZl hx;rw[mQK]at c;rw[List.getElem_take]at e;have:=q.lo i x (by omega) (by rw[mXP (by omega),e]);simp;omega
  have f:(R.drop (p+1)).filter (λr=>decide (kN r=a))=[]:=by rw[List.filter_eq_nil_iff];intro x hx;obtain⟨i,c,e⟩:=mZl hx;rw[mXg]at c;rw[List.getElem_drop]at e;have g:=mQZ.1 h.jC p (p+1+i) P (by omega) (by omega);rw[(mQB.1 b).2,e]at g;simp;omega
  rw[M,mZq,nQI,d,f,mQu X];rfl
end Go.S
