import Derived.Test.YthnbpiejemlbeaaGreatHA
set_option linter.all false
set_option maxRecDepth 100000
set_option maxHeartbeats 4000000
namespace Go.S
open Go.Sx Go.Proofs
variable {a:Int}{R:List Row}{p:Nat}
def kN(r:Row):Int:=match r with
 |v::_=>v.n
 | []=>0
structure SR(R:List Row):Prop where
 form:∀row∈R,∃a v,row=[⟨2,a,dQ⟩,v]
 gi:R.Pairwise (λx y=>kN x<kN y)
theorem SR.nil:SR []:=⟨io,List.Pairwise.nil⟩
theorem Xe(a b:Int):dA ⟨2,a,dQ⟩ ⟨2,b,dQ⟩=js a b:=by
 grind [dA,Dl,yu,fI,js]
theorem Ph{S:rM}(c:S.key=0)(h:SR R)(a:Int):cU ⟨S,R⟩ ⟨2,a,dQ⟩=R.map λr=>js (kN r) a:=by
 unfold cU;refine kJN (λr d=>?_);obtain⟨b,v,rfl⟩:=h.form r d;rw[show(⟨S,R⟩:bS).S.key=0 from c];have:keyOf 0 [⟨2,b,dQ⟩,v]=⟨2,b,dQ⟩:=by simp[keyOf]
 rw[this,Xe];rfl
theorem xC(a b:Int):js a b<0↔a<b:=by
 grind [js]
theorem iS(a b:Int):js a b=0↔a=b:=by
 grind [js]
theorem LO(a:Int):∀ {R:List Row},R.Pairwise (λx y=>kN x<kN y)->∃p,p<=R.length/\(∀i o,i<p->R[i]? =some o->kN o<a)/\(∀i o,p<=i->R[i]? =some o->a<=kN o)
 | [],_=>⟨0,io,io,io⟩
 |x::r,h=>by
  obtain⟨p,c,e,f⟩:=LO a (List.Pairwise.of_cons h);by_cases hx:kN x<a
  .refine⟨p+1,by simp;exact c,λi o d b=>?_,λi o d b=>?_⟩
   .cases i with
    |zero=>grind
    |succ i=>grind
   grind
  refine⟨0,io,io,λi o _ b=>?_⟩;cases i with
  |zero=>grind
  |succ i=>simp at b;have:=kZS h (kQR b);omega
structure At(R:List Row)(a:Int)(p:Nat):Prop where
 le:p<=R.length
 lo:∀i row,i<p->R[i]? =some row->kN row<a
 hi:∀i row,p<=i->R[i]? =some row->a<=kN row
theorem SR.at_(h:SR R)(a:Int):∃p,At R a p:=by obtain⟨p,b,c,d⟩:=LO a h.gi;exact⟨p,b,c,d⟩
def jO(R:List Row)(a:Int)(p:Nat):Bool:=match R[p]? with
 |some row=>decide (kN row=a)
 |none=>false
theorem At.bs(q:At R a p)(h:SR R){S:rM}(g:S.key=0):dE (cU ⟨S,R⟩ ⟨2,a,dQ⟩)=p/\iC (cU ⟨S,R⟩ ⟨2,a,dQ⟩)=jO R a p:=by
 rw[Ph g h];have get:∀i,i<R.length->∃r,R[i]? =some r/\(R.map λr=>js (kN r) a).getD i 0=js (kN r) a:=λi c=>by
  obtain⟨r,b⟩:=ay c
  grind
 have I:dE (R.map λr=>js (kN r) a)=p:=by
  unfold dE;refine yy _ p (λi c=>?_) 0 _ (λi d f=>?_) (kXH _) (iu q.le)
  .obtain⟨r,b,e⟩:=get i (by have:=q.le;omega);rw[e,xC];exact q.lo i r c b
  obtain⟨r,b,e⟩:=get i (iu f);rw[e,xC];have:=q.hi i r d b;omega
 grind [iC,jO,kN,iS]
theorem SR.sub{a:List Row}(h:SR R)(s:a.Sublist R):SR a:=⟨λr b=>h.form r (s.subset b),h.gi.sublist s⟩
theorem SR.ins(h:SR R){v:jq}(q:At R a p)(n:jO R a p=false):SR (R.take p++[[⟨2,a,dQ⟩,v]]++R.drop p):=by
 have E:∀r∈R.take p,kN r<a:=λr b=>by
  obtain⟨i,d,e⟩:=kXF b;rw[kJI]at d;rw[List.getElem_take]at e;exact q.lo i r ip (by rw[kZG ip,e])
 have Z:∀r∈R.drop p,a<kN r:=λr b=>by
  obtain⟨i,d,e⟩:=kXF b;rw[kJb]at d;rw[List.getElem_drop]at e;have h0:R[p+i]? =some r:=gg
  have g:=q.hi (p+i) r ip h0;rcases kZE i with f|f
  .grind [jO]
  obtain⟨K,u⟩:=cK R p;have j:=q.hi p K (qA _) u;have k:=kJJ.1 h.gi p (p+i) ip ip ip
  grind
 refine⟨λr b=>?_,?_⟩
 .rcases kJj.1 b with b|b
  .rcases kJj.1 b with b|b
   .exact h.form r (kZx b)
   grind
  exact h.form r (kXN b)
 rw[kZk,kZk];refine⟨⟨h.gi.sublist (List.take_sublist _ _),io,λx hx y c=>?_⟩,h.gi.sublist (List.drop_sublist _ _),λx hx y c=>?_⟩
 .simp at c;subst c;exact E x hx
 rcases kJj.1 hx with hx|hx
 .grind
 simp at hx;subst hx;exact Z y c
theorem jv{S:rM}(b:S.key=0)(h:SR R){v:jq}(f:eF S.cols [⟨2,a,dQ⟩,v]=0)(q:At R a p):
 bL ⟨S,R⟩ [⟨2,a,dQ⟩,v]=if jO R a p=true then(⟨S,R⟩,7)else if decide ((R.length:Int)>=200)=true then(⟨S,R⟩,4)else(⟨S,R.take p++[[⟨2,a,dQ⟩,v]]++R.drop p⟩,0):=by
 have k:keyOf S.key [⟨2,a,dQ⟩,v]=⟨2,a,dQ⟩:=by rw[b];simp[keyOf]
 obtain⟨c,d⟩:=q.bs h b;unfold bL;simp only;rw[f,k,c,d];rfl
theorem je{S:rM}(d:S.key=0)(h:SR R)(q:At R a p):
 bE ⟨S,R⟩ ⟨2,a,dQ⟩=if jO R a p=true then(⟨S,R.take p++R.drop (p+1)⟩,(R[p]?).getD [],0)else(⟨S,R⟩,[],2):=by
 obtain⟨b,c⟩:=q.bs h d;unfold bE;rw[b,c];rfl
theorem jg{a:Type}(R:List a)(p:Nat):(R.take p++R.drop (p+1)).Sublist R:=by rw[<-nM];grind
theorem At.filter(h:SR R)(q:At R a p)(k:jO R a p=true):∃r,R[p]? =some r/\kN r=a/\R.filter (λr=>decide (kN r=a))=[r]:=by
 unfold jO at k;cases c:R[p]? with
 |none=>grind
 |some r=>
  rw[c]at k;have g:kN r=a:=kZr k;refine⟨r,rfl,g,?_⟩;have Z:=(HH.1 c).1;have M:R=R.take p++r::R.drop (p+1):=by
   conv=>lhs;rw[<-GD p R]
   rw[kQP Z,(HH.1 c).2]
  have d:(R.take p).filter (λr=>decide (kN r=a))=[]:=by rw[List.filter_eq_nil_iff];intro x hx;obtain⟨i,b,e⟩:=kXF hx;rw[kJI]at b;rw[List.getElem_take]at e;have:=q.lo i x ip (by rw[kZG ip,e]);simp;omega
  have f:(R.drop (p+1)).filter (λr=>decide (kN r=a))=[]:=by
   rw[List.filter_eq_nil_iff];intro x hx;obtain⟨i,b,e⟩:=kXF hx;rw[kJb]at b;rw[List.getElem_drop]at e;have j:=kJJ.1 h.gi p (p+1+i) Z ip ip
   grind
  grind
end Go.S
