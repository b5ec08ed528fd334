import Derived.Test.YthnbpiejemlbeaaGreatHA
set_option linter.all false
set_option maxRecDepth 100000
set_option maxHeartbeats 4000000
namespace Go.S
open Go.Sx Go.Proofs
variable {a:Int}{R:List Row}{p:Nat}
def kN(r:Row):Int:=match r with
 |v::_=>v.n
 | []=>0
structure SR(R:List Row):Prop where
 form:∀row∈R,∃a v,row=[⟨2,a,dM⟩,v]
 gz:R.Pairwise (λx y=>kN x<kN y)
theorem SR.nil:SR []:=⟨by simp,List.Pairwise.nil⟩
theorem Rh(a b:Int):cG ⟨2,a,dM⟩ ⟨2,b,dM⟩=gY a b:=by unfold cG;simp only[zy,ue];unfold dX dX dX dX;by_cases h:gY a b=0<;>simp[h]
theorem Kf{S:rV}(c:S.key=0)(h:SR R)(a:Int):bS ⟨S,R⟩ ⟨2,a,dM⟩=R.map λr=>gY (kN r) a:=by
 unfold bS;refine List.map_congr_left (λr d=>?_);obtain⟨b,v,rfl⟩:=h.form r d;rw[show(⟨S,R⟩:bJ).S.key=0 from c];have:keyOf 0 [⟨2,b,dM⟩,v]=⟨2,b,dM⟩:=by simp[keyOf]
 rw[this,Rh];rfl
theorem tu(a b:Int):gY a b<0↔a<b:=by
 unfold gY;by_cases h:a<b
 .simp[h]
 by_cases c:a>b
 .simp[h,c]
 simp[h,c]
theorem gq(a b:Int):gY a b=0↔a=b:=by
 unfold gY;by_cases h:a<b
 .simp[h];omega
 by_cases c:a>b
 .simp[h,c];omega
 simp[h,c];omega
theorem Hx(a:Int):∀ {R:List Row},R.Pairwise (λx y=>kN x<kN y)->∃p,p<=R.length/\(∀i o,i<p->R[i]? =some o->kN o<a)/\(∀i o,p<=i->R[i]? =some o->a<=kN o)
 | [],_=>⟨0,by simp,by simp,by simp⟩
 |x::r,h=>by
  obtain⟨p,c,d,e⟩:=Hx a (List.Pairwise.of_cons h);by_cases hx:kN x<a
  .refine⟨p+1,by simp;exact c,λi o f b=>?_,λi o f b=>?_⟩
   .cases i with
    |zero=>simp at b;rw[<-b];exact hx
    |succ i=>simp at b;exact d i o (by omega) b
   cases i with
   |zero=>omega
   |succ i=>simp at b;exact e i o (by omega) b
  refine⟨0,by simp,by simp,λi o _ b=>?_⟩;cases i with
  |zero=>simp at b;rw[<-b];omega
  |succ i=>simp at b;have:=List.rel_of_pairwise_cons h (List.mem_of_getElem? b);omega
structure At(R:List Row)(a:Int)(p:Nat):Prop where
 le:p<=R.length
 lo:∀i row,i<p->R[i]? =some row->kN row<a
 hi:∀i row,p<=i->R[i]? =some row->a<=kN row
theorem SR.at_(h:SR R)(a:Int):∃p,At R a p:=by obtain⟨p,b,c,d⟩:=Hx a h.gz;exact⟨p,b,c,d⟩
def iQ(R:List Row)(a:Int)(p:Nat):Bool:=match R[p]? with
 |some row=>decide (kN row=a)
 |none=>false
theorem At.bs(q:At R a p)(h:SR R){S:rV}(g:S.key=0):cR (bS ⟨S,R⟩ ⟨2,a,dM⟩)=p/\gZ (bS ⟨S,R⟩ ⟨2,a,dM⟩)=iQ R a p:=by
 rw[Kf g h];have get:∀i,i<R.length->∃r,R[i]? =some r/\(R.map λr=>gY (kN r) a).getD i 0=gY (kN r) a:=λi c=>by
  obtain⟨r,b⟩:=ax c;refine⟨r,b,?_⟩;rw[List.getD_eq_getElem?_getD,List.getElem?_map,b];rfl
 have I:cR (R.map λr=>gY (kN r) a)=p:=by
  unfold cR;refine ui _ p (λi c=>?_) 0 _ (λi d f=>?_) (Nat.zero_le _) (by simpa using q.le)
  .obtain⟨r,b,e⟩:=get i (by have:=q.le;omega);rw[e,tu];exact q.lo i r c b
  obtain⟨r,b,e⟩:=get i (by simpa using f);rw[e,tu];have:=q.hi i r d b;omega
 refine⟨I,?_⟩;unfold gZ;rw[I];unfold iQ;cases b:R[p]? with
 |none=>have:R.length<=p:=List.getElem?_eq_none_iff.1 b;simp;intro d;omega
 |some r=>
  have F:=(List.getElem?_eq_some_iff.1 b).1;obtain⟨H,w,e⟩:=get p F;rw[b]at w;cases w;rw[e];simp only[List.length_map];by_cases k:kN r=a
  .rw[decide_eq_true k];exact decide_eq_true ⟨F,(gq _ _).2 k⟩
  rw[decide_eq_false k];exact decide_eq_false (λh=>k ((gq _ _).1 h.2))
theorem SR.ins(h:SR R){v:gV}(q:At R a p)(n:iQ R a p=false):SR (R.take p++[[⟨2,a,dM⟩,v]]++R.drop p):=by
 have K:∀r∈R.take p,kN r<a:=λr b=>by
  obtain⟨i,d,e⟩:=List.getElem_of_mem b;rw[List.length_take]at d;rw[List.getElem_take]at e;exact q.lo i r (by omega) (by rw[List.getElem?_eq_getElem (by omega),e])
 have Z:∀r∈R.drop p,a<kN r:=λr b=>by
  obtain⟨i,d,e⟩:=List.getElem_of_mem b;rw[List.length_drop]at d;rw[List.getElem_drop]at e;have h0:R[p+i]? =some r:=by rw[List.getElem?_eq_getElem (by omega),e]
  have j:=q.hi (p+i) r (by omega) h0;rcases Nat.eq_zero_or_pos i with f|f
  .subst f;unfold iQ at n;rw[Nat.add_zero]at h0;rw[h0]at n;have:=of_decide_eq_false n;omega
  obtain⟨J,s⟩:=bn R p;have k:=q.hi p J (Nat.le_refl _) s;have g:=List.pairwise_iff_getElem.1 h.gz p (p+i) (by omega) (by omega) (by omega);rw[(List.getElem?_eq_some_iff.1 s).2,(List.getElem?_eq_some_iff.1 h0).2]at g;omega
 refine⟨λr b=>?_,?_⟩
 .rcases List.mem_append.1 b with b|b
  .rcases List.mem_append.1 b with b|b
   .exact h.form r (List.mem_of_mem_take b)
   simp at b;exact⟨a,v,b⟩
  exact h.form r (List.mem_of_mem_drop b)
 rw[List.pairwise_append,List.pairwise_append];refine⟨⟨h.gz.sublist (List.take_sublist _ _),by simp,λx hx y c=>?_⟩,h.gz.sublist (List.drop_sublist _ _),λx hx y c=>?_⟩
 .simp at c;subst c;exact K x hx
 rcases List.mem_append.1 hx with hx|hx
 .have:=K x hx;have:=Z y c;omega
 simp at hx;subst hx;exact Z y c
theorem jv{S:rV}(b:S.key=0)(h:SR R){v:gV}(f:dx S.cols [⟨2,a,dM⟩,v]=0)(q:At R a p):
 bm ⟨S,R⟩ [⟨2,a,dM⟩,v]=if iQ R a p=true then(⟨S,R⟩,7)else if decide ((R.length:Int)>=200)=true then(⟨S,R⟩,4)else(⟨S,R.take p++[[⟨2,a,dM⟩,v]]++R.drop p⟩,0):=by
 have k:keyOf S.key [⟨2,a,dM⟩,v]=⟨2,a,dM⟩:=by rw[b];simp[keyOf]
 obtain⟨c,d⟩:=q.bs h b;unfold bm;simp only;rw[f,k,c,d];rfl
theorem ja{S:rV}(d:S.key=0)(h:SR R)(q:At R a p):
 aY ⟨S,R⟩ ⟨2,a,dM⟩=if iQ R a p=true then(⟨S,R.take p++R.drop (p+1)⟩,(R[p]?).getD [],0)else(⟨S,R⟩,[],2):=by
 obtain⟨b,c⟩:=q.bs h d;unfold aY;rw[b,c];rfl
end Go.S
