import Derived.Test.YtekoaiendgjkdaaGreatHA
set_option linter.unusedVariables false
set_option linter.unusedSimpArgs false
set_option linter.unusedSectionVars false
set_option maxRecDepth 100000
set_option maxHeartbeats 4000000
namespace Go.S
open Go.Sx Go.Proofs
def kN(r:Row):Int:=match r with
 |v::_=>v.n
 | []=>0
structure SR(R:List Row):Prop where
 form:∀row∈R,∃a v,row=[⟨2,a,fQ⟩,v]
 jC:R.Pairwise (fun x y=>kN x<kN y)
theorem SR.nil:SR []:=⟨by simp,List.Pairwise.nil⟩
theorem aQZ(a b:Int):bC ⟨2,a,fQ⟩ ⟨2,b,fQ⟩=eR a b:=by unfold bC;simp only[EA,zJ];unfold fP fP fP fP;by_cases h:eR a b=0<;>simp[h]
theorem Ss{S:FR}(hS:S.key=0){R:List Row}(h:SR R)(a:Int):dA ⟨S,R⟩ ⟨2,a,fQ⟩=R.map fun row=>eR (kN row) a:=by
 unfold dA;refine mXE (fun row hr=>?_);obtain⟨b,v,rfl⟩:=h.form row hr;rw[show(⟨S,R⟩:cW).S.key=0 from hS];have:keyOf 0 [⟨2,b,fQ⟩,v]=⟨2,b,fQ⟩:=by simp[keyOf]
 rw[this,aQZ];rfl
theorem Dg(a b:Int):eR a b<0↔a<b:=by
 unfold eR;by_cases h:a<b
 ·simp[h]
 ·by_cases h2:a>b
  ·simp[h,h2]
  ·simp[h,h2]
theorem zH(a b:Int):eR a b=0↔a=b:=by
 unfold eR;by_cases h:a<b
 ·simp[h];omega
 ·by_cases h2:a>b
  ·simp[h,h2];omega
  ·simp[h,h2];omega
theorem OA(a:Int):∀ {R:List Row},R.Pairwise (fun x y=>kN x<kN y)->∃p,p<=R.length/\(∀i row,i<p->R[i]? =some row->kN row<a)/\(∀i row,p<=i->R[i]? =some row->a<=kN row)
 | [],_=>⟨0,by simp,by simp,by simp⟩
 |x::r,h=>by
  obtain⟨p,h1,h2,h3⟩:=OA a (List.Pairwise.of_cons h);by_cases hx:kN x<a
  ·refine⟨p+1,by simp;exact h1,fun i row hi hr=>?_,fun i row hi hr=>?_⟩
   ·cases i with
    |zero=>simp at hr;rw[<-hr];exact hx
    |succ i=>simp at hr;exact h2 i row (by omega) hr
   ·cases i with
    |zero=>omega
    |succ i=>simp at hr;exact h3 i row (by omega) hr
  ·refine⟨0,by simp,by simp,fun i row _ hr=>?_⟩;cases i with
   |zero=>simp at hr;rw[<-hr];omega
   |succ i=>simp at hr;have:=mJW h (GD hr);omega
structure At(R:List Row)(a:Int)(p:Nat):Prop where
 le:p<=R.length
 lo:∀i row,i<p->R[i]? =some row->kN row<a
 hi:∀i row,p<=i->R[i]? =some row->a<=kN row
theorem SR.at_{R:List Row}(h:SR R)(a:Int):∃p,At R a p:=by obtain⟨p,h1,h2,h3⟩:=OA a h.jC;exact⟨p,h1,h2,h3⟩
def kJ(R:List Row)(a:Int)(p:Nat):Bool:=match R[p]? with
 |some row=>decide (kN row=a)
 |none=>false
theorem At.bs{R:List Row}{a:Int}{p:Nat}(q:At R a p)(h:SR R){S:FR}(hS:S.key=0):di (dA ⟨S,R⟩ ⟨2,a,fQ⟩)=p/\jG (dA ⟨S,R⟩ ⟨2,a,fQ⟩)=kJ R a p:=by
 rw[Ss hS h];have get:∀i,i<R.length->∃row,R[i]? =some row/\(R.map fun row=>eR (kN row) a).getD i 0=eR (kN row) a:=fun i hi=>by
  obtain⟨row,hr⟩:=aE hi;refine⟨row,hr,?_⟩;rw[mXv,mQU,hr];rfl
 have hI:di (R.map fun row=>eR (kN row) a)=p:=by
  unfold di;refine Dn _ p (fun i hi=>?_) 0 _ (fun i h1 h2=>?_) (mQr _) (by simpa using q.le)
  ·obtain⟨row,hr,e⟩:=get i (by have:=q.le;omega);rw[e,Dg];exact q.lo i row hi hr
  ·obtain⟨row,hr,e⟩:=get i (by simpa using h2);rw[e,Dg];have:=q.hi i row h1 hr;omega
 refine⟨hI,?_⟩;unfold jG;rw[hI];unfold kJ;cases hr:R[p]? with
 |none=>have:R.length<=p:=mKT.1 hr;simp;intro h1;omega
 |some row=>
  have aP:=(HH.1 hr).1;obtain⟨OM,uj,e⟩:=get p aP;rw[hr]at uj;cases uj;rw[e];simp only[mQz];by_cases hk:kN row=a
  ·rw[kS hk];exact kS ⟨aP,(zH _ _).2 hk⟩
  ·rw[nM hk];exact nM (fun h=>hk ((zH _ _).1 h.2))
theorem SR.sub{R R':List Row}(h:SR R)(s:R'.Sublist R):SR R':=⟨fun row hr=>h.form row (s.subset hr),h.jC.sublist s⟩
theorem SR.ins{R:List Row}(h:SR R){a:Int}{v:cO}{p:Nat}(q:At R a p)(hn:kJ R a p=false):SR (R.take p++[[⟨2,a,fQ⟩,v]]++R.drop p):=by
 have FI:∀row∈R.take p,kN row<a:=fun row hr=>by
  obtain⟨i,hi,he⟩:=mZH hr;rw[mQw]at hi;rw[List.getElem_take]at he;exact q.lo i row (by omega) (by rw[mXJ (by omega),he])
 have cKt:∀row∈R.drop p,a<kN row:=fun row hr=>by
  obtain⟨i,hi,he⟩:=mZH hr;rw[mQX]at hi;rw[List.getElem_drop]at he;have h0:R[p+i]? =some row:=by rw[mXJ (by omega),he]
  have h1:=q.hi (p+i) row (by omega) h0;rcases mXw i with h2|h2
  ·subst h2;unfold kJ at hn;rw[mZT]at h0;rw[h0]at hn;have:=mQI hn;omega
  ·obtain⟨dXS,rZ⟩:=aE (xs:=R) (i:=p) (by omega);have h3:=q.hi p dXS (mQt _) rZ;have h4:=mQN.1 h.jC p (p+i) (by omega) (by omega) (by omega);rw[(HH.1 rZ).2,(HH.1 h0).2]at h4;omega
 refine⟨fun row hr=>?_,?_⟩
 ·rcases mQv.1 hr with hr|hr
  ·rcases mQv.1 hr with hr|hr
   ·exact h.form row (mXN hr)
   ·simp at hr;exact⟨a,v,hr⟩
  ·exact h.form row (mXU hr)
 ·rw[mXe,mXe];refine⟨⟨h.jC.sublist (List.take_sublist _ _),by simp,fun x hx y hy=>?_⟩,h.jC.sublist (List.drop_sublist _ _),fun x hx y hy=>?_⟩
  ·simp at hy;subst hy;exact FI x hx
  ·rcases mQv.1 hx with hx|hx
   ·have:=FI x hx;have:=cKt y hy;omega
   ·simp at hx;subst hx;exact cKt y hy
theorem mJ{S:FR}(hS:S.key=0){R:List Row}(h:SR R){a:Int}{v:cO}(hf:dg S.cols [⟨2,a,fQ⟩,v]=0){p:Nat}(q:At R a p):
 bK ⟨S,R⟩ [⟨2,a,fQ⟩,v]=if kJ R a p=true then(⟨S,R⟩,7)else if decide ((R.length:Int)>=200)=true then(⟨S,R⟩,4)else(⟨S,R.take p++[[⟨2,a,fQ⟩,v]]++R.drop p⟩,0):=by
 have hk:keyOf S.key [⟨2,a,fQ⟩,v]=⟨2,a,fQ⟩:=by rw[hS];simp[keyOf]
 obtain⟨b1,b2⟩:=q.bs h hS;unfold bK;simp only;rw[hf,hk,b1,b2];rfl
theorem km{S:FR}(hS:S.key=0){R:List Row}(h:SR R){a:Int}{p:Nat}(q:At R a p):
 bH ⟨S,R⟩ ⟨2,a,fQ⟩=if kJ R a p=true then(⟨S,R.take p++R.drop (p+1)⟩,(R[p]?).getD [],0)else(⟨S,R⟩,[],2):=by
 obtain⟨b1,b2⟩:=q.bs h hS;unfold bH;rw[b1,b2];rfl
theorem lS{α:Type}(R:List α)(p:Nat):(R.take p++R.drop (p+1)).Sublist R:=by rw[<-mZL];exact mJV _ _
end Go.S
