import Derived.Test.YtekoaiendgjkdaaGreatHA
set_option linter.unusedVariables false
set_option linter.unusedSimpArgs false
set_option linter.unusedSectionVars false
set_option maxRecDepth 100000
set_option maxHeartbeats 4000000
namespace Go.S
open Go.Sx Go.Proofs
def kN(r:Row):Int:=match r with
 |v::_=>v.n
 | []=>0
structure SR(R:List Row):Prop where
 form:∀row∈R,∃a v,row=[⟨2,a,pJ⟩,v]
 pH:R.Pairwise (fun x y=>kN x<kN y)
theorem SR.nil:SR []:=⟨by simp,List.Pairwise.nil⟩
theorem IT(a b:Int):ch ⟨2,a,pJ⟩ ⟨2,b,pJ⟩=iC a b:=by unfold ch;simp only[yQ,th];unfold dC dC dC dC;by_cases h:iC a b=0<;>simp[h]
theorem Dm{S:AU}(hS:S.key=0){R:List Row}(h:SR R)(a:Int):cM ⟨S,R⟩ ⟨2,a,pJ⟩=R.map fun row=>iC (kN row) a:=by
 unfold cM;refine List.map_congr_left (fun row hr=>?_);obtain⟨b,v,rfl⟩:=h.form row hr;rw[show(⟨S,R⟩:cE).S.key=0 from hS];have:keyOf 0 [⟨2,b,pJ⟩,v]=⟨2,b,pJ⟩:=by simp[keyOf]
 rw[this,IT];rfl
theorem Cp(a b:Int):iC a b<0↔a<b:=by
 unfold iC;by_cases h:a<b
 ·simp[h]
 ·by_cases h2:a>b
  ·simp[h,h2]
  ·simp[h,h2]
theorem yP(a b:Int):iC a b=0↔a=b:=by
 unfold iC;by_cases h:a<b
 ·simp[h];omega
 ·by_cases h2:a>b
  ·simp[h,h2];omega
  ·simp[h,h2];omega
theorem Bc(a:Int):∀ {R:List Row},R.Pairwise (fun x y=>kN x<kN y)->∃p,p<=R.length/\(∀i row,i<p->R[i]? =some row->kN row<a)/\(∀i row,p<=i->R[i]? =some row->a<=kN row)
 | [],_=>⟨0,by simp,by simp,by simp⟩
 |x::r,h=>by
  obtain⟨p,h1,h2,h3⟩:=Bc a (List.Pairwise.of_cons h);by_cases hx:kN x<a
  ·refine⟨p+1,by simp;exact h1,fun i row hi hr=>?_,fun i row hi hr=>?_⟩
   ·cases i with
    |zero=>simp at hr;rw[<-hr];exact hx
    |succ i=>simp at hr;exact h2 i row (by omega) hr
   ·cases i with
    |zero=>omega
    |succ i=>simp at hr;exact h3 i row (by omega) hr
  ·refine⟨0,by simp,by simp,fun i row _ hr=>?_⟩;cases i with
   |zero=>simp at hr;rw[<-hr];omega
   |succ i=>simp at hr;have:=List.rel_of_pairwise_cons h (List.mem_of_getElem? hr);omega
structure At(R:List Row)(a:Int)(p:Nat):Prop where
 le:p<=R.length
 lo:∀i row,i<p->R[i]? =some row->kN row<a
 hi:∀i row,p<=i->R[i]? =some row->a<=kN row
theorem SR.at_{R:List Row}(h:SR R)(a:Int):∃p,At R a p:=by obtain⟨p,h1,h2,h3⟩:=Bc a h.pH;exact⟨p,h1,h2,h3⟩
def B0(R:List Row)(a:Int)(p:Nat):Bool:=match R[p]? with
 |some row=>decide (kN row=a)
 |none=>false
theorem At.bs{R:List Row}{a:Int}{p:Nat}(q:At R a p)(h:SR R){S:AU}(hS:S.key=0):dr (cM ⟨S,R⟩ ⟨2,a,pJ⟩)=p/\lK (cM ⟨S,R⟩ ⟨2,a,pJ⟩)=B0 R a p:=by
 rw[Dm hS h];have get:∀i,i<R.length->∃row,R[i]? =some row/\(R.map fun row=>iC (kN row) a).getD i 0=iC (kN row) a:=fun i hi=>by
  obtain⟨row,hr⟩:=aI hi;refine⟨row,hr,?_⟩;rw[List.getD_eq_getElem?_getD,List.getElem?_map,hr];rfl
 have hI:dr (R.map fun row=>iC (kN row) a)=p:=by
  unfold dr;refine Ay _ p (fun i hi=>?_) 0 _ (fun i h1 h2=>?_) (Nat.zero_le _) (by simpa using q.le)
  ·obtain⟨row,hr,e⟩:=get i (by have:=q.le;omega);rw[e,Cp];exact q.lo i row hi hr
  ·obtain⟨row,hr,e⟩:=get i (by simpa using h2);rw[e,Cp];have:=q.hi i row h1 hr;omega
 refine⟨hI,?_⟩;unfold lK;rw[hI];unfold B0;cases hr:R[p]? with
 |none=>have:R.length<=p:=List.getElem?_eq_none_iff.1 hr;simp;intro h1;omega
 |some row=>
  have aK:=(List.getElem?_eq_some_iff.1 hr).1;obtain⟨row',xA,e⟩:=get p aK;rw[hr]at xA;cases xA;rw[e];simp only[List.length_map];by_cases hk:kN row=a
  ·rw[decide_eq_true hk];exact decide_eq_true ⟨aK,(yP _ _).2 hk⟩
  ·rw[decide_eq_false hk];exact decide_eq_false (fun h=>hk ((yP _ _).1 h.2))
theorem SR.sub{R R':List Row}(h:SR R)(s:R'.Sublist R):SR R':=⟨fun row hr=>h.form row (s.subset hr),h.pH.sublist s⟩
theorem SR.ins{R:List Row}(h:SR R){a:Int}{v:dg}{p:Nat}(q:At R a p)(hn:B0 R a p=false):SR (R.take p++[[⟨2,a,pJ⟩,v]]++R.drop p):=by
 have D5:∀row∈R.take p,kN row<a:=fun row hr=>by
  obtain⟨i,hi,he⟩:=List.getElem_of_mem hr;rw[List.length_take]at hi;rw[List.getElem_take]at he;exact q.lo i row (by omega) (by rw[List.getElem?_eq_getElem (by omega),he])
 have Rl:∀row∈R.drop p,a<kN row:=fun row hr=>by
  obtain⟨i,hi,he⟩:=List.getElem_of_mem hr;rw[List.length_drop]at hi;rw[List.getElem_drop]at he;have h0:R[p+i]? =some row:=by rw[List.getElem?_eq_getElem (by omega),he]
  have h1:=q.hi (p+i) row (by omega) h0;rcases Nat.eq_zero_or_pos i with h2|h2
  ·subst h2;unfold B0 at hn;rw[Nat.add_zero]at h0;rw[h0]at hn;have:=of_decide_eq_false hn;omega
  ·obtain⟨row0,He⟩:=aI (xs:=R) (i:=p) (by omega);have h3:=q.hi p row0 (Nat.le_refl _) He;have h4:=List.pairwise_iff_getElem.1 h.pH p (p+i) (by omega) (by omega) (by omega);rw[(List.getElem?_eq_some_iff.1 He).2,(List.getElem?_eq_some_iff.1 h0).2]at h4;omega
 refine⟨fun row hr=>?_,?_⟩
 ·rcases List.mem_append.1 hr with hr|hr
  ·rcases List.mem_append.1 hr with hr|hr
   ·exact h.form row (List.mem_of_mem_take hr)
   ·simp at hr;exact⟨a,v,hr⟩
  ·exact h.form row (List.mem_of_mem_drop hr)
 ·rw[List.pairwise_append,List.pairwise_append];refine⟨⟨h.pH.sublist (List.take_sublist _ _),by simp,fun x hx y hy=>?_⟩,h.pH.sublist (List.drop_sublist _ _),fun x hx y hy=>?_⟩
  ·simp at hy;subst hy;exact D5 x hx
  ·rcases List.mem_append.1 hx with hx|hx
   ·have:=D5 x hx;have:=Rl y hy;omega
   ·simp at hx;subst hx;exact Rl y hy
theorem xY{S:AU}(hS:S.key=0){R:List Row}(h:SR R){a:Int}{v:dg}(hf:bV S.cols [⟨2,a,pJ⟩,v]=0){p:Nat}(q:At R a p):
 bI ⟨S,R⟩ [⟨2,a,pJ⟩,v]=if B0 R a p=true then(⟨S,R⟩,7)else if decide ((R.length:Int)>=200)=true then(⟨S,R⟩,4)else(⟨S,R.take p++[[⟨2,a,pJ⟩,v]]++R.drop p⟩,0):=by
 have hk:keyOf S.key [⟨2,a,pJ⟩,v]=⟨2,a,pJ⟩:=by rw[hS];simp[keyOf]
 obtain⟨b1,b2⟩:=q.bs h hS;unfold bI;simp only;rw[hf,hk,b1,b2];rfl
theorem Da{S:AU}(hS:S.key=0){R:List Row}(h:SR R){a:Int}{p:Nat}(q:At R a p):
 cK ⟨S,R⟩ ⟨2,a,pJ⟩=if B0 R a p=true then(⟨S,R.take p++R.drop (p+1)⟩,(R[p]?).getD [],0)else(⟨S,R⟩,[],2):=by
 obtain⟨b1,b2⟩:=q.bs h hS;unfold cK;rw[b1,b2];rfl
theorem xm{α:Type}(R:List α)(p:Nat):(R.take p++R.drop (p+1)).Sublist R:=by rw[<-List.eraseIdx_eq_take_drop_succ];exact List.eraseIdx_sublist _ _
end Go.S
