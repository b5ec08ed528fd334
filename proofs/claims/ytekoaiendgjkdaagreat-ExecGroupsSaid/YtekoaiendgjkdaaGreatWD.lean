import Derived.Test.YtekoaiendgjkdaaGreatWC
import Derived.Test.YtekoaiendgjkdaaGreatYB
set_option linter.unusedVariables false
set_option linter.unusedSimpArgs false
set_option linter.unusedSectionVars false
set_option maxRecDepth 100000
set_option maxHeartbeats 8000000
namespace Go.S
open Go.Sx
theorem Va{α:Type}{rel:α->α->Prop}:∀(n:Nat) {R:List α},R.Pairwise rel->∀x∈GL n R,∀y∈GL n R,x.2<y.2->rel x.1 y.1
 |_,[],_,x,hx,_,_,_=>by cases hx
 |n,r::R,h,x,hx,y,hy,uP=>by
  rw[mXb]at h;have hm:∀z∈GL (n+1) R,z.1∈R:=fun z hz=>by
   have:=mJd (f:=Prod.fst) hz;rwa[BE]at this
  rcases mQs.1 hx with e|hx
  ·rcases mQs.1 hy with e2|hy
   ·subst e e2;exact absurd uP (mZW _)
   ·subst e;exact h.1 _ (hm y hy)
  ·rcases mQs.1 hy with e2|hy
   ·have:=LG _ _ x hx;subst e2;replace uP:x.2<n:=uP;omega
   ·exact Va (n+1) h.2 x hx y hy uP
theorem LP{α:Type}{lt:α->α->Bool}(o:FQ lt){rel:α->α->Prop}{R:List α}(h:R.Pairwise rel):(gL lt R).Pairwise (fun u v=>lt u v=true\/(lt v u=false/\rel u v)):=by
 have h1:=GQ o (GK 0 R);rw[BE]at h1;rw[<-h1.2,List.pairwise_map];refine h1.1.imp_of_mem (fun{x y} hx hy uP=>?_);have mx:=(gh (SM lt) (GL 0 R)).subset hx;have my:=(gh (SM lt) (GL 0 R)).subset hy;rcases uP with uP| ⟨h2,h3⟩
 ·exact .inl uP
 ·exact .inr ⟨h2,Va 0 h x mx y my h3⟩
theorem Md{α:Type}{P:α->α->Prop}(ha:∀x y,P x y->P y x->False):∀ {a b:List α},a.Perm b->a.Pairwise P->b.Pairwise P->a=b
 | [],b,p,_,_=>by rw[mJQ.1 p]
 |x::a,[],p,_,_=>by have:=p.length_eq;simp at this
 |x::a,y::b,p,pa,pb=>by
  rw[mXb]at pa pb;have uP:x=y:=by
   have h1:x∈y::b:=p.subset (mQE);have h2:y∈x::a:=p.symm.subset (mQE);rcases mQs.1 h1 with h1|h1
   ·exact h1
   ·rcases mQs.1 h2 with h2|h2
    ·exact h2.symm
    ·exact(ha _ _ (pa.1 _ h2) (pb.1 _ h1)).elim
  subst uP;rw[Md ha (List.Perm.cons_inv p) pa.2 pb.2]
theorem QS(x y:Int):eR y x=- eR x y:=by
 unfold eR;by_cases h:x<y
 ·rw[if_neg (by simp;omega),if_pos (by simpa using h),if_pos (by simpa using h)];rfl
 ·by_cases h2:y<x
  ·rw[if_pos (by simpa using h2),if_neg (by simpa using h),if_pos (by simpa using h2)]
  ·rw[if_neg (by simpa using h2),if_neg (by simpa using h),if_neg (by simpa using h),if_neg (by simpa using h2)];rfl
theorem Gz(a b:cO):bC b a=- bC a b:=by
 have h1:=Di a.s b.s;rw[xh,xh,QS a.k b.k,QS a.n b.n];generalize eR a.k b.k=x;generalize eR a.n b.n=y;generalize eC a.s b.s=z at *;generalize eC b.s a.s=w at *;have hw:w=- z:=by omega
 subst hw;by_cases hx:x=0
 ·subst hx;rw[if_neg (show ¬(-(0:Int))≠0 by omega),if_neg (show ¬(0:Int)≠0 by omega)];by_cases hy:y=0
  ·subst hy;rw[if_neg (show ¬(-(0:Int))≠0 by omega),if_neg (show ¬(0:Int)≠0 by omega)];by_cases hz:z=0
   ·subst hz;rfl
   ·rw[if_pos (show -z≠0 by omega),if_pos hz]
  ·rw[if_pos (show -y≠0 by omega),if_pos hy]
 ·rw[if_pos (show -x≠0 by omega),if_pos hx]
theorem aQb.hJv{r:Row}(h:kL r):aQb (dXy r):=by
 obtain⟨a,v,rfl,-,-,rfl| ⟨x,rfl,hx⟩⟩:=h
 ·exact⟨fun _=>rfl,fun e=>(by cases e),by show(0:Nat)<=_;omega⟩
 ·refine⟨fun e=>absurd rfl e,fun _=>rfl,?_⟩;show(aM x).size<=_;rw[ep];omega
structure Du(st:aJ):Prop where
 kd:st.kind=6
 tb:st.table=gN 0
 jn:st.join=b0
 on:st.on=[]
 wh:st.bV=[]
theorem aZA{st:aJ}(s:Du st)(cols:List cK):∀(l out:List Row),cT st cols [[]] l out=(out++l,0)
 | [],out=>by show(out,(0:Int))=_;simp
 |a::l,out=>by
  have h1:∀r,dt st.on cols r=(true,0):=fun r=>by rw[s.on];rfl
  have h2:∀r,dt st.bV cols r=(true,0):=fun r=>by rw[s.wh];rfl
  have e:cT st cols [[]] (a::l) out=match gX st cols a [[]] out with
   | (out,e)=>if e≠0 then(out,e)else cT st cols [[]] l out:=rfl
  have e2:gX st cols a [[]] out=match dt st.on cols (a++[])with
   | (on,e)=>if e≠0 then(out,e)else if on=false then(out,0)else match dt st.bV cols (a++[])with
    | (is,e)=>if e≠0 then(out,e)else((if is=true then out++[a++[]]else out),0):=rfl
  rw[e,e2,h1,h2,mQF];show cT st cols [[]] l (out++[a])=_;rw[aZA s cols l];simp
theorem eJD{st:aJ}(s:Du st){y:Qy}(hf:dp st aZ=(y,0)){l:List Row}(hl:l.length<=4000):jI st aZ l [[]]=if y.kK=true then dw st aZ y.group l else eJ st aZ y.order l:=by
 unfold jI;rw[hf];show(if l.length*1>4000 then([],4)else match cT st aZ [[]] l []with
  | (rows,e)=>if e≠0 then([],e)else if y.kK=true then dw st aZ y.group rows else eJ st aZ y.order rows)=_
 rw[if_neg (by omega),aZA s];rfl
theorem Du.aQB{st:aJ}(s:Du st){y:Qy}(hf:dp st aZ=(y,0))(hg:y.kK=true->Rp st y){R:Nat->List Row}{log:List dV}{d:DB}(q:AJ R log d):iE d 0 st:=iE.Kq s.kd (Hf s.jn (fun z hz=>by
 rw[DU q s.tb s.jn,hf]at hz;cases hz;exact⟨hg,fun _=>eKz⟩))
theorem Du.iD{st:aJ}(s:Du st){y:Qy}(hf:dp st aZ=(y,0)){m:Nat}{R:Nat->List Row}{log:List dV}{d:DB}(al:AL m R log d)(hm:m<=4000){l:List Row}{e:Int}(he:(if y.kK=true then dw st aZ y.group (R 0)else eJ st aZ y.order (R 0))=(l,e)):∃d1,AJ R log d1/\iD d 0 st=(d1,l,e):=by obtain⟨d1,q1,hd⟩:=LW al.aj s.kd s.tb s.jn;rw[eJD s hf (by have:=al.ln;have:=al.le;omega),he]at hd;exact⟨d1,q1,hd⟩
structure iKp(de:Bool)(r s:Row):Prop where
 ex:∃a v b w,r=[v,iN a]/\s=[w,iN b]/\aQb v/\aQb w/\(de=false->¬bC v w>0)/\(de=true->¬bC v w<0)/\(bC v w=0->a<b)
end Go.S
