import Derived.Test.YtekoaiendgjkdaaGreatWD
import Derived.Test.YtekoaiendgjkdaaGreatWA
set_option linter.unusedVariables false
set_option linter.unusedSimpArgs false
set_option linter.unusedSectionVars false
set_option maxRecDepth 100000
set_option maxHeartbeats 8000000
namespace Go.S
open Go.Sx
def XN(n:Int):aJ:={ kind:=6,table:=gN 0,eG:=n }
theorem cJn(n:Int):Du (XN n):=⟨rfl,rfl,rfl,rfl,rfl⟩
theorem LN(n:Int):dr (XN n):=
 ⟨fun n hn=>(by cases hn),fun n hn=>(by cases hn),fun e he=>(by cases he),fun i hi=>(by cases hi),mQr _,fun hk=>absurd hk (by show ¬(6:Int)=4;decide),iX,iX,mQr _,mQr _⟩
theorem Ow(n:Int):dp (XN n) aZ=(⟨-1,-1,false⟩,0):=by kernel_rfl
theorem bKu(n:Int)(R0:List Row):eJ (XN n) aZ (-1) R0=(bL R0 n,0):=by unfold eJ;rw[if_neg (by decide),AP rfl];rfl
theorem cXQ(n:Int){R:Nat->List Row}{log:List dV}{d:DB}(al:AL 25 R log d):∃d1,AJ R log d1/\iD d 0 (XN n)=(d1,bL (R 0) n,0):=
 (cJn n).iD (Ow n) al (by decide) (bKu n (R 0))
theorem WK(n:Int){R:Nat->List Row}{log:List dV}{d:DB}(q:AJ R log d):iE d 0 (XN n):=(cJn n).aQB (Ow n) (fun h=>(by cases h)) q
theorem Pr(l:List Row)(n:Nat):bL l (n:Int)=l.take n:=by unfold bL;rw[if_neg (by omega)];rfl
def Rw(de:Bool)(a b:cO):Bool:=if de=true then Gi b a else Gi a b
theorem Cd(de:Bool)(a:cO):Rw de a a=false:=by cases de<;>exact BZ a
theorem dZT{de:Bool}{a b c:cO}(h1:Rw de a b=true)(h2:Rw de b c=true):Rw de a c=true:=by
 cases de with
 |true=>exact AW (show Gi c b=true from h2) (show Gi b a=true from h1)
 |false=>exact AW (show Gi a b=true from h1) (show Gi b c=true from h2)
theorem bKJ(de:Bool)(a b:cO):Rw de a b=true\/a=b\/Rw de b a=true:=by
 cases de with
 |true=>exact(Ml b a).imp id (Or.imp Eq.symm id)
 |false=>exact Ml a b
theorem VM(k:Int)(de:Bool)(a b:Row):wP k de a b=Rw de (fT a k) (fT b k):=tP k de a b
theorem lI{a b:cO}:re a b=true↔a=b:=by obtain⟨k1,n1,s1⟩:=a;obtain⟨k2,n2,s2⟩:=b;unfold re;simp[and_assoc]
def jr(P:List Row)(k:Int)(v:cO):List Row:=P.filter (fun r=>re (fT r k) v)
structure Rq(de:Bool)(k:Int)(P:List Row)(out:List (List Row))(bl:List cO):Prop where
 out:out=bl.map (jr P k)
 jC:bl.Pairwise (fun a b=>Rw de a b=true)
 mem:∀v,v∈bl↔∃r∈P,fT r k=v
 last:∀p,P.getLast?=some p->bl.getLast?=some (fT p k)
theorem CM(P:List Row)(k:Int)(r:Row)(v:cO):jr (P++[r]) k v=if re (fT r k) v=true then jr P k v++[r]else jr P k v:=by
 unfold jr;rw[mZf];by_cases h:re (fT r k) v=true
 ·rw[if_pos h,mZV,if_pos h,List.filter_nil]
 ·rw[if_neg h,mZV,if_neg h,List.filter_nil,mQF]
theorem CN(P:List Row){k:Int}{r:Row}{v:cO}(h:fT r k=v):jr (P++[r]) k v=jr P k v++[r]:=by rw[CM,if_pos (lI.2 h)]
theorem KX(P:List Row){k:Int}{r:Row}{v:cO}(h:¬fT r k=v):jr (P++[r]) k v=jr P k v:=by rw[CM,if_neg (fun e=>h (lI.1 e))]
theorem Rq.step{de:Bool}{k:Int}{P:List Row}{out:List (List Row)}{bl:List cO}(q:Rq de k P out bl){r:Row}(hr:∀p,P.getLast?=some p->Rw de (fT r k) (fT p k)=false)(rs:List Row):∃zN Od,cG k (r::rs) out=cG k rs zN/\Rq de k (P++[r]) zN Od:=by
 cases hP:P.getLast? with
 |none=>
  have lQj:P=[]:=List.getLast?_eq_none_iff.1 hP;subst lQj;have hv:bl=[]:=by
   cases hv:bl with
   |nil=>rfl
   |cons v vs=>obtain⟨r,hr,-⟩:=(q.mem v).1 (by rw[hv];exact mQE);cases hr
  have ho:out=[]:=by rw[q.out,hv];rfl
  subst ho;refine⟨[[r]],[fT r k],rfl,?_,mZp _ _,fun v=>?_,fun p hp=>?_⟩
  ·show [[r]]=[jr ([]++[r]) k (fT r k)];rw[CN _ rfl];rfl
  ·simp[eq_comm]
  ·have:r=p:=by simpa using hp
   subst this;rfl
 |some p=>
  have hl:=q.last p hP;obtain⟨P',rfl⟩:∃P',P=P'++[p]:=mJz.1 hP;obtain⟨vs,rfl⟩:∃vs,bl=vs++[fT p k]:=mJz.1 hl;have jXy:=mXe.1 q.jC;have hg:jr (P'++[p]) k (fT p k)=jr P' k (fT p k)++[p]:=CN _ rfl;have ho:out=vs.map (jr (P'++[p]) k)++[jr P' k (fT p k)++[p]]:=by rw[q.out,mZs,<-hg];rfl
  have e:cG k (r::rs) out=if re (fT p k) (fT r k)=true then cG k rs (out.dropLast++[(jr P' k (fT p k)++[p])++[r]])else cG k rs (out++[[r]]):=by
   have e1:out.getLast?=some (jr P' k (fT p k)++[p]):=by rw[ho];simp
   have e2:(jr P' k (fT p k)++[p]).getLast?=some p:=by simp
   have e3:cG k (r::rs) out=match out.getLast? with
    |none=>cG k rs [[r]]
    |some g=>match g.getLast? with
     |none=>cG k rs (out++[[r]])
     |some p=>if re (fT p k) (fT r k)=true then cG k rs (out.dropLast++[g++[r]])else cG k rs (out++[[r]]):=rfl
   rw[e3,e1];show(match (jr P' k (fT p k)++[p]).getLast? with
    |none=>cG k rs (out++[[r]])
    |some kZn=>if re (fT kZn k) (fT r k)=true then cG k rs (out.dropLast++[(jr P' k (fT p k)++[p])++[r]])else cG k rs (out++[[r]]))=_
   rw[e2]
  have aP:∀v∈vs,Rw de v (fT p k)=true:=fun v hv=>jXy.2.2 v hv _ (mQA.2 rfl);by_cases heq:fT p k=fT r k
  ·rw[if_pos (lI.2 heq)]at e;have ch:∀v∈vs,¬fT r k=v:=fun v hv h=>by
    have:=aP v hv;rw[heq,h,Cd]at this;cases this
   refine⟨_,vs++[fT p k],e,?_,q.jC,fun v=>?_,fun p' Tt=>?_⟩
   ·rw[ho,mJy,mZs];have h1:vs.map (jr (P'++[p]++[r]) k)=vs.map (jr (P'++[p]) k):=mXE (fun v hv=>KX _ (ch v hv));rw[h1,List.map_singleton,CN _ heq.symm,hg]
   ·rw[q.mem v];constructor
    ·rintro⟨r',h1,h2⟩;exact⟨r',mXK _ h1,h2⟩
    ·rintro⟨r',h1,h2⟩;rcases mQv.1 h1 with h1|h1
     ·exact⟨r',h1,h2⟩
     ·rw[mQA]at h1;subst h1;exact⟨p,by simp,by rw[heq,h2]⟩
   ·have:r=p':=by simpa using Tt
    subst this;rw[<-heq];simp
  ·rw[if_neg (fun h=>heq (lI.1 h))]at e;have aQn:Rw de (fT p k) (fT r k)=true:=by
    rcases bKJ de (fT p k) (fT r k)with h|h|h
    ·exact h
    ·exact absurd h heq
    ·rw[hr p hP]at h;cases h
   have aV:∀v∈vs++[fT p k],Rw de v (fT r k)=true:=fun v hv=>by
    rcases mQv.1 hv with hv|hv
    ·exact dZT (aP v hv) aQn
    ·rw[mQA]at hv;rw[hv];exact aQn
   have ch:∀v∈vs++[fT p k],¬fT r k=v:=fun v hv h=>by
    have:=aV v hv;rw[h,Cd]at this;cases this
   have fXz:jr (P'++[p]) k (fT r k)=[]:=by unfold jr;rw[List.filter_eq_nil_iff];intro r' h1 h2;exact ch _ ((q.mem _).2 ⟨r',h1,rfl⟩) (lI.1 h2).symm
   refine⟨_,(vs++[fT p k])++[fT r k],e,?_,?_,fun v=>?_,fun p' Tt=>?_⟩
   ·rw[q.out,mZs (l₂:=[fT r k])];have h1:(vs++[fT p k]).map (jr (P'++[p]++[r]) k)=(vs++[fT p k]).map (jr (P'++[p]) k):=mXE (fun v hv=>KX _ (ch v hv));rw[h1,List.map_singleton,CN _ rfl,fXz];rfl
   ·rw[mXe];refine⟨q.jC,mZp _ _,fun a ha b hb=>?_⟩;rw[mQA]at hb;rw[hb];exact aV a ha
   ·rw[mQv,q.mem v,mQA];constructor
    ·rintro(⟨r',h1,h2⟩ |h)
     ·exact⟨r',mXK _ h1,h2⟩
     ·exact⟨r,by simp,h.symm⟩
    ·rintro⟨r',h1,h2⟩;rcases mQv.1 h1 with h1|h1
     ·exact .inl ⟨r',h1,h2⟩
     ·rw[mQA]at h1;subst h1;exact .inr h2.symm
   ·have:r=p':=by simpa using Tt
    subst this;simp
theorem Rq.all{de:Bool}{k:Int}:∀(rs P:List Row) (out:List (List Row)) (bl:List cO),Rq de k P out bl->(P++rs).Pairwise (fun u w=>Rw de (fT w k) (fT u k)=false)->∃Od,Rq de k (P++rs) (cG k rs out) Od
 | [],P,out,bl,q,_=>⟨bl,by rw[mQF];exact q⟩
 |r::rs,P,out,bl,q,h=>by
  obtain⟨zN,Od,e,q'⟩:=q.step (r:=r) (fun p hp=>(mXe.1 h).2.2 p (mZb hp) r mQE) rs;rw[e];have e2:P++r::rs=(P++[r])++rs:=by simp
  rw[e2]at h |-;exact Rq.all rs (P++[r]) zN Od q' h
theorem yX{de:Bool}{k:Int}(hk:0<=k){R:List Row}(hs:SR R):∃bl:List cO,gV k de R=bl.map (jr R k)/\bl.Pairwise (fun a b=>Rw de a b=true)/\∀v,v∈bl↔∃r∈R,fT r k=v:=by
 have sw:=Ce k de;have hp:=LP sw hs.jC;have hm:∀r,r∈gL (wP k de) R↔r∈R:=fun r=>(gh (wP k de) R).mem_iff;obtain⟨bl,q⟩:=Rq.all (de:=de) (k:=k) (gL (wP k de) R) [] [] [] ⟨rfl,List.Pairwise.nil,fun v=>by simp,fun p hp=>by cases hp⟩ (by
  rw[mXO];refine hp.imp (fun{u w} h=>?_);rw[<-VM];rcases h with h|h
  ·exact sw.eXq h
  ·exact h.1)
 rw[mXO]at q;refine⟨bl,?_,q.jC,fun v=>?_⟩
 ·unfold gV;rw[if_neg (by omega),q.out];refine mXE (fun v hv=>?_);unfold jr;refine Md (P:=fun u w=>kN u<kN w) (fun x y h1 h2=>by omega) ((gh _ R).filter _) ?_ (hs.jC.filter _);rw[List.pairwise_filter];refine hp.imp (fun{u w} h hu hw=>?_);have e1:=lI.1 hu;have e2:=lI.1 hw;rcases h with h|h
  ·rw[VM,e1,e2,Cd]at h;cases h
  ·exact h.2
 ·rw[q.mem v];exact⟨fun⟨r,h1,h2⟩=>⟨r,(hm r).1 h1,h2⟩,fun⟨r,h1,h2⟩=>⟨r,(hm r).2 h1,h2⟩⟩
theorem Pk{α:Type}{P:α->α->Prop}(ha:∀x y,P x y->P y x->False):∀ {a b:List α},(∀x,x∈a↔x∈b)->a.Pairwise P->b.Pairwise P->a=b
 | [],[],_,_,_=>rfl
 | [],y::b,h,_,_=>by cases (h y).2 mQE
 |x::a,[],h,_,_=>by cases (h x).1 mQE
 |x::a,y::b,h,pa,pb=>by
  rw[mXb]at pa pb;have uP:x=y:=by
   rcases mQs.1 ((h x).1 mQE)with h1|h1
   ·exact h1
   ·rcases mQs.1 ((h y).2 mQE)with h2|h2
    ·exact h2.symm
    ·exact(ha _ _ (pa.1 _ h2) (pb.1 _ h1)).elim
  subst uP;have hx:∀z,P x z->z≠x:=fun z h e=>by subst e;exact ha _ _ h h
  rw[Pk ha (fun z=>⟨fun hz=>?_,fun hz=>?_⟩) pa.2 pb.2]
  ·rcases mQs.1 ((h z).1 (mQQ _ hz))with e|e
   ·exact absurd e (hx z (pa.1 z hz))
   ·exact e
  ·rcases mQs.1 ((h z).2 (mQQ _ hz))with e|e
   ·exact absurd e (hx z (pb.1 z hz))
   ·exact e
def rC:List Row->Int
 | []=>0
 |r::l=>aN r+rC l
theorem FY:∀ {l:List Row},(∀r∈l,kL r)->0<=rC l/\rC l<=2000*l.length
 | [],_=>⟨mXp _,by show(0:Int)<=_;omega⟩
 |r::l,h=>by
  have ih:=FY (fun r hr=>h r (mQQ _ hr));obtain⟨a,v,rfl,h1,h2,-⟩:=h r mQE;show 0<=a+rC l/\a+rC l<=2000*((l.length+1:Nat):Int);omega
theorem SZ{a b c:Int}(hn:eD 14 a b=some (iN c)):iR 2 (iN a) (iN b)=(iN c,0):=by
 have hk:jv [lit (iN a),lit (iN b),bin 14 0 1] []=(2,0):=by
  have e:eK [] [lit (iN a),lit (iN b),bin 14 0 1] []=eK [] [bin 14 0 1] [2,2]:=by rw[gP,pK,np];show eK [] (lit (iN b)::[bin 14 0 1]) [2]=_;rw[gP,pK,np];rfl
  unfold jv;rw[if_neg (by simp),e];have e2:eK [] [bin 14 0 1] [2,2]=([2,2,2],0):=by kernel_rfl
  rw[e2];rfl
 have e1:gM [] [] [lit (iN a),lit (iN b),bin 14 0 1] []=match eD 14 a b with
  |some v=>some [iN a,iN b,v]
  |none=>none:=by kernel_rfl
 have hv:eP [lit (iN a),lit (iN b),bin 14 0 1] [] []=(iN c,0):=by unfold eP;rw[hk,e1,hn];rfl
 unfold iR;rw[if_neg (by show ¬(2:Int)=0;decide),if_pos rfl,hv]
theorem num_add{a b:Int}(h:0<=a+b)(h2:a+b<=2^40):eD 14 a b=some (iN (a+b)):=by unfold eD;rw[if_neg (by decide),if_pos rfl];unfold xK;rw[if_pos (jP.2 (by omega))];rfl
theorem bQX(a:Int)(v:cO):eP [cA] aZ [iN a,v]=(iN a,0):=by kernel_rfl
theorem HN(fn:Int)(x:cO):iR fn v0 x=(x,0):=by unfold iR;rw[if_pos (show v0.k=0 from rfl)]
theorem uZ(fn a:Int)(v w:cO)(l:List Row):lO fn [cA] aZ ([iN a,v]::l) w=match iR fn w (iN a)with
 | (w,f)=>if f≠0 then(v0,f)else lO fn [cA] aZ l w:=by
 have e:lO fn [cA] aZ ([iN a,v]::l) w=match eP [cA] aZ [iN a,v]with
  | (x,f)=>if f≠0 then(v0,f)else if x.k=0 then lO fn [cA] aZ l w else match iR fn w x with
   | (w,f)=>if f≠0 then(v0,f)else lO fn [cA] aZ l w:=rfl
 rw[e,bQX];rfl
theorem Xj:∀(l:List Row) (s:Int),(∀r∈l,kL r)->0<=s->s+2000*l.length<=2^40->lO 2 [cA] aZ l (iN s)=(iN (s+rC l),0)
 | [],s,_,_,_=>by show(iN s,(0:Int))=(iN (s+0),0);rw[Int.add_zero]
 |r::l,s,h,h0,hb=>by
  obtain⟨a,v,rfl,h1,h2,-⟩:=h r mQE;rw[mQx]at hb;rw[uZ,SZ (num_add (a:=s) (b:=a) (by omega) (by omega))];show lO 2 [cA] aZ l (iN (s+a))=_;rw[Xj l (s+a) (fun r hr=>h r (mQQ _ hr)) (by omega) (by omega)];show(iN (s+a+rC l),(0:Int))=(iN (s+(a+rC l)),0);rw[Int.add_assoc]
theorem Ri{r:Row}{l:List Row}(h:∀x∈r::l,kL x)(hl:(r::l).length<=200):lO 2 [cA] aZ (r::l) v0=(iN (rC (r::l)),0):=by obtain⟨a,v,rfl,h1,h2,-⟩:=h r mQE;rw[mQx]at hl;rw[uZ,HN];show lO 2 [cA] aZ l (iN a)=_;rw[Xj l a (fun r hr=>h r (mQQ _ hr)) h1 (by omega)];rfl
theorem Xk:∀(l:List Row) (m:Int),(∀r∈l,kL r)->(∀r∈l,m<aN r)->lO 3 [cA] aZ l (iN m)=(iN m,0)
 | [],m,_,_=>rfl
 |r::l,m,h,hm=>by
  obtain⟨a,v,rfl,h1,h2,-⟩:=h r mQE;have jXD:m<a:=hm _ mQE;have hj:iR 3 (iN m) (iN a)=(iN m,0):=by
   unfold iR;rw[if_neg (by show ¬(2:Int)=0;decide),if_neg (by decide),if_neg];rw[ux];rintro(⟨-,h⟩ | ⟨h,-⟩)
   ·have:=(Dh a m).1 h;omega
   ·exact absurd h (by decide)
  rw[uZ,hj];show lO 3 [cA] aZ l (iN m)=_;exact Xk l m (fun r hr=>h r (mQQ _ hr)) (fun r hr=>hm r (mQQ _ hr))
theorem Rj{r:Row}{l:List Row}(h:∀x∈r::l,kL x)(hs:(r::l).Pairwise (fun x y=>aN x<aN y)):lO 3 [cA] aZ (r::l) v0=(iN (aN r),0):=by rw[mXb]at hs;obtain⟨a,v,rfl,h1,h2,-⟩:=h r mQE;rw[uZ,HN];exact Xk l a (fun r hr=>h r (mQQ _ hr)) hs.1
theorem Xl:∀(l:List Row) (m:Int),(∀r∈l,kL r)->(∀r∈l,m<aN r)->l.Pairwise (fun x y=>aN x<aN y)->lO 4 [cA] aZ l (iN m)=(iN ((l.getLast?.map aN).getD m),0)
 | [],m,_,_,_=>rfl
 |r::l,m,h,hm,hs=>by
  rw[mXb]at hs;obtain⟨a,v,rfl,h1,h2,-⟩:=h r mQE;have jXD:m<a:=hm _ mQE;have hj:iR 4 (iN m) (iN a)=(iN a,0):=by unfold iR;rw[if_neg (by show ¬(2:Int)=0;decide),if_neg (by decide),if_pos];rw[Gz,ux];have:=(Dh m a).2 jXD;exact .inr ⟨rfl,by omega⟩
  rw[uZ,hj];show lO 4 [cA] aZ l (iN a)=_;rw[Xl l a (fun r hr=>h r (mQQ _ hr)) hs.1 hs.2];cases l with
  |nil=>rfl
  |cons y l=>rw[mJc];cases hq:(y::l).getLast? with
   |none=>exact absurd (List.getLast?_eq_none_iff.1 hq) (by simp)
   |some z=>rfl
theorem bXQ{r:Row}{l:List Row}(h:∀x∈r::l,kL x)(hs:(r::l).Pairwise (fun x y=>aN x<aN y)):lO 4 [cA] aZ (r::l) v0=(iN (((r::l).getLast?.map aN).getD 0),0):=by
 rw[mXb]at hs;obtain⟨a,v,rfl,h1,h2,-⟩:=h r mQE;rw[uZ,HN];show lO 4 [cA] aZ l (iN a)=_;rw[Xl l a (fun r hr=>h r (mQQ _ hr)) hs.1 hs.2];cases l with
 |nil=>rfl
 |cons y l=>rw[mJc];cases hq:(y::l).getLast? with
  |none=>exact absurd (List.getLast?_eq_none_iff.1 hq) (by simp)
  |some z=>rfl
theorem rS{x:aJ}{cols:List cK}{group:Int}(f:List Row->Row):∀(gs:List (List Row)) (out:List Row),(∀g∈gs,ki cols group g x.items []=(f g,0))->gJ x cols group gs out=(out++gs.map f,0)
 | [],out,_=>by simp[gJ]
 |g::gs,out,h=>by
  unfold gJ;rw[h g mQE];show gJ x cols group gs (out++[f g])=_;rw[rS f gs _ (fun g hg=>h g (mQQ _ hg))];simp
def bJE:ByteArray:=⟨#[115,101,108,101,99,116,32,99,111,117,110,116,40,42,41,44,32,115,117,109,40,97,41,44,32,109,105,110,40,97,41,44,32,109,97,120,40,97,41,32,102,114,111,109,32,116,97]⟩
def Vc:ByteArray:=⟨#[115,101,108,101,99,116,32,98,44,32,99,111,117,110,116,40,42,41,44,32,115,117,109,40,97,41,32,102,114,111,109,32,116,97,32,103,114,111,117,112,32,98,121,32,98]⟩
def bJC:ByteArray:=⟨#[115,101,108,101,99,116,32,98,44,32,99,111,117,110,116,40,42,41,44,32,109,105,110,40,97,41,32,102,114,111,109,32,116,97,32,103,114,111,117,112,32,98,121,32,98,32,111,114,100,101,114,32,98,121,32,98]⟩
def bJB:ByteArray:=⟨#[115,101,108,101,99,116,32,98,44,32,99,111,117,110,116,40,42,41,44,32,109,105,110,40,97,41,32,102,114,111,109,32,116,97,32,103,114,111,117,112,32,98,121,32,98,32,111,114,100,101,114,32,98,121,32,98,32,100,101,115,99]⟩
def gZJ:ByteArray:=⟨#[115,101,108,101,99,116,32,99,111,117,110,116,40,42,41,32,102,114,111,109,32,116,97,32,108,105,109,105,116,32,48]⟩
def bJF:ByteArray:=⟨#[115,101,108,101,99,116,32,99,111,117,110,116,40,42,41,32,102,114,111,109,32,116,97,32,103,114,111,117,112,32,98,121,32,98,32,108,105,109,105,116,32,49]⟩
def BK:aJ:={ kind:=6,table:=gN 0,items:=[⟨1,[]⟩,⟨2,[cA]⟩,⟨3,[cA]⟩,⟨4,[cA]⟩],eG:=-1 }
def xA:aJ:={ kind:=6,table:=gN 0,items:=[⟨0,[cB]⟩,⟨1,[]⟩,⟨2,[cA]⟩],group:=aM [98],eG:=-1 }
def Jn(de:Bool):aJ:={ kind:=6,table:=gN 0,items:=[⟨0,[cB]⟩,⟨1,[]⟩,⟨3,[cA]⟩],group:=aM [98],order:=aM [98],desc:=de,eG:=-1 }
def aXM:aJ:={ kind:=6,table:=gN 0,items:=[⟨1,[]⟩],eG:=0 }
def GO:aJ:={ kind:=6,table:=gN 0,items:=[⟨1,[]⟩],group:=aM [98],eG:=1 }
theorem dXI:cL ao bJE=(BK,0)/\bJ bJE=true:=⟨by kernel_rfl,by kernel_rfl⟩
theorem bKf:cL ao Vc=(xA,0)/\bJ Vc=true:=⟨by kernel_rfl,by kernel_rfl⟩
theorem dXG:cL ao bJC=(Jn false,0)/\bJ bJC=true:=⟨by kernel_rfl,by kernel_rfl⟩
theorem dXF:cL ao bJB=(Jn true,0)/\bJ bJB=true:=⟨by kernel_rfl,by kernel_rfl⟩
theorem eJW:cL ao gZJ=(aXM,0)/\bJ gZJ=true:=⟨by kernel_rfl,by kernel_rfl⟩
theorem dXJ:cL ao bJF=(GO,0)/\bJ bJF=true:=⟨by kernel_rfl,by kernel_rfl⟩
theorem aXJ:dr BK:=oL (by kernel_rfl)
theorem XO:dr xA:=oL (by kernel_rfl)
theorem Vh:∀de,dr (Jn de)
 |true=>oL (by kernel_rfl)
 |false=>oL (by kernel_rfl)
theorem bJS:dr aXM:=oL (by kernel_rfl)
theorem aXK:dr GO:=oL (by kernel_rfl)
theorem Vi:Du BK:=⟨rfl,rfl,rfl,rfl,rfl⟩
theorem Oy:Du xA:=⟨rfl,rfl,rfl,rfl,rfl⟩
theorem LO(de:Bool):Du (Jn de):=⟨rfl,rfl,rfl,rfl,rfl⟩
theorem aXL:Du aXM:=⟨rfl,rfl,rfl,rfl,rfl⟩
theorem Vj:Du GO:=⟨rfl,rfl,rfl,rfl,rfl⟩
theorem GM:dp BK aZ=(⟨-1,-1,true⟩,0):=by kernel_rfl
theorem EL:dp xA aZ=(⟨1,-1,true⟩,0):=by kernel_rfl
theorem yG:∀de,dp (Jn de) aZ=(⟨1,1,true⟩,0)
 |true=>by kernel_rfl
 |false=>by kernel_rfl
theorem Kb:dp aXM aZ=(⟨-1,-1,true⟩,0):=by kernel_rfl
theorem GN:dp GO aZ=(⟨1,-1,true⟩,0):=by kernel_rfl
theorem HG(l:List (List Row)):bL l (-1)=l:=rfl
theorem IW(cols:List cK)(gr:Int)(g:List Row)(e:List Nd)(is:List dO)(r:Row):ki cols gr g (⟨1,e⟩::is) r=ki cols gr g is (r++[JI g.length]):=rfl
theorem Ds{fn:Int}(h:2<=fn){cols:List cK}{gr:Int}{g:List Row}{e:List Nd}{v:cO}(hv:lO fn e cols g v0=(v,0))(is:List dO)(r:Row):ki cols gr g (⟨fn,e⟩::is) r=ki cols gr g is (r++[v]):=by
 have h1:yA cols gr ⟨fn,e⟩ g=(v,0):=by unfold yA;rw[if_neg (by show ¬fn=1;omega),if_neg (by show ¬fn=0;omega)];exact hv
 show(match yA cols gr ⟨fn,e⟩ g with
  | (v,e)=>if e≠0 then([],e)else ki cols gr g is (r++[v]))=_
 rw[h1];rfl
theorem Rh(cols:List cK)(gr:Int)(x:Row)(g:List Row)(e:List Nd)(is:List dO)(r:Row):ki cols gr (x::g) (⟨0,e⟩::is) r=ki cols gr (x::g) is (r++[fT x gr]):=rfl
structure gZv(R0:List Row)(r:Row):Prop where
 nil:R0=[]->r=[iN 0,v0,v0,v0]
 cons:R0≠[]->∃a v b w,R0[0]? =some [iN a,v]/\R0[R0.length-1]? =some [iN b,w]/\r=[iN R0.length,iN (rC R0),iN a,iN b]
theorem SR.aN{R0:List Row}(h:SR R0):R0.Pairwise (fun x y=>aN x<aN y):=h.jC.imp_of_mem (fun{x y} hx hy uP=>by
 obtain⟨a,v,rfl⟩:=h.form x hx;obtain⟨b,w,rfl⟩:=h.form y hy;exact uP)
theorem eQR{R:Nat->List Row}{log:List dV}{d:DB}(al:AL 25 R log d):∃d1 r,AJ R log d1/\iD d 0 BK=(d1,[r],0)/\gZv (R 0) r:=by
 have Jy:=al.rp 0 (by decide);have hs:=al.sr (t:=0) (by decide);have hl:(R 0).length<=25:=by have:=al.ln;have:=al.le;omega
 have key:∀r,ki aZ (-1) (R 0) BK.items []=(r,0)->∃d1,AJ R log d1/\iD d 0 BK=(d1,[r],0):=fun r hr=>Vi.iD GM al (by decide) (by
  show dw BK aZ (-1) (R 0)=_;unfold dw gV;rw[if_pos (by decide),show BK.eG=-1 from rfl,HG,rS (fun _=>r) _ _ (fun g hg=>by
   rw[mQA]at hg;rw[hg];exact hr)]
  rfl)
 cases h0:R 0 with
 |nil=>rw[h0]at key;obtain⟨d1,q1,hd⟩:=key _ rfl;exact⟨d1,_,q1,hd,fun _=>rfl,fun h=>absurd rfl h⟩
 |cons x l=>
  rw[h0]at key Jy hs hl;have e1:=Ri Jy (by omega);have e2:=Rj Jy hs.aN;have e3:=bXQ Jy hs.aN;obtain⟨d1,q1,hd⟩:=key _ (by
   show ki aZ (-1) (x::l) [⟨1,[]⟩,⟨2,[cA]⟩,⟨3,[cA]⟩,⟨4,[cA]⟩] []=_;rw[IW,Ds (by decide) e1,Ds (by decide) e2,Ds (by decide) e3];rfl)
  refine⟨d1,_,q1,hd,fun h=>(by cases h),fun _=>?_⟩;obtain⟨z,hz⟩:=aE (xs:=x::l) (i:=(x::l).length-1) (by rw[mQx];omega);have Qc:(x::l).getLast?=some z:=by rw[mZD];exact hz
  obtain⟨b,w,rfl,-⟩:=Jy z (GD hz);obtain⟨a,v,rfl,-⟩:=Jy x mQE;refine⟨a,v,b,w,rfl,hz,?_⟩;rw[Qc];rfl
def uC(w:Row->Int):List Row->Int
 | []=>0
 |r::l=>w r+uC w l
def BG(f:cO->Int):List cO->Int
 | []=>0
 |v::l=>f v+BG f l
theorem Vf{f g:cO->Int}{u:cO}{c:Int}:∀ {bl:List cO},(∀v∈bl,g v=f v+if re u v=true then c else 0)->u∉bl->BG g bl=BG f bl
 | [],_,_=>rfl
 |v::bl,h,hn=>by
  have ih:=Vf (f:=f) (g:=g) (u:=u) (c:=c) (fun v hv=>h v (mQQ _ hv)) (fun hm=>hn (mQQ _ hm));have hv:=h v mQE;rw[if_neg (fun e=>hn (by rw[lI.1 e];exact mQE))]at hv;show g v+BG g bl=f v+BG f bl;rw[ih,hv];omega
theorem Ot{f g:cO->Int}{u:cO}{c:Int}:∀ {bl:List cO},(∀v∈bl,g v=f v+if re u v=true then c else 0)->bl.Nodup->u∈bl->BG g bl=BG f bl+c
 | [],_,_,hm=>by cases hm
 |v::bl,h,hn,hm=>by
  rw[List.nodup_cons]at hn;have hv:=h v mQE;have ht:=fun v hv=>h v (mQQ _ hv);show g v+BG g bl=f v+BG f bl+c;cases he:re u v with
  |true=>have hu:=lI.1 he;rw[if_pos he]at hv;rw[Vf ht (by rw[hu];exact hn.1),hv];omega
  |false=>
   rw[he]at hv;replace hv:g v=f v+0:=hv;have sH:u∈bl:=by
    rcases mQs.1 hm with e|hm
    ·rw[lI.2 e]at he;cases he
    ·exact hm
   rw[Ot ht hn.2 sH,hv];omega
theorem sW(w:Row->Int)(k:Int){bl:List cO}(hn:bl.Nodup):∀ {R:List Row},(∀r∈R,fT r k∈bl)->BG (fun v=>uC w (jr R k v)) bl=uC w R
 | [],_=>by
  have:∀l:List cO,BG (fun v=>uC w (jr [] k v)) l=0:=fun l=>by
   induction l with
   |nil=>rfl
   |cons v l ih=>show uC w (jr [] k v)+_=0;rw[ih];rfl
  exact this bl
 |r::R,h=>by
  have ih:=sW w k hn (R:=R) (fun r hr=>h r (mQQ _ hr));rw[Ot (f:=fun v=>uC w (jr R k v)) (u:=fT r k) (c:=w r) (fun v _=>?_) hn (h r mQE),ih]
  ·show uC w R+w r=w r+uC w R;omega
  ·show uC w (jr (r::R) k v)=uC w (jr R k v)+_;unfold jr;rw[mZV];by_cases he:re (fT r k) v=true
   ·rw[if_pos he,if_pos he];show w r+_=_;omega
   ·rw[if_neg he,if_neg he];omega
theorem xq:∀l:List Row,uC (fun _=>1) l=l.length
 | []=>rfl
 |r::l=>by
  show 1+uC (fun _=>1) l=((l.length+1:Nat):Int);rw[xq l];omega
theorem Sj:∀l:List Row,uC aN l=rC l
 | []=>rfl
 |r::l=>by show aN r+uC aN l=aN r+rC l;rw[Sj l]
theorem AA{de:Bool}{bl:List cO}(h:bl.Pairwise (fun a b=>Rw de a b=true)):bl.Nodup:=h.imp (fun{a b} Gn e=>by
 rw[e,Cd]at Gn;cases Gn)
theorem Es{R:List Row}{k:Int}{v:cO}(h:∃r∈R,fT r k=v):∃x l,jr R k v=x::l/\fT x k=v:=by
 obtain⟨r,h1,h2⟩:=h;have hm:r∈jr R k v:=mXt.2 ⟨h1,lI.2 h2⟩;cases hg:jr R k v with
 |nil=>rw[hg]at hm;cases hm
 |cons x l=>
  have hx:x∈jr R k v:=by rw[hg];exact mQE
  exact⟨x,l,rfl,lI.1 (mXt.1 hx).2⟩
def JJ:List Row->Int
 | []=>0
 |r::l=>((r[1]?).getD v0).n+JJ l
def Jm:List Row->Int
 | []=>0
 |r::l=>((r[2]?).getD v0).n+Jm l
def Cc(R0:List Row)(v:cO):Row:=[v,iN (jr R0 1 v).length,iN (rC (jr R0 1 v))]
theorem QQ(R0:List Row):∀bl:List cO,JJ (bl.map (Cc R0))=BG (fun v=>uC (fun _=>1) (jr R0 1 v)) bl
 | []=>rfl
 |v::l=>by
  show((jr R0 1 v).length:Int)+JJ (l.map (Cc R0))=uC (fun _=>1) (jr R0 1 v)+_;rw[QQ R0 l,xq]
theorem Ou(R0:List Row):∀bl:List cO,Jm (bl.map (Cc R0))=BG (fun v=>uC aN (jr R0 1 v)) bl
 | []=>rfl
 |v::l=>by
  show rC (jr R0 1 v)+Jm (l.map (Cc R0))=uC aN (jr R0 1 v)+_;rw[Ou R0 l,Sj]
structure gZu(R0 B:List Row):Prop where
 lXB:JJ B=R0.length
 sum:Jm B=rC R0
 len:B.length<=R0.length
 one:∀(i:Nat) r,B[i]? =some r->∃v c s,r=[v,iN c,iN s]/\0<=c/\0<=s
 ne:∀(i:Nat) r s,B[i]? =some r->B[i+1]? =some s->re ((s[0]?).getD v0) ((r[0]?).getD v0)=false
theorem Gy{de:Bool}{k:Int}{R0:List Row}{bl:List cO}(hn:bl.Pairwise (fun a b=>Rw de a b=true))(hm:∀v,v∈bl↔∃r∈R0,fT r k=v):bl.length<=R0.length:=by
 have h1:=sW (fun _=>1) k (AA hn) (R:=R0) (fun r hr=>(hm _).2 ⟨r,hr,rfl⟩);rw[xq]at h1;have h2:∀l:List cO,(∀v∈l,v∈bl)->(l.length:Int)<=BG (fun v=>uC (fun _=>1) (jr R0 k v)) l:=fun l=>by
  induction l with
  |nil=>intro _;exact mXp _
  |cons v l ih=>intro h;have ih:=ih (fun v hv=>h v (mQQ _ hv));obtain⟨x,g,hg,-⟩:=Es ((hm v).1 (h v mQE));show((l.length+1:Nat):Int)<=uC (fun _=>1) (jr R0 k v)+_;rw[xq,hg,mQx];omega
 have:=h2 bl (fun v hv=>hv);omega
theorem bQn{R0:List Row}(h:∀r∈R0,kL r)(k:Int)(v:cO):∀r∈jr R0 k v,kL r:=fun r hr=>h r (mXt.1 hr).1
theorem Nf(R0:List Row)(k:Int)(v:cO):(jr R0 k v).length<=R0.length:=mXH ..
theorem cZb{R:Nat->List Row}{log:List dV}{d:DB}(al:AL 25 R log d):∃d1 B,AJ R log d1/\iD d 0 xA=(d1,B,0)/\gZu (R 0) B:=by
 have Jy:=al.rp 0 (by decide);have hs:=al.sr (t:=0) (by decide);have hl:(R 0).length<=25:=by have:=al.ln;have:=al.le;omega
 obtain⟨bl,hg,hp,hm⟩:=yX (de:=false) (k:=1) (by decide) hs;obtain⟨d1,q1,hd⟩:=Oy.iD EL al (by decide) (l:=bl.map (Cc (R 0))) (e:=0) (by
  show dw xA aZ 1 (R 0)=_;unfold dw;rw[show xA.desc=false from rfl,hg,show xA.eG=-1 from rfl,HG,rS (fun g=>Cc (R 0) (fT (g.headD []) 1)) _ _ (fun g RI=>?_),mXB]
  ·rw[mXO];refine congrArg (fun l=>(l,(0:Int))) (mXE (fun v hv=>?_));obtain⟨x,l,hx,NA⟩:=Es ((hm v).1 hv);show Cc (R 0) (fT ((jr (R 0) 1 v).headD []) 1)=_;rw[hx];show Cc (R 0) (fT x 1)=_;rw[NA]
  ·obtain⟨v,hv,rfl⟩:=mQO.1 RI;obtain⟨x,l,hx,NA⟩:=Es ((hm v).1 hv);have hP:=bQn Jy 1 v;have hL:=Nf (R 0) 1 v;have e0:Cc (R 0) (fT ((jr (R 0) 1 v).headD []) 1)=Cc (R 0) v:=by rw[hx];show Cc (R 0) (fT x 1)=_;rw[NA]
   rw[e0];show _=([v,iN (jr (R 0) 1 v).length,iN (rC (jr (R 0) 1 v))],(0:Int));rw[hx]at hP hL |-;have e1:=Ri hP (by omega);show ki aZ 1 (x::l) [⟨0,[cB]⟩,⟨1,[]⟩,⟨2,[cA]⟩] []=_;rw[Rh,IW,Ds (by decide) e1,NA];rfl)
 refine⟨d1,_,q1,hd,?_,?_,?_,?_,?_⟩
 ·rw[QQ,sW _ 1 (AA hp) (fun r hr=>(hm _).2 ⟨r,hr,rfl⟩),xq]
 ·rw[Ou,sW _ 1 (AA hp) (fun r hr=>(hm _).2 ⟨r,hr,rfl⟩),Sj]
 ·rw[mQz];exact Gy hp hm
 ·intro i r hr;rw[mQU]at hr;obtain⟨v,-,rfl⟩:=mZa.1 hr;exact⟨v,_,_,rfl,by omega,(FY (bQn Jy 1 v)).1⟩
 ·intro i r s hr KG;rw[mQU]at hr KG;obtain⟨v,hv,rfl⟩:=mZa.1 hr;obtain⟨w,hw,rfl⟩:=mZa.1 KG;obtain⟨fXQ,hu⟩:=HH.1 hv;obtain⟨fXP,vj⟩:=HH.1 hw;have key:=mQN.1 hp i (i+1) fXQ fXP (mXT i);rw[hu,vj]at key;show re w v=false;cases he:re w v with
  |false=>rfl
  |true=>rw[lI.1 he,Cd]at key;cases key
def EB(R0:List Row)(v:cO):Row:=[v,iN (jr R0 1 v).length,iN (aN ((jr R0 1 v).headD []))]
theorem KU(de:Bool){R0:List Row}(Jy:∀r∈R0,kL r)(hs:SR R0)(hl:R0.length<=25){bl:List cO}(hg:gV 1 de R0=bl.map (jr R0 1))(hm:∀v,v∈bl↔∃r∈R0,fT r 1=v):dw (Jn de) aZ 1 R0=(bl.map (EB R0),0):=by
 unfold dw;rw[show(Jn de).desc=de from rfl,hg,show(Jn de).eG=-1 from rfl,HG,rS (fun g=>EB R0 (fT (g.headD []) 1)) _ _ (fun g RI=>?_),mXB]
 ·rw[mXO];refine congrArg (fun l=>(l,(0:Int))) (mXE (fun v hv=>?_));obtain⟨x,l,hx,NA⟩:=Es ((hm v).1 hv);show EB R0 (fT ((jr R0 1 v).headD []) 1)=_;rw[hx];show EB R0 (fT x 1)=_;rw[NA]
 ·obtain⟨v,hv,rfl⟩:=mQO.1 RI;obtain⟨x,l,hx,NA⟩:=Es ((hm v).1 hv);have hP:=bQn Jy 1 v;have hS:(jr R0 1 v).Pairwise (fun x y=>aN x<aN y):=hs.aN.filter _;have e0:EB R0 (fT ((jr R0 1 v).headD []) 1)=EB R0 v:=by rw[hx];show EB R0 (fT x 1)=_;rw[NA]
  rw[e0];show _=([v,iN (jr R0 1 v).length,iN (aN ((jr R0 1 v).headD []))],(0:Int));rw[hx]at hP hS |-;have e1:=Rj hP hS;show ki aZ 1 (x::l) [⟨0,[cB]⟩,⟨1,[]⟩,⟨3,[cA]⟩] []=_;rw[Rh,IW,Ds (by decide) e1,NA];rfl
structure kQi(R0 P Q:List Row):Prop where
 rev:Q=P.reverse
 len:P.length<=R0.length
 one:∀(i:Nat) r,P[i]? =some r->∃v,r=EB R0 v/\aQb v/\∃x l,jr R0 1 v=x::l
 lt:∀(i:Nat) r s,P[i]? =some r->P[i+1]? =some s->bC ((r[0]?).getD v0) ((s[0]?).getD v0)<0
theorem fZP{R:Nat->List Row}{log:List dV}{d:DB}(al:AL 25 R log d):∃d1 d2 P Q,AJ R log d1/\AJ R log d2/\iD d 0 (Jn false)=(d1,P,0)/\iD d 0 (Jn true)=(d2,Q,0)/\kQi (R 0) P Q:=by
 have Jy:=al.rp 0 (by decide);have hs:=al.sr (t:=0) (by decide);have hl:(R 0).length<=25:=by have:=al.ln;have:=al.le;omega
 obtain⟨va,ga,pa,mQk⟩:=yX (de:=false) (k:=1) (by decide) hs;obtain⟨mQl,gd,pd,md⟩:=yX (de:=true) (k:=1) (by decide) hs;obtain⟨d1,q1,h1⟩:=(LO false).iD (yG false) al (by decide) (l:=va.map (EB (R 0))) (e:=0) (KU false Jy hs hl ga mQk);obtain⟨d2,q2,h2⟩:=(LO true).iD (yG true) al (by decide) (l:=mQl.map (EB (R 0))) (e:=0) (KU true Jy hs hl gd md);have iQw:mQl=va.reverse:=Pk (P:=fun a b=>Gi b a=true) (fun x y h1 h2=>by
  have:=AW h1 h2;rw[BZ]at this;cases this) (fun v=>by rw[md,List.mem_reverse,mQk]) pd (List.pairwise_reverse.2 pa)
 refine⟨d1,d2,_,_,q1,q2,h1,h2,?_,?_,?_,?_⟩
 ·rw[iQw,List.map_reverse]
 ·rw[mQz];exact Gy pa mQk
 ·intro i r hr;rw[mQU]at hr;obtain⟨v,hv,rfl⟩:=mZa.1 hr;obtain⟨x,MI,KC⟩:=(mQk v).1 (GD hv);obtain⟨y,l,hy,-⟩:=Es ⟨x,MI,KC⟩;refine⟨v,rfl,?_,y,l,hy⟩;have hc:=aQb.hJv (Jy x MI);obtain⟨a,w,rfl,-⟩:=Jy x MI;have KC:w=v:=KC;rw[<-KC];exact hc
 ·intro i r s hr KG;rw[mQU]at hr KG;obtain⟨v,hv,rfl⟩:=mZa.1 hr;obtain⟨w,hw,rfl⟩:=mZa.1 KG;obtain⟨fXQ,hu⟩:=HH.1 hv;obtain⟨fXP,vj⟩:=HH.1 hw;have key:=mQN.1 pa i (i+1) fXQ fXP (mXT i);rw[hu,vj]at key;show bC v w<0;exact mQB (show decide (bC v w<0)=true from key)
theorem fJN{R:Nat->List Row}{log:List dV}{d:DB}(al:AL 25 R log d):∃d1,AJ R log d1/\iD d 0 aXM=(d1,[],0):=aXL.iD Kb al (by decide) rfl
theorem eXa{R:Nat->List Row}{log:List dV}{d:DB}(al:AL 25 R log d):∃d1 B,AJ R log d1/\iD d 0 GO=(d1,B,0)/\B.length=min (R 0).length 1:=by
 have hs:=al.sr (t:=0) (by decide);obtain⟨bl,hg,hp,hm⟩:=yX (de:=false) (k:=1) (by decide) hs;obtain⟨d1,q1,hd⟩:=Vj.iD GN al (by decide) (l:=((bl.map (jr (R 0) 1)).take 1).map (fun g=>[JI g.length])) (e:=0) (by
  show dw GO aZ 1 (R 0)=_;unfold dw;rw[show GO.desc=false from rfl,hg,rS (fun g=>[JI g.length]) _ _ (fun g _=>rfl)];rfl)
 refine⟨d1,_,q1,hd,?_⟩;rw[mQz,mQw,mQz];have h1:=Gy hp hm;have h2:bl.length=0->(R 0).length=0:=fun h=>by
  have hv:bl=[]:=mXs.1 h;cases hR:R 0 with
  |nil=>rfl
  |cons r l=>have:=(hm (fT r 1)).2 ⟨r,by rw[hR];exact mQE,rfl⟩;rw[hv]at this;cases this
 omega
end Go.S
