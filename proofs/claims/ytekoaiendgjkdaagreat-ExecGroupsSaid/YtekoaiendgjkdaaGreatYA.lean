import Derived.Test.YtekoaiendgjkdaaGreatSA
import Derived.Test.YtekoaiendgjkdaaGreatQC
import Derived.Test.YtekoaiendgjkdaaGreatSxC
set_option linter.unusedVariables false
set_option linter.unusedSimpArgs false
set_option linter.unusedSectionVars false
set_option maxRecDepth 100000
set_option maxHeartbeats 8000000
namespace Go.S
open Go.Sx Go.Proofs
def cJl{α:Type}(l:List α)(i j:Nat):List α:=match l[i]?,l[j]? with
 |some x,some y=>(l.set i y).set j x
 |_,_=>l
theorem LI{α:Type}{l:List α}{i j:Nat}{x y:α}(hi:l[i]? =some x)(hj:l[j]? =some y):cJl l i j=(l.set i y).set j x:=by unfold cJl;rw[hi,hj]
def LJ{α:Type}:Nat->List α->Nat->Nat->List α
 |0,l,_,_=>l
 |n+1,l,i,j=>LJ n (cJl l i j) (i+1) (j+1)
theorem XG{α:Type}{n i:Nat}(h:i<n)(l:List α)(a b:Nat):LJ (n-i) l (a+i) (b+i)=LJ (n-(i+1)) (cJl l (a+i) (b+i)) (a+(i+1)) (b+(i+1)):=by
 have:n-i=(n-(i+1))+1:=by omega
 rw[this];rfl
theorem vJ{A:Ar}[hA:bM A]{z w:Int}{i j:Nat}(hz:aS z i)(hw:aS w j)(h:i+j<2^62):aS (A .bB .add .i64 z w) (i+j):=by have h1:=hz.eq;have h2:=hw.eq;constructor;rw[hA.bB];show IntKind.wrap .i64 (z+w)=_;rw[IntWalk.i64_in _ (by omega)];omega
theorem ff{A:Ar}[hA:bM A]{z w:Int}{i j:Nat}(hz:aS z i)(hw:aS w j)(h:j<=i)(hi:i<2^62):aS (A .bB .sub .i64 z w) (i-j):=by have h1:=hz.eq;have h2:=hw.eq;constructor;rw[hA.bB];show IntKind.wrap .i64 (z-w)=_;rw[IntWalk.i64_in _ (by omega)];omega
abbrev cR(h:ad)(nb cap:Nat)(xs:List Row):Prop:=fX 59 aD h nb cap xs
theorem LK{nb cap:Nat}{xs:List Row}{h:ad}(o:cR h nb cap xs){n len:Nat}(hlen:len=xs.length){za zb zn:Int}{a b:Nat}(ha:aS za a)(hb:aS zb b)(hn:aS zn n)(Gn:a+n<=len)(cQO:b+n<=len)(f:Value){k:Value->ad->Prop}
 (hk:∀h',Kp [nb] h h'->bR [61] h h'->cR h' nb cap (LJ n xs a b)->k (.tuple #[]) h'):
 Ct 334 [.slice (some ⟨nb,0,none⟩) len cap,.int .i64 za,.int .i64 zb,.int .i64 zn,f] h k:=by
 obtain⟨A,hA⟩:=Ar.ex;have Qd:=o.bd;obtain⟨I,aY⟩:∃I:Nat->Int->ad->Prop,∀m g h',I m g h'=∃i ys,aS g i/\i<=n/\m=n-i/\Kp [nb] h h'/\bR [61] h h'/\cR h' nb cap ys/\ys.length=len/\LJ (n-i) ys (a+i) (b+i)=LJ n xs a b:=⟨_,fun _ _ _=>rfl⟩;have hJ:I n 0 h:=by rw[aY];exact⟨0,xs,⟨rfl⟩,mQr _,rfl,Kp.refl _ _,bR.refl _ _,o,hlen.symm,rfl⟩
 refine ah A (ax fKb.aK fKb.bF) Tryz.func334 rfl (by kernel_rfl) ?_;cbv;refine aX.go (G:=Int) (fun g=>[(10,.v (.int .i64 g))]) (fun _=>[]) (fun m g h'=>I m g h') n 0 ⟨?_,?_,?_⟩ hJ ?_
 ·cbv
 ·cbv
 ·cbv
 ·intro m z h1 hI;rw[aY]at hI;cbv;obtain⟨i,ys,hz,hi,hm,k1,t1,o1,KB,hs⟩:=hI;have f1:A .aI .lss z zn=decide (i<n):=hz.iJ hn;rw[f1];by_cases aP:i<n
  ·have hQp:=vJ (A:=A) ha hz (by omega);have hQo:=vJ (A:=A) hb hz (by omega);obtain⟨p,hp⟩:∃p,A .bB .add .i64 za z=p:=⟨_,rfl⟩;obtain⟨r,hr⟩:∃r,A .bB .add .i64 zb z=r:=⟨_,rfl⟩;rw[hp]at hQp;rw[hr]at hQo;obtain⟨x,hx⟩:=aE (xs:=ys) (i:=a+i) (by omega);obtain⟨y,hy⟩:=aE (xs:=ys) (i:=b+i) (by omega);have cKh:=hQp.eq;have jXx:=hQo.eq;have cp:(some (⟨nb,0,none⟩:Addr)).isSome=true/\0<=p/\p<(len:Int):=⟨rfl,hQp.ix (by omega)⟩;have cq:(some (⟨nb,0,none⟩:Addr)).isSome=true/\0<=r/\r<(len:Int):=⟨rfl,hQo.ix (by omega)⟩;have sl:=o1.sl KB.symm;have cZ:=hz.succ (A:=A) (by omega);obtain⟨z2,dL⟩:∃z2,A .bB .add .i64 z 1=z2:=⟨_,rfl⟩;rw[dL]at cZ;rw[XG aP,LI hx hy]at hs;obtain⟨mm,sf⟩:∃mm,mm=n-(i+1):=⟨_,rfl⟩;have sh:mm<m:=by omega
   have cD:∀h3,Kp [nb] h h3->bR [61] h h3->cR h3 nb cap ((ys.set (a+i) y).set (b+i) x)->I mm z2 h3:=fun h3 e1 e2 e3=>by
    rw[aY];exact⟨i+1,_,cZ,aP,sf,e1,e2,e3,by simp[KB],hs⟩
   have NH:a+i<ys.length:=by omega
   have Ts:b+i<(ys.set (a+i) y).length:=by rw[mXo];omega
   clear aY hJ hk;rw[kS aP];cbv;rw[hr];refine⟨cq,?_⟩;cbv;refine bZ sl hy jXx (fun yb yn yc qy=>?_);cbv;rw[hp];refine⟨cp,?_⟩;cbv;refine bZ sl hx cKh (fun xb xn xc qx=>?_);cbv;refine⟨cp,?_⟩;cbv;refine o1.setAt (by decide) (i:=a+i) NH cKh rfl (x:=y) ⟨_,rfl,qy⟩ (fun h2 k2 t2 o2=>?_);have kXT:=qx.mono (t2 [61] (by decide));cbv;refine⟨cq,?_⟩;cbv;refine o2.setAt (by decide) (i:=b+i) Ts jXx rfl (x:=x) ⟨_,rfl,kXT⟩ (fun h3 k3 t3 o3=>?_);have jd:=cD h3 ((k1.trans k2).trans k3) ((t1.trans (t2 _ (by decide))).trans (t3 _ (by decide))) o3;clear cD;cbv;rw[dL];refine⟨mm,_,sh,⟨?_,?_,?_⟩,jd⟩
   ·cbv
   ·cbv
   ·cbv
  ·have lW:i=n:=by omega
   subst lW;rw[mXA]at hs;have af:=hk h1 k1 t1 (by rw[<-hs];exact o1);clear aY hJ hk;rw[nM aP];cbv;exact af
theorem LH{α:Type}(P M Q:List α)(x y:α):cJl (P++x::M++y::Q) P.length (P.length+1+M.length)=P++y::M++x::Q:=by
 have h1:(P++x::M++y::Q)[P.length]? =some x:=by simp
 have h2:(P++x::M++y::Q)[P.length+1+M.length]? =some y:=by
  rw[mXM (by simp;omega)];simp;have:P.length+1+M.length-(P.length+(M.length+1))=0:=by omega
  rw[this];rfl
 rw[LI h1 h2];have h3:(P++x::M++y::Q).set P.length y=P++y::M++y::Q:=by rw[mXd,mZZ _ _ (mQt _),mXA];simp
 rw[h3,mZZ _ _ (by simp;omega)];have:P.length+1+M.length-(P++y::M).length=0:=by simp;omega
 rw[this];rfl
theorem Oq{α:Type}:∀(X Y P M Q:List α),X.length=Y.length->LJ X.length (P++X++M++Y++Q) P.length (P.length+X.length+M.length)=P++Y++M++X++Q
 | [],[],P,M,Q,_=>by simp[LJ]
 | [],y::Y,_,_,_,h=>by simp at h
 |x::X,[],_,_,_,h=>by simp at h
 |x::X,y::Y,P,M,Q,h=>by
  have hl:X.length=Y.length:=by simpa using h
  show LJ X.length (cJl (P++x::X++M++y::Y++Q) P.length (P.length+(X.length+1)+M.length)) (P.length+1) (P.length+(X.length+1)+M.length+1)=_;have e1:P++x::X++M++y::Y++Q=P++x::(X++M)++y::(Y++Q):=by simp
  have e2:P.length+(X.length+1)+M.length=P.length+1+(X++M).length:=by simp;omega
  rw[e1,e2,LH];have e3:P++y::(X++M)++x::(Y++Q)=(P++[y])++X++(M++[x])++Y++Q:=by simp
  have e4:P.length+1=(P++[y]).length:=by simp
  have e5:P.length+1+(X++M).length+1=(P++[y]).length+X.length+(M++[x]).length:=by simp;omega
  rw[e3,e5,e4,Oq X Y (P++[y]) (M++[x]) Q hl];simp
theorem AG{nb cap:Nat}{P X M Y Q:List Row}{h:ad}(o:cR h nb cap (P++X++M++Y++Q)){len:Nat}(hlen:len=(P++X++M++Y++Q).length)(uP:X.length=Y.length){za zb zn:Int}{a b n:Nat}(ha:aS za a)(hb:aS zb b)(hn:aS zn n)(ea:a=P.length)(eb:b=P.length+X.length+M.length)(en:n=X.length)(f:Value){k:Value->ad->Prop}
 (hk:∀h',Kp [nb] h h'->bR [61] h h'->cR h' nb cap (P++Y++M++X++Q)->k (.tuple #[]) h'):
 Ct 334 [.slice (some ⟨nb,0,none⟩) len cap,.int .i64 za,.int .i64 zb,.int .i64 zn,f] h k:=by
 subst ea eb en;simp only[nX]at hlen;refine LK o (by simp only[nX];omega) ha hb hn (by omega) (by omega) f (fun h' k' t' o'=>?_);rw[Oq X Y P M Q uP]at o';exact hk h' k' t' o'
theorem Yi{nb cap:Nat}{P X Y Q:List Row}{h:ad}(o:cR h nb cap (P++X++Y++Q)){len:Nat}(hlen:len=(P++X++Y++Q).length){za zm zb:Int}{a m b:Nat}(ha:aS za a)(hm:aS zm m)(hb:aS zb b)(ea:a=P.length)(em:m=P.length+X.length)(eb:b=P.length+X.length+Y.length)(hx:X≠[])(hy:Y≠[])(f:Value){k:Value->ad->Prop}
 (hk:∀h',Kp [nb] h h'->bR [61] h h'->cR h' nb cap (P++Y++X++Q)->k (.tuple #[]) h'):
 Ct 317 [.slice (some ⟨nb,0,none⟩) len cap,.int .i64 za,.int .i64 zm,.int .i64 zb,f] h k:=by
 obtain⟨A,hA⟩:=Ar.ex;have Qd:=o.bd;have tG:len=P.length+X.length+Y.length+Q.length:=by rw[hlen];simp only[nX]
 rw[<-hlen]at Qd;obtain⟨zi,qA⟩:∃z,A .bB .sub .i64 zm za=z:=⟨_,rfl⟩;obtain⟨zj,Rz⟩:∃z,A .bB .sub .i64 zb zm=z:=⟨_,rfl⟩;have ni:aS zi X.length:=by have:=ff (A:=A) hm ha (by omega) (by omega);rw[qA]at this;rw[show X.length=m-a by omega];exact this
 have nj:aS zj Y.length:=by have:=ff (A:=A) hb hm (by omega) (by omega);rw[Rz]at this;rw[show Y.length=b-m by omega];exact this
 obtain⟨I,aY⟩:∃I:Nat->Int×Int->ad->Prop,∀n g h',I n g h'=∃A' X' Y' B',aS g.1 X'.length/\aS g.2 Y'.length/\X'≠[]/\Y'≠[]/\P.length+A'.length+X'.length=m/\n=X'.length+Y'.length/\A'++(Y'++X')++B'=Y++X/\Kp [nb] h h'/\bR [61] h h'/\cR h' nb cap ((P++A')++X'++Y'++(B'++Q)):=⟨_,fun _ _ _=>rfl⟩;have hJ:I (X.length+Y.length) (zi,zj) h:=by rw[aY];exact⟨[],X,Y,[],ni,nj,hx,hy,by simp;omega,rfl,by simp,Kp.refl _ _,bR.refl _ _,by simpa using o⟩
 refine ah A (ax fKq.aK fKq.bF) Tryz.func317 rfl (by kernel_rfl) ?_;clear ni nj;obtain⟨mz,FH⟩:∃mz,mz=X.length+Y.length:=⟨_,rfl⟩;rw[<-FH]at hJ;cbv;rw[qA,Rz];refine aX.go (G:=Int×Int) (fun g=>[(10,.v (.int .i64 g.1)),(11,.v (.int .i64 g.2))]) (fun _=>[]) (fun m g h'=>I m g h') mz (zi,zj) ⟨?_,?_,?_⟩ hJ ?_
 ·cbv
 ·cbv
 ·cbv
 ·intro mm g h1 hI;rw[aY]at hI;cbv;obtain⟨A',X',Y',B',hi,hj,hX,hY,iQW,sf,heq,k1,t1,o1⟩:=hI;obtain⟨gi,gj⟩:=g;replace hi:aS gi X'.length:=hi;replace hj:aS gj Y'.length:=hj;obtain⟨i,ke⟩:∃i,i=X'.length:=⟨_,rfl⟩;obtain⟨j,tX⟩:∃j,j=Y'.length:=⟨_,rfl⟩;have wE:P.length+A'.length+i+j+B'.length+Q.length=len:=by have:=congrArg List.length heq;simp only[nX]at this;omega
  have Jf:0<i:=by rw[ke];exact mJC.2 hX
  have Cy:0<j:=by rw[tX];exact mJC.2 hY
  rw[<-ke]at hi sf iQW;rw[<-tX]at hj sf;have f1:A .aI .neq gi gj=decide (i≠j):=by rw[aC A,decide_eq_decide];have:=hi.eq;have:=hj.eq;omega
  have f2:A .aI .gtr gi gj=decide (i>j):=by rw[bO A,decide_eq_decide];have:=hi.eq;have:=hj.eq;omega
  have n1:=ff (A:=A) hm hi (by omega) (by omega);obtain⟨z1,jV⟩:∃z,A .bB .sub .i64 zm gi=z:=⟨_,rfl⟩;rw[jV]at n1;rw[f1];by_cases aKH:i=j
  ·subst aKH;rw[nM (by omega)];clear aY hJ;cbv;rw[jV];have cJD:cR h1 nb cap ((P++A')++X'++[]++Y'++(B'++Q)):=by simpa using o1
   refine AG cJD (by simp only[nX,mQK];omega) (by omega) n1 hm hi (by simp only[nX];omega) (by simp only[nX,mQK];omega) ke f (fun h2 k2 t2 o2=>?_);have af:=hk h2 (k1.trans k2) (t1.trans t2) (by
    have e:P++Y++X++Q=P++A'++Y'++[]++X'++(B'++Q):=by
     have:P++Y++X++Q=P++(Y++X)++Q:=by simp
     rw[this,<-heq];simp
    rw[e];exact o2)
   clear hk;cbv;exact af
  ·rw[kS aKH];cbv;rw[f2];by_cases RH:i>j
   ·obtain⟨X1,X2,fZv,aQu⟩:∃X1 X2,X'=X1++X2/\X1.length=j:=⟨X'.take j,X'.drop j,(mXj j X').symm,by rw[mQw];omega⟩;have aKW:X2.length=i-j:=by have:=congrArg List.length fZv;rw[nX]at this;omega
    subst fZv;have n3:=ff (A:=A) hi hj (by omega) (by omega);obtain⟨z3,ui⟩:∃z,A .bB .sub .i64 gi gj=z:=⟨_,rfl⟩;rw[ui]at n3;have cJD:cR h1 nb cap ((P++A')++X1++X2++Y'++(B'++Q)):=by simpa using o1
    have cD:∀h2,Kp [nb] h1 h2->bR [61] h1 h2->cR h2 nb cap ((P++A')++Y'++X2++X1++(B'++Q))->I (X2.length+X1.length) (z3,gj) h2:=fun h2 e1 e2 e3=>by
     rw[aY];refine⟨A'++Y',X2,X1,B',by rw[aKW];exact n3,by rw[aQu];exact hj,fun e=>?_,fun e=>?_,by rw[nX];omega,rfl,by rw[<-heq];simp,k1.trans e1,t1.trans e2,by simpa using e3⟩
     ·rw[e]at aKW;simp at aKW;omega
     ·rw[e]at aQu;simp at aQu;omega
    have sh:X2.length+X1.length<mm:=by omega
    obtain⟨m3,bZH⟩:∃m3,m3=X2.length+X1.length:=⟨_,rfl⟩;rw[<-bZH]at cD sh;rw[kS RH];clear aY hJ hk;cbv;rw[jV];refine AG cJD (by simp only[nX];omega) (by omega) n1 hm hj (by simp only[nX];omega) (by simp only[nX];omega) aQu.symm f (fun h2 k2 t2 o2=>?_);have jd:=cD h2 k2 t2 o2;clear cD;cbv;rw[ui];refine⟨m3,(_,_),sh,⟨?_,?_,?_⟩,jd⟩
    ·cbv
    ·cbv
    ·cbv
   ·obtain⟨Y1,Y2,fZt,cKH⟩:∃Y1 Y2,Y'=Y1++Y2/\Y1.length=j-i:=⟨Y'.take (j-i),Y'.drop (j-i),(mXj _ Y').symm,by rw[mQw];omega⟩;have iXX:Y2.length=i:=by have:=congrArg List.length fZt;rw[nX]at this;omega
    subst fZt;have n3:=ff (A:=A) hj hi (by omega) (by omega);obtain⟨z3,ui⟩:∃z,A .bB .sub .i64 gj gi=z:=⟨_,rfl⟩;rw[ui]at n3;have n4:=vJ (A:=A) hm hj (by omega);obtain⟨z4,cJU⟩:∃z,A .bB .add .i64 zm gj=z:=⟨_,rfl⟩;rw[cJU]at n4;have n5:=ff (A:=A) n4 hi (by omega) (by omega);obtain⟨z5,fQO⟩:∃z,A .bB .sub .i64 z4 gi=z:=⟨_,rfl⟩;rw[fQO]at n5;have cJD:cR h1 nb cap ((P++A')++X'++Y1++Y2++(B'++Q)):=by simpa using o1
    have cD:∀h2,Kp [nb] h1 h2->bR [61] h1 h2->cR h2 nb cap ((P++A')++Y2++Y1++X'++(B'++Q))->I (Y2.length+Y1.length) (gi,z3) h2:=fun h2 e1 e2 e3=>by
     rw[aY];refine⟨A',Y2,Y1,X'++B',by rw[iXX];exact hi,by rw[cKH];exact n3,fun e=>?_,fun e=>?_,by omega,rfl,by rw[<-heq];simp,k1.trans e1,t1.trans e2,by simpa using e3⟩
     ·rw[e]at iXX;simp at iXX;omega
     ·rw[e]at cKH;simp at cKH;omega
    have sh:Y2.length+Y1.length<mm:=by omega
    obtain⟨m3,bZH⟩:∃m3,m3=Y2.length+Y1.length:=⟨_,rfl⟩;rw[<-bZH]at cD sh;rw[nM RH];clear aY hJ hk;cbv;rw[jV,cJU];cbv;rw[fQO];refine AG cJD (by simp only[nX];omega) (by omega) n1 n5 hi (by simp only[nX];omega) (by simp only[nX];omega) ke f (fun h2 k2 t2 o2=>?_);have jd:=cD h2 k2 t2 o2;clear cD;cbv;rw[ui];refine⟨m3,(_,_),sh,⟨?_,?_,?_⟩,jd⟩
    ·cbv
    ·cbv
    ·cbv
structure Jb(lt:Row->Row->Bool)(f:FuncId)(p0 p1:Value)(nb:Nat)(h0:ad)(kW:Row->Prop):Prop where
 ap:∀ {h':ad} {x y:Row} {bx:Option Addr} {nx cx:Nat} {eJe:Option Addr} {ny cy:Nat},Kp [nb] h0 h'->bR [61] h0 h'->kW x->kW y->Sl 61 bq h' (.slice bx nx cx) x->Sl 61 bq h' (.slice eJe ny cy) y->
 ∀ {k:Value->ad->Prop},(∀kY z,Le h' kY->(z<0↔lt x y=true)->k (.int .i64 z) kY)->Ct f [.slice bx nx cx,.slice eJe ny cy,p0,p1] h' k
theorem Jb.sub{lt:Row->Row->Bool}{f:FuncId}{p0 p1:Value}{nb:Nat}{h0 h1:ad}{P:Row->Prop}(c:Jb lt f p0 p1 nb h0 P)(k:Kp [nb] h0 h1)(t:bR [61] h0 h1):Jb lt f p0 p1 nb h1 P:=⟨fun k1 t1 hx hy qx qy=>c.ap (k.trans k1) (t.trans t1) hx hy qx qy⟩
def bT(c:List (Tg Row)):List Row:=c.map Prod.fst
theorem iO(c:List (Tg Row)):(bT c).length=c.length:=mQz ..
theorem yZ{P Q:List (Tg Row)}{x:Tg Row}{n:Nat}(hn:n=P.length):(bT (P++x::Q))[n]? =some x.1:=by subst hn;simp[bT]
theorem MB{lt:Row->Row->Bool}(sw:FQ lt){f:FuncId}(hf:aG f=true){p0 p1:Value}{nb cap:Nat}{P X Q:List (Tg Row)}{h:ad}(o:cR h nb cap (bT (P++X++Q)))(Sv:Ro X){kW:Row->Prop}(aV:∀x∈X,kW x.1)(cmp:Jb lt f p0 p1 nb h kW){len:Nat}(hlen:len=(P++X++Q).length){za zb:Int}{a b:Nat}(ha:aS za a)(hb:aS zb b)(ea:a=P.length)(eb:b=P.length+X.length){k:Value->ad->Prop}
 (hk:∀h' C,Kp [nb] h h'->bR [61] h h'->C.Perm X->C.Pairwise (lx lt)->cR h' nb cap (bT (P++C++Q))->k (.tuple #[]) h'):
 Ct 288 [.slice (some ⟨nb,0,none⟩) len cap,.int .i64 za,.int .i64 zb,.func (.func f) #[] #[p0,p1]] h k:=by
 obtain⟨A,hA⟩:=Ar.ex;have Qd:=o.bd;rw[iO,<-hlen]at Qd;simp only[nX]at hlen;obtain⟨WB,jQ⟩:∃g,g=aG:=⟨_,rfl⟩;have tk:gE Tryz.prog ⟨ty,WB,cZL.aK,cZL.bF,fun _=>false,[],fun _ _ _=>False⟩:=by rw[jQ];exact ax _ _
 have Wp:WB f=true:=by rw[jQ];exact hf
 clear jQ hf;have n1:=ha.succ (A:=A) (by omega);obtain⟨z1,jV⟩:∃z,A .bB .add .i64 za 1=z:=⟨_,rfl⟩;rw[jV]at n1;obtain⟨I,aY⟩:∃I:Nat->Int->ad->Prop,∀m g h',I m g h'=∃i C X1 X2,aS g i/\a<i/\a+X1.length<=i/\X=X1++X2/\C.Perm X1/\C.Pairwise (lx lt)/\(X2≠[]->i=a+X1.length)/\m=X2.length/\Kp [nb] h h'/\bR [61] h h'/\cR h' nb cap (bT (P++C++(X2++Q))):=⟨_,fun _ _ _=>rfl⟩;have hJ:I (X.length-1) z1 h:=by
  rw[aY];cases X with
  |nil=>exact⟨a+1,[],[],[],n1,by omega,by simp,rfl,List.Perm.refl _,List.Pairwise.nil,fun h=>absurd rfl h,rfl,Kp.refl _ _,bR.refl _ _,by simpa using o⟩
  |cons x X=>exact⟨a+1,[x],[x],X,n1,by omega,by simp,rfl,List.Perm.refl _,mZp _ _,fun _=>rfl,rfl,Kp.refl _ _,bR.refl _ _,by simpa using o⟩
 obtain⟨mz,FH⟩:∃mz,mz=X.length-1:=⟨_,rfl⟩;rw[<-FH]at hJ;refine ah A tk Tryz.func288 rfl (by kernel_rfl) ?_;cbv;rw[jV];refine aX.go (G:=Int) (fun g=>[(8,.v (.int .i64 g))]) (fun _=>[]) (fun m g h'=>I m g h') mz z1 ⟨?_,?_,?_⟩ hJ ?_
 ·cbv
 ·cbv
 ·cbv
 ·intro m z h1 hI;rw[aY]at hI;cbv;obtain⟨i,C,X1,X2,hz,lKo,iXo,hX,hC,iZr,aQp,hm,k1,t1,o1⟩:=hI;have f1:A .aI .lss z zb=decide (i<b):=hz.iJ hb;have eZJ:X.length=X1.length+X2.length:=by rw[hX,nX]
  have lKu:C.length=X1.length:=hC.length_eq;rw[f1];by_cases aP:i<b
  ·cases X2 with
   |nil=>exfalso;rw[mQK]at eZJ;omega
   |cons x X2=>
    have lW:=aQp (by simp);rw[mQx]at eZJ;have lQu:∀t∈C,kW t.1:=fun t ht=>aV t (by rw[hX];exact mXK _ (hC.subset ht));have vi:kW x.1:=aV x (by rw[hX];simp);have fXh:∀y∈C,y.2<x.2:=fun y hy=>by
     have:=Sv;unfold Ro at this;rw[hX,mXe]at this;exact this.2.2 y (hC.subset hy) x mQE
    have cZ:=hz.succ (A:=A) (by omega);obtain⟨z2,dL⟩:∃z2,A .bB .add .i64 z 1=z2:=⟨_,rfl⟩;rw[dL]at cZ;have cD:∀h2 L R,C=L++R->(L++x::R).Pairwise (lx lt)->Kp [nb] h1 h2->bR [61] h1 h2->cR h2 nb cap (bT (P++(L++x::R)++(X2++Q)))->I X2.length z2 h2:=fun h2 L R e0 e1 e2 e3 e4=>by
     rw[aY];refine⟨i+1,L++x::R,X1++[x],X2,cZ,by omega,by rw[nX,mQu];omega,by rw[hX];simp,?_,e1,fun _=>by rw[nX,mQu];omega,rfl,k1.trans e2,t1.trans e3,e4⟩;have p1:(L++x::R).Perm (x::(L++R)):=mZX;rw[<-e0]at p1;exact p1.trans ((hC.cons x).trans (mJb (l₁:=[x]) (l₂:=X1)))
    have sh:X2.length<m:=by rw[hm,mQx];omega
    obtain⟨J,dY⟩:∃J:Nat->Int->ad->Prop,∀m g h',J m g h'=∃j L R,aS g j/\j=a+L.length/\m=L.length/\C=L++R/\(∀p,R.head?=some p->lt x.1 p.1=true)/\Kp [nb] h1 h'/\bR [61] h1 h'/\cR h' nb cap (bT (P++(L++x::R)++(X2++Q))):=⟨_,fun _ _ _=>rfl⟩;have FN:J C.length z h1:=by rw[dY];exact⟨i,C,[],hz,by omega,rfl,by simp,fun p h=>(by cases h),Kp.refl _ _,bR.refl _ _,by simpa using o1⟩
    obtain⟨mc,kKd⟩:∃mc,mc=C.length:=⟨_,rfl⟩;rw[<-kKd]at FN;obtain⟨mx,fXE⟩:∃mx,mx=X2.length:=⟨_,rfl⟩;rw[<-fXE]at cD sh;have iJS:=cmp.sub k1 t1;clear aY hJ hk;rw[kS aP];cbv;refine aX.go (G:=Int) (fun g=>[(9,.v (.int .i64 g))]) (fun _=>[]) (fun m g h'=>J m g h') mc z ⟨?_,?_,?_⟩ FN ?_
    ·cbv
    ·cbv
    ·cbv
    ·intro m' zj h2 hJ;rw[dY]at hJ;cbv;obtain⟨j,L,R,Rz,hj,kX,bZQ,hR,k2,t2,o2⟩:=hJ;have f2:A .aI .gtr zj za=decide (0<L.length):=by rw[bO A,decide_eq_decide];have:=Rz.eq;have:=ha.eq;omega
     rw[f2];by_cases eZL:0<L.length
     ·obtain⟨L',p,gKh⟩:∃L' p,L=L'++[p]:=by
       rcases mKF L with h| ⟨L',p,h⟩
       ·rw[h]at eZL;simp at eZL
       ·exact⟨L',p,by rw[h,mKE]⟩
      subst gKh;have cQB:kW p.1:=lQu p (by rw[bZQ];simp);have tW:(L'++[p]).length=L'.length+1:=by simp
      have lQt:L'.length+1+R.length=C.length:=by have:=congrArg List.length bZQ;simp only[nX,mQx,mQK]at this;omega
      have n9:=ff (A:=A) Rz (⟨rfl⟩:aS 1 1) (by omega) (by omega);obtain⟨zp,dJt⟩:∃z,A .bB .sub .i64 zj 1=z:=⟨_,rfl⟩;rw[dJt]at n9;have aKa:=Rz.eq;have dJs:=n9.eq;have KN:len=(bT (P++((L'++[p])++x::R)++(X2++Q))).length:=by have:=congrArg List.length bZQ;simp only[iO,nX,mQx,mQK]at this |-;omega
      have gx:(bT (P++((L'++[p])++x::R)++(X2++Q)))[j]? =some x.1:=by have:=yZ (P:=P++(L'++[p])) (Q:=R++(X2++Q)) (x:=x) (n:=j) (by simp;omega);simpa using this
      have gp:(bT (P++((L'++[p])++x::R)++(X2++Q)))[j-1]? =some p.1:=by have:=yZ (P:=P++L') (Q:=x::R++(X2++Q)) (x:=p) (n:=j-1) (by simp;omega);simpa using this
      have sl:=o2.sl KN;have cj:(some (⟨nb,0,none⟩:Addr)).isSome=true/\0<=zj/\zj<(len:Int):=⟨rfl,Rz.ix (by omega)⟩;have cp:(some (⟨nb,0,none⟩:Addr)).isSome=true/\0<=zp/\zp<(len:Int):=⟨rfl,n9.ix (by omega)⟩;rw[kS eZL];cbv;refine⟨cj,?_⟩;cbv;refine bZ sl gx aKa (fun xb xn xc qx=>?_);cbv;rw[dJt];refine⟨cp,?_⟩;cbv;refine bZ sl gp dJs (fun pb pn pc qp=>?_);cbv;rw[Wp];cbv;refine iJS.ap k2 t2 vi cQB qx qp (fun h3 zc l3 Co=>?_);have f3:A .aI .lss zc 0=lt x.1 p.1:=by
       rw[bm A];cases hh:lt x.1 p.1 with
       |true=>exact kS (Co.2 hh)
       |false=>exact nM (fun h=>by rw[Co.1 h]at hh;cases hh)
      have k3:=k2.trans (l3.kp [nb]);have t3:=t2.trans (l3.t [61]);have o3:=o2.mono (l3.t _);have hZz:=o3.sl KN;cbv;rw[f3];cases iV:lt x.1 p.1 with
      |false=>
       have hs:=MD sw (x:=x) (A1:=L'++[p]) (A2:=R) (by rw[<-bZQ];exact iZr) (by rw[<-bZQ];exact fXh) (fun q hq=>by
        have:q=p:=by simpa using hq.symm
        rw[this];exact iV) hR
       have jd:=cD h3 (L'++[p]) R bZQ hs k3 t3 o3;clear cD dY FN;cbv;rw[dL];refine⟨mx,_,sh,⟨?_,?_,?_⟩,jd⟩
       ·cbv
       ·cbv
       ·cbv
      |true=>
       have NL:j<(bT (P++((L'++[p])++x::R)++(X2++Q))).length:=(HH.1 gx).1;have aKk:((bT (P++((L'++[p])++x::R)++(X2++Q))).set j p.1).set (j-1) x.1=bT (P++(L'++x::(p::R))++(X2++Q)):=by
        have e1:bT (P++((L'++[p])++x::R)++(X2++Q))=bT (P++L')++p.1::[]++x.1::bT (R++(X2++Q)):=by simp[bT]
        have e2:bT (P++(L'++x::(p::R))++(X2++Q))=bT (P++L')++x.1::[]++p.1::bT (R++(X2++Q)):=by simp[bT]
        have h0:(bT (P++L')).length=j-1:=by simp[bT];omega
        have h1:=LH (bT (P++L')) [] (bT (R++(X2++Q))) p.1 x.1;have g1:(bT (P++L')++p.1::[]++x.1::bT (R++(X2++Q)))[(bT (P++L')).length]? =some p.1:=by simp
        have g2:(bT (P++L')++p.1::[]++x.1::bT (R++(X2++Q)))[(bT (P++L')).length+1+([]:List Row).length]? =some x.1:=by rw[<-e1];rw[h0,show j-1+1+([]:List Row).length=j by simp;omega];exact gx
        rw[LI g1 g2,<-e2,<-e1,h0,show j-1+1+([]:List Row).length=j by simp;omega]at h1;rw[<-h1,mJB _ _ (by omega)]
       have jL:∀h4,Kp [nb] h3 h4->bR [61] h3 h4->cR h4 nb cap (bT (P++(L'++x::(p::R))++(X2++Q)))->J L'.length zp h4:=fun h4 e1 e2 e3=>by
        rw[dY];exact⟨j-1,L',p::R,n9,by omega,rfl,by rw[bZQ];simp,fun q hq=>by cases hq;exact iV,k3.trans e1,t3.trans e2,e3⟩
       have fXM:L'.length<m':=by omega
       obtain⟨ml,Am⟩:∃ml,ml=L'.length:=⟨_,rfl⟩;rw[<-Am]at jL fXM;have KP:j-1<((bT (P++((L'++[p])++x::R)++(X2++Q))).set j p.1).length:=by rw[mXo];omega
       have eXV:=qx.mono (l3.t [61]);have lJy:=qp.mono (l3.t [61]);obtain⟨mem,fV⟩:∃mem,mem=bT (P++((L'++[p])++x::R)++(X2++Q)):=⟨_,rfl⟩;rw[<-fV]at gx gp hZz o3 NL KP aKk;clear cD dY FN;cbv;rw[dJt];refine⟨cp,?_⟩;cbv;refine bZ hZz gp dJs (fun pb pn pc kXX=>?_);cbv;refine⟨cj,?_⟩;cbv;refine bZ hZz gx aKa (fun xb xn xc eXU=>?_);cbv;refine⟨cj,?_⟩;cbv;refine o3.setAt (by decide) (i:=j) NL aKa rfl (x:=p.1) ⟨_,rfl,kXX⟩ (fun h4 k4 t4 o4=>?_);have kXS:=eXU.mono (t4 [61] (by decide));cbv;refine⟨cp,?_⟩;cbv;refine o4.setAt (by decide) (i:=j-1) KP dJs rfl (x:=x.1) ⟨_,rfl,kXS⟩ (fun h5 k5 t5 o5=>?_);rw[aKk]at o5;have Zd:=jL h5 (k4.trans k5) ((t4 _ (by decide)).trans (t5 _ (by decide))) o5;clear jL;cbv;rw[dJt];refine⟨ml,_,fXM,⟨?_,?_,?_⟩,Zd⟩
       ·cbv
       ·cbv
       ·cbv
     ·have lQl:L=[]:=mQT (by omega);subst lQl;have hs:=MD sw (x:=x) (A1:=[]) (A2:=R) (by rw[<-bZQ];exact iZr) (by rw[<-bZQ];exact fXh) (fun p h=>(by cases h)) hR;have jd:=cD h2 [] R bZQ hs k2 t2 o2;clear cD dY FN;rw[nM eZL];cbv;rw[dL];refine⟨mx,_,sh,⟨?_,?_,?_⟩,jd⟩
      ·cbv
      ·cbv
      ·cbv
  ·have aKW:X2=[]:=by
    cases X2 with
    |nil=>rfl
    |cons x X2=>have:=aQp (by simp);rw[mQx]at eZJ;omega
   subst aKW;rw[mQF]at hX;subst hX;have af:=hk h1 C k1 t1 hC iZr (by simpa using o1);clear aY hJ hk;rw[nM aP];cbv;exact af
theorem yR{α:Type}{L:List α}{u:Nat}{p:α}(hu:u<=L.length)(h:(L.take u).getLast?=some p):0<u/\L[u-1]? =some p:=by
 rw[mZD,mQw,mZh hu]at h;have h0:0<u:=by
  rcases mXw u with e|e
  ·subst e;simp at h
  ·exact e
 rw[mXa,if_pos (by omega)]at h;exact⟨h0,h⟩
theorem head_drop{α:Type}{L:List α}{u:Nat}{p:α}(h:(L.drop u).head?=some p):L[u]? =some p:=by rw[List.head?_drop]at h;exact h
theorem OF{P Q:List (Tg Row)}{x y:Tg Row}{n:Nat}(hn:n=P.length):((bT (P++x::y::Q)).set n y.1).set (n+1) x.1=bT (P++y::x::Q):=by
 subst hn;have e1:bT (P++x::y::Q)=bT P++x.1::[]++y.1::bT Q:=by simp[bT]
 have e2:bT (P++y::x::Q)=bT P++y.1::[]++x.1::bT Q:=by simp[bT]
 have h1:=LH (bT P) [] (bT Q) x.1 y.1;have g1:(bT P++x.1::[]++y.1::bT Q)[(bT P).length]? =some x.1:=by simp
 have g2:(bT P++x.1::[]++y.1::bT Q)[(bT P).length+1+([]:List Row).length]? =some y.1:=by simp
 rw[LI g1 g2,<-e2,<-e1,iO]at h1;exact h1
theorem zZ{α:Type}{L:List α}{w:Nat}{y:α}(h:L[w]? =some y):L=L.take w++y::L.drop (w+1)/\L.take (w+1)=L.take w++[y]:=by
 obtain⟨h1,h2⟩:=HH.1 h;constructor
 ·conv=>lhs;rw[<-mXj w L]
  rw[mQy h1,h2]
 ·rw[mXc,h];rfl
theorem yM{P L Q:List (Tg Row)}{w n:Nat}{y:Tg Row}(h:L[w]? =some y)(hn:n=P.length+w):(bT (P++L++Q))[n]? =some y.1:=by have hl:=(HH.1 h).1;subst hn;unfold bT;rw[mQU,mXd,mXM (Nat.le_add_right _ _),mKD,mZz hl,h];rfl
structure bXV(lt:Row->Row->Bool)(f:FuncId)(p0 p1:Value)(nb cap len:Nat)(kW:Row->Prop)(N:Nat):Prop where
 ap:∀ {P A0 B Q:List (Tg Row)} {h:ad} (o:cR h nb cap (bT (P++A0++B++Q))) (hN:A0.length+B.length<=N) (bQc:A0.Pairwise (lx lt)) (hB:B.Pairwise (lx lt)) (ht:∀x∈A0,∀y∈B,x.2<y.2) (aV:∀x∈A0++B,kW x.1) (cmp:Jb lt f p0 p1 nb h kW) (hlen:len=(P++A0++B++Q).length) {za zm zb:Int} {a m b:Nat} (ha:aS za a) (hm:aS zm m) (hb:aS zb b) (ea:a=P.length) (em:m=P.length+A0.length) (eb:b=P.length+A0.length+B.length) (nA:0<A0.length) (nB:0<B.length) {k:Value->ad->Prop}
  (hk:∀h' C,Kp [nb] h h'->bR [61] h h'->C.Perm (A0++B)->C.Pairwise (lx lt)->cR h' nb cap (bT (P++C++Q))->k (.tuple #[]) h'),
  Ct 289 [.slice (some ⟨nb,0,none⟩) len cap,.int .i64 za,.int .i64 zm,.int .i64 zb,.func (.func f) #[] #[p0,p1]] h k
theorem bJI{lt:Row->Row->Bool}(sw:FQ lt){f:FuncId}(hf:aG f=true){p0 p1:Value}{nb cap len:Nat}{kW:Row->Prop}{N:Nat}(ih:bXV lt f p0 p1 nb cap len kW N):bXV lt f p0 p1 nb cap len kW (N+1):=by
 refine⟨?_⟩;intro P A0 B Q h o hN bQc hB ht aV cmp hlen za zm zb a m b ha hm hb ea em eb nA nB k hk;obtain⟨A,hA⟩:=Ar.ex;have Qd:=o.bd;rw[iO,<-hlen]at Qd;obtain⟨mem,fV⟩:∃mem,mem=bT (P++A0++B++Q):=⟨_,rfl⟩;have Wn:len=mem.length:=by rw[fV,iO];exact hlen
 rw[<-fV]at o;have Wm:len=P.length+A0.length+B.length+Q.length:=by rw[hlen];simp only[nX]
 obtain⟨WB,jQ⟩:∃g,g=aG:=⟨_,rfl⟩;have tk:gE Tryz.prog ⟨ty,WB,fKL.aK,fKL.bF,fun _=>false,[],fun _ _ _=>False⟩:=by rw[jQ];exact ax _ _
 have Wp:WB f=true:=by rw[jQ];exact hf
 have TM:WB 317=true:=by rw[jQ];kernel_rfl
 have Ao:WB 289=true:=by rw[jQ];kernel_rfl
 have jQu:A .not false=true:=by rw[hA.not];rfl
 have gJg:A .not true=false:=by rw[hA.not];rfl
 clear jQ;have jQE:=ff (A:=A) hm ha (by omega) (by omega);have jQD:=ff (A:=A) hb hm (by omega) (by omega);obtain⟨zA,jXe⟩:∃z,A .bB .sub .i64 zm za=z:=⟨_,rfl⟩;obtain⟨zB,jXd⟩:∃z,A .bB .sub .i64 zb zm=z:=⟨_,rfl⟩;rw[jXe]at jQE;rw[jXd]at jQD;have fA:A .aI .eql zA 1=decide (A0.length=1):=by rw[aA A,decide_eq_decide];have:=jQE.eq;omega
 have fB:A .aI .eql zB 1=decide (B.length=1):=by rw[aA A,decide_eq_decide];have:=jQD.eq;omega
 have Zc:aS zb (m+B.length):=by rw[show m+B.length=b by omega];exact hb
 have Mi:=ha.bKH (A:=A) hb (by omega) (by omega);obtain⟨NT,cJS⟩:∃z,A .conv .i64 (A .bB .shr .u64 (A .conv .u64 (A .bB .add .i64 za zb)) 1)=z:=⟨_,rfl⟩;rw[cJS]at Mi;obtain⟨md,kKc⟩:∃md,md=(a+b) / 2:=⟨_,rfl⟩;rw[<-kKc]at Mi;have eKR:=vJ (A:=A) Mi hm (by omega);obtain⟨zn,nP⟩:∃z,A .bB .add .i64 NT zm=z:=⟨_,rfl⟩;rw[nP]at eKR;obtain⟨nn,qC⟩:∃nn,nn=md+m:=⟨_,rfl⟩;rw[<-qC]at eKR;obtain⟨J1,MX⟩:∃J1:Int×Int->ad->Prop,∀g h',J1 g h'=∃lo hi,aS g.1 lo/\aS g.2 hi/\lo<=hi/\a<=lo/\hi<=m/\(lo=a\/nn-lo=b)/\(hi=m\/nn-hi=m)/\nn<=lo+b/\hi+m<=nn/\Kp [nb] h h'/\bR [61] h h'/\cR h' nb cap mem:=⟨_,fun _ _=>rfl⟩;have fQi:∀dQD dQE lo hi,aS dQD lo->aS dQE hi->lo<=hi->a<=lo->hi<=m->(lo=a\/nn-lo=b)->(hi=m\/nn-hi=m)->nn<=lo+b->hi+m<=nn->J1 (dQD,dQE) h:=fun dQD dQE lo hi d1 d2 d3 d4 d5 d6 d7 d8 d9=>by rw[MX];exact⟨lo,hi,d1,d2,d3,d4,d5,d6,d7,d8,d9,Kp.refl _ _,bR.refl _ _,o⟩
 refine zo A [false,false,false,false,false,true,false,false,false,true,true] tk Tryz.func289 rfl (by kernel_rfl) ?_;cbv;rw[jXe,fA];by_cases iZx:A0.length=1
 ·rw[kS iZx];obtain⟨x,MI⟩:∃x,A0=[x]:=by
   match A0,iZx with
   | [x],_=>exact⟨x,rfl⟩
  subst MI;have vi:kW x.1:=aV x (by simp);have iZN:mem[a]? =some x.1:=by rw[fV];exact yM (P:=P) (L:=[x]) (Q:=B++Q) (w:=0) rfl (by omega) |> fun h=>by simpa using h
  have ZE:(some (⟨nb,0,none⟩:Addr)).isSome=true/\0<=za/\za<(len:Int):=⟨rfl,ha.ix (by omega)⟩;have kKZ:=ha.eq;obtain⟨I,aY⟩:∃I:Nat->Int×Int->ad->Prop,∀q0 g h',I q0 g h'=∃u v,aS g.1 (m+u)/\aS g.2 (m+v)/\u<=v/\v<=B.length/\q0=v-u/\Kp [nb] h h'/\bR [61] h h'/\cR h' nb cap mem/\(0<u->∀y,B[u-1]? =some y->lt y.1 x.1=true)/\(∀y,B[v]? =some y->lt y.1 x.1=false):=⟨_,fun _ _ _=>rfl⟩;have hJ:I B.length (zm,zb) h:=by rw[aY];exact⟨0,B.length,hm,Zc,mQr _,mQt _,rfl,Kp.refl _ _,bR.refl _ _,o,fun h=>absurd h (by omega),fun y hy=>by rw[mXL (mQt _)]at hy;cases hy⟩
  obtain⟨mz,FH⟩:∃mz,mz=B.length:=⟨_,rfl⟩;rw[<-FH]at hJ;cbv;refine aX.go (G:=Int×Int) (fun g=>[(10,.v (.int .i64 g.1)),(11,.v (.int .i64 g.2))]) (fun _=>[]) (fun q0 g h'=>I q0 g h') mz (zm,zb) ⟨?_,?_,?_⟩ hJ ?_
  ·cbv
  ·cbv
  ·cbv
  ·intro ms g h1 hI;rw[aY]at hI;cbv;obtain⟨u,v,hi,hj,jXr,hv,YQ,k1,t1,o1,Qa,TJ⟩:=hI;obtain⟨gi,gj⟩:=g;replace hi:aS gi (m+u):=hi;replace hj:aS gj (m+v):=hj;have f1:A .aI .lss gi gj=decide (u<v):=by rw[bm A,decide_eq_decide];have:=hi.eq;have:=hj.eq;omega
   rw[f1];by_cases PG:u<v
   ·have nh:=hi.bKH (A:=A) hj (by omega) (by omega);obtain⟨zh,cJT⟩:∃z,A .conv .i64 (A .bB .shr .u64 (A .conv .u64 (A .bB .add .i64 gi gj)) 1)=z:=⟨_,rfl⟩;rw[cJT]at nh;obtain⟨w,hw⟩:∃w,(m+u+(m+v)) / 2=m+w:=⟨(m+u+(m+v)) / 2-m,by omega⟩;rw[hw]at nh;have jXk:u<=w/\w<v:=by omega
    obtain⟨y,hy⟩:=aE (xs:=B) (i:=w) (by omega);have eKU:=nh.eq;have cJp:=o1.sl Wn;have nx:=nh.succ (A:=A) (by omega);obtain⟨z2,dL⟩:∃z2,A .bB .add .i64 zh 1=z2:=⟨_,rfl⟩;rw[dL]at nx;have fJG:(some (⟨nb,0,none⟩:Addr)).isSome=true/\0<=zh/\zh<(len:Int):=⟨rfl,nh.ix (by omega)⟩;have fQR:kW y.1:=aV y (by simp[GD hy]);have gy:mem[m+w]? =some y.1:=by rw[fV];exact yM (P:=P++[x]) (L:=B) (Q:=Q) hy (by simp;omega)
    have Wv:∀h2,lt y.1 x.1=true->Kp [nb] h h2->bR [61] h h2->cR h2 nb cap mem->I (v-(w+1)) (z2,gj) h2:=fun h2 e0 e1 e2 e3=>by
     rw[aY];exact⟨w+1,v,nx,hj,by omega,hv,rfl,e1,e2,e3,fun _ y' Jt=>by rw[mXn,hy]at Jt;cases Jt;exact e0,TJ⟩
    have hIn:∀h2,lt y.1 x.1=false->Kp [nb] h h2->bR [61] h h2->cR h2 nb cap mem->I (w-u) (gi,zh) h2:=fun h2 e0 e1 e2 e3=>by
     rw[aY];exact⟨u,w,hi,nh,by omega,by omega,rfl,e1,e2,e3,Qa,fun y' Jt=>by rw[hy]at Jt;cases Jt;exact e0⟩
    have bZI:v-(w+1)<ms:=by omega
    have tG:w-u<ms:=by omega
    obtain⟨my,fXD⟩:∃my,my=v-(w+1):=⟨_,rfl⟩;obtain⟨mn,HX⟩:∃mn,mn=w-u:=⟨_,rfl⟩;rw[<-fXD]at Wv bZI;rw[<-HX]at hIn tG;clear aY hJ Qa TJ hk;rw[kS PG];cbv;refine⟨by decide,?_⟩;cbv;rw[cJT];refine⟨fJG,?_⟩;cbv;refine bZ cJp gy eKU (fun xb xn xc qx=>?_);cbv;refine⟨ZE,?_⟩;cbv;refine bZ cJp iZN kKZ (fun yb yn yc qy=>?_);cbv;rw[Wp];cbv;refine cmp.ap k1 t1 fQR vi qx qy (fun h3 zc l3 Co=>?_);have f3:A .aI .lss zc 0=lt y.1 x.1:=by
     rw[bm A];cases hh:lt y.1 x.1 with
     |true=>exact kS (Co.2 hh)
     |false=>exact nM (fun h=>by rw[Co.1 h]at hh;cases hh)
    have k3:=k1.trans (l3.kp [nb]);have t3:=t1.trans (l3.t [61]);have o3:=o1.mono (l3.t _);cbv;rw[f3];cases iV:lt y.1 x.1 with
    |true=>
     have jd:=Wv h3 iV k3 t3 o3;clear Wv hIn;cbv;rw[dL];refine⟨my,(_,_),bZI,⟨?_,?_,?_⟩,jd⟩
     ·cbv
     ·cbv
     ·cbv
    |false=>
     have jd:=hIn h3 iV k3 t3 o3;clear Wv hIn;cbv;refine⟨mn,(_,_),tG,⟨?_,?_,?_⟩,jd⟩
     ·cbv
     ·cbv
     ·cbv
   ·have aKi:u=v:=by omega
    subst aKi;clear aY hJ;rw[nM PG];cbv;have hs:=cQg sw (x:=x) (B1:=B.take u) (B2:=B.drop u) (by rw[mXj];exact hB) (by rw[mXj];exact fun y hy=>ht x (by simp) y hy) (fun q hq=>(yR hv hq).elim fun h0 h1=>Qa h0 q h1) (fun q hq=>TJ q (head_drop hq));have n5:=ff (A:=A) hi (⟨rfl⟩:aS 1 1) (by omega) (by omega);obtain⟨z5,fQO⟩:∃z,A .bB .sub .i64 gi 1=z:=⟨_,rfl⟩;rw[fQO]at n5;obtain⟨J,dY⟩:∃J:Nat->Int->ad->Prop,∀m g h',J m g h'=∃w,aS g (a+w)/\w<=u/\m=u-w/\Kp [nb] h h'/\bR [61] h h'/\cR h' nb cap (bT (P++(B.take w++x::B.drop w)++Q)):=⟨_,fun _ _ _=>rfl⟩;have FN:J u za h1:=by rw[dY];exact⟨0,ha,mQr _,rfl,k1,t1,by rw[fV]at o1;simpa using o1⟩
    refine aX.go (G:=Int) (fun g=>[(13,.v (.int .i64 g))]) (fun _=>[]) (fun m g h'=>J m g h') u za ⟨?_,?_,?_⟩ FN ?_
    ·cbv
    ·cbv
    ·cbv
    ·intro hJF zk h2 hJ;rw[dY]at hJ;cbv;obtain⟨w,Ba,jXk,iQU,k2,t2,o2⟩:=hJ;have f5:A .aI .lss zk z5=decide (w<u):=by rw[bm A,decide_eq_decide];have:=Ba.eq;have:=n5.eq;omega
     rw[fQO,f5];by_cases fQW:w<u
     ·obtain⟨y,hy⟩:=aE (xs:=B) (i:=w) (by omega);obtain⟨e1,e2⟩:=zZ hy;have hd:B.drop w=y::B.drop (w+1):=by obtain⟨eZO,cXm⟩:=HH.1 hy;rw[mQy eZO,cXm]
      have uO:=Ba.eq;have nx:=Ba.succ (A:=A) (by omega);obtain⟨z2,dL⟩:∃z2,A .bB .add .i64 zk 1=z2:=⟨_,rfl⟩;rw[dL]at nx;have eKO:=nx.eq;have aKj:(B.take w).length=w:=by rw[mQw];omega
      rw[hd]at o2;have eZV:P++(B.take w++x::y::B.drop (w+1))++Q=(P++B.take w)++x::y::(B.drop (w+1)++Q):=by simp
      rw[eZV]at o2;have aKk:=OF (P:=P++B.take w) (Q:=B.drop (w+1)++Q) (x:=x) (y:=y) (n:=a+w) (by rw[nX];omega);have gx:(bT ((P++B.take w)++x::y::(B.drop (w+1)++Q)))[a+w]? =some x.1:=yZ (by rw[nX];omega);have gy:(bT ((P++B.take w)++x::y::(B.drop (w+1)++Q)))[a+(w+1)]? =some y.1:=by have:=yZ (P:=P++B.take w++[x]) (Q:=B.drop (w+1)++Q) (x:=y) (n:=a+(w+1)) (by simp;omega);simpa using this
      have KN:len=(bT ((P++B.take w)++x::y::(B.drop (w+1)++Q))).length:=by rw[<-eZV,<-hd,iO];simp only[nX,mQx,mQw,mQX];omega
      have jL:∀h3,Kp [nb] h h3->bR [61] h h3->cR h3 nb cap (bT ((P++B.take w)++y::x::(B.drop (w+1)++Q)))->J (u-(w+1)) z2 h3:=fun h3 d1 d2 d3=>by
       rw[dY];exact⟨w+1,nx,by omega,rfl,d1,d2,by rw[e2];simpa using d3⟩
      have sh:u-(w+1)<hJF:=by omega
      obtain⟨mj,fXG⟩:∃mj,mj=u-(w+1):=⟨_,rfl⟩;rw[<-fXG]at jL sh;have zU:(some (⟨nb,0,none⟩:Addr)).isSome=true/\0<=zk/\zk<(len:Int):=⟨rfl,Ba.ix (by omega)⟩;have FO:(some (⟨nb,0,none⟩:Addr)).isSome=true/\0<=z2/\z2<(len:Int):=⟨rfl,nx.ix (by omega)⟩;have dXz:=o2.sl KN;have b1:=(HH.1 gx).1;have b2:=(HH.1 gy).1;obtain⟨kZG,dKg⟩:∃m,m=bT ((P++B.take w)++x::y::(B.drop (w+1)++Q)):=⟨_,rfl⟩;rw[<-dKg]at o2 dXz gx gy b1 b2 aKk;clear dY FN hk hs;rw[kS fQW];cbv;rw[dL];refine⟨FO,?_⟩;cbv;refine bZ dXz gy eKO (fun yb yn yc qy=>?_);cbv;refine⟨zU,?_⟩;cbv;refine bZ dXz gx uO (fun xb xn xc qx=>?_);cbv;refine⟨zU,?_⟩;cbv;refine o2.setAt (by decide) (i:=a+w) b1 uO rfl (x:=y.1) ⟨_,rfl,qy⟩ (fun h3 k3 t3 o3=>?_);have eXV:=qx.mono (t3 [61] (by decide));cbv;refine⟨FO,?_⟩;cbv;refine o3.setAt (by decide) (i:=a+(w+1)) (by rw[mXo];exact b2) eKO rfl (x:=x.1) ⟨_,rfl,eXV⟩ (fun h4 k4 t4 o4=>?_);rw[show a+(w+1)=a+w+1 by omega,aKk]at o4;have Zd:=jL h4 (k2.trans (k3.trans k4)) (t2.trans ((t3 _ (by decide)).trans (t4 _ (by decide)))) o4;clear jL;cbv;rw[dL];refine⟨mj,_,sh,⟨?_,?_,?_⟩,Zd⟩
      ·cbv
      ·cbv
      ·cbv
     ·have PF:w=u:=by omega
      subst PF;have hp:(B.take w++x::B.drop w).Perm ([x]++B):=by refine mZX.trans ?_;rw[mXj];exact List.Perm.refl _
      have af:=hk h2 _ k2 t2 hp hs o2;clear dY FN hk;rw[nM fQW];cbv;exact af
 rw[nM iZx];cbv;rw[jXd,fB];by_cases iZu:B.length=1
 ·rw[kS iZu];obtain⟨x,MI⟩:∃x,B=[x]:=by
   match B,iZu with
   | [x],_=>exact⟨x,rfl⟩
  subst MI;have vi:kW x.1:=aV x (by simp);have iZN:mem[m]? =some x.1:=by rw[fV];exact yM (P:=P++A0) (L:=[x]) (Q:=Q) (w:=0) rfl (by rw[nX];omega) |> fun h=>by simpa using h
  have lXC:(some (⟨nb,0,none⟩:Addr)).isSome=true/\0<=zm/\zm<(len:Int):=⟨rfl,hm.ix (by simp only[mQx,mQK]at Wm;omega)⟩;have eZy:=hm.eq;have RF:aS zm (a+A0.length):=by rw[show a+A0.length=m by omega];exact hm
  obtain⟨I,aY⟩:∃I:Nat->Int×Int->ad->Prop,∀q0 g h',I q0 g h'=∃u v,aS g.1 (a+u)/\aS g.2 (a+v)/\u<=v/\v<=A0.length/\q0=v-u/\Kp [nb] h h'/\bR [61] h h'/\cR h' nb cap mem/\(0<u->∀y,A0[u-1]? =some y->lt x.1 y.1=false)/\(∀y,A0[v]? =some y->lt x.1 y.1=true):=⟨_,fun _ _ _=>rfl⟩;have hJ:I A0.length (za,zm) h:=by rw[aY];exact⟨0,A0.length,ha,RF,mQr _,mQt _,rfl,Kp.refl _ _,bR.refl _ _,o,fun h=>absurd h (by omega),fun y hy=>by rw[mXL (mQt _)]at hy;cases hy⟩
  obtain⟨mz,FH⟩:∃mz,mz=A0.length:=⟨_,rfl⟩;rw[<-FH]at hJ;cbv;refine aX.go (G:=Int×Int) (fun g=>[(14,.v (.int .i64 g.1)),(15,.v (.int .i64 g.2))]) (fun _=>[]) (fun q0 g h'=>I q0 g h') mz (za,zm) ⟨?_,?_,?_⟩ hJ ?_
  ·cbv
  ·cbv
  ·cbv
  ·intro ms g h1 hI;rw[aY]at hI;cbv;obtain⟨u,v,hi,hj,jXr,hv,YQ,k1,t1,o1,Qa,TJ⟩:=hI;obtain⟨gi,gj⟩:=g;replace hi:aS gi (a+u):=hi;replace hj:aS gj (a+v):=hj;have f1:A .aI .lss gi gj=decide (u<v):=by rw[bm A,decide_eq_decide];have:=hi.eq;have:=hj.eq;omega
   rw[f1];by_cases PG:u<v
   ·have nh:=hi.bKH (A:=A) hj (by omega) (by omega);obtain⟨zh,cJT⟩:∃z,A .conv .i64 (A .bB .shr .u64 (A .conv .u64 (A .bB .add .i64 gi gj)) 1)=z:=⟨_,rfl⟩;rw[cJT]at nh;obtain⟨w,hw⟩:∃w,(a+u+(a+v)) / 2=a+w:=⟨(a+u+(a+v)) / 2-a,by omega⟩;rw[hw]at nh;have jXk:u<=w/\w<v:=by omega
    obtain⟨y,hy⟩:=aE (xs:=A0) (i:=w) (by omega);have eKU:=nh.eq;have cJp:=o1.sl Wn;have nx:=nh.succ (A:=A) (by omega);obtain⟨z2,dL⟩:∃z2,A .bB .add .i64 zh 1=z2:=⟨_,rfl⟩;rw[dL]at nx;have fJG:(some (⟨nb,0,none⟩:Addr)).isSome=true/\0<=zh/\zh<(len:Int):=⟨rfl,nh.ix (by omega)⟩;have fQR:kW y.1:=aV y (by simp[GD hy]);have gy:mem[a+w]? =some y.1:=by rw[fV,mXd];exact yM (P:=P) (L:=A0) (Q:=[x]++Q) hy (by omega)
    have Wv:∀h2,lt x.1 y.1=false->Kp [nb] h h2->bR [61] h h2->cR h2 nb cap mem->I (v-(w+1)) (z2,gj) h2:=fun h2 e0 e1 e2 e3=>by
     rw[aY];exact⟨w+1,v,nx,hj,by omega,hv,rfl,e1,e2,e3,fun _ y' Jt=>by rw[mXn,hy]at Jt;cases Jt;exact e0,TJ⟩
    have hIn:∀h2,lt x.1 y.1=true->Kp [nb] h h2->bR [61] h h2->cR h2 nb cap mem->I (w-u) (gi,zh) h2:=fun h2 e0 e1 e2 e3=>by
     rw[aY];exact⟨u,w,hi,nh,by omega,by omega,rfl,e1,e2,e3,Qa,fun y' Jt=>by rw[hy]at Jt;cases Jt;exact e0⟩
    have bZI:v-(w+1)<ms:=by omega
    have tG:w-u<ms:=by omega
    obtain⟨my,fXD⟩:∃my,my=v-(w+1):=⟨_,rfl⟩;obtain⟨mn,HX⟩:∃mn,mn=w-u:=⟨_,rfl⟩;rw[<-fXD]at Wv bZI;rw[<-HX]at hIn tG;clear aY hJ Qa TJ hk;rw[kS PG];cbv;refine⟨by decide,?_⟩;cbv;rw[cJT];refine⟨lXC,?_⟩;cbv;refine bZ cJp iZN eZy (fun xb xn xc qx=>?_);cbv;refine⟨fJG,?_⟩;cbv;refine bZ cJp gy eKU (fun yb yn yc qy=>?_);cbv;rw[Wp];cbv;refine cmp.ap k1 t1 vi fQR qx qy (fun h3 zc l3 Co=>?_);have f3:A .aI .lss zc 0=lt x.1 y.1:=by
     rw[bm A];cases hh:lt x.1 y.1 with
     |true=>exact kS (Co.2 hh)
     |false=>exact nM (fun h=>by rw[Co.1 h]at hh;cases hh)
    have k3:=k1.trans (l3.kp [nb]);have t3:=t1.trans (l3.t [61]);have o3:=o1.mono (l3.t _);cbv;rw[f3];cases iV:lt x.1 y.1 with
    |false=>
     have jd:=Wv h3 iV k3 t3 o3;clear Wv hIn;cbv;rw[jQu];cbv;rw[dL];refine⟨my,(_,_),bZI,⟨?_,?_,?_⟩,jd⟩
     ·cbv
     ·cbv
     ·cbv
    |true=>
     have jd:=hIn h3 iV k3 t3 o3;clear Wv hIn;cbv;rw[gJg];cbv;refine⟨mn,(_,_),tG,⟨?_,?_,?_⟩,jd⟩
     ·cbv
     ·cbv
     ·cbv
   ·have aKi:u=v:=by omega
    subst aKi;clear aY hJ;rw[nM PG];cbv;have hs:=MD sw (x:=x) (A1:=A0.take u) (A2:=A0.drop u) (by rw[mXj];exact bQc) (by rw[mXj];exact fun y hy=>ht y hy x (by simp)) (fun q hq=>(yR hv hq).elim fun h0 h1=>Qa h0 q h1) (fun q hq=>TJ q (head_drop hq));obtain⟨J,dY⟩:∃J:Nat->Int->ad->Prop,∀q0 g h',J q0 g h'=∃t,aS g (a+t)/\u<=t/\t<=A0.length/\q0=t-u/\Kp [nb] h h'/\bR [61] h h'/\cR h' nb cap (bT (P++(A0.take t++x::A0.drop t)++Q)):=⟨_,fun _ _ _=>rfl⟩;have FN:J (A0.length-u) zm h1:=by rw[dY];exact⟨A0.length,by rw[show a+A0.length=m by omega];exact hm,hv,mQt _,rfl,k1,t1,by rw[fV]at o1;simpa using o1⟩
    obtain⟨mq,kKb⟩:∃mq,mq=A0.length-u:=⟨_,rfl⟩;rw[<-kKb]at FN;refine aX.go (G:=Int) (fun g=>[(17,.v (.int .i64 g))]) (fun _=>[]) (fun q0 g h'=>J q0 g h') mq zm ⟨?_,?_,?_⟩ FN ?_
    ·cbv
    ·cbv
    ·cbv
    ·intro hJF zk h2 hJ;rw[dY]at hJ;cbv;obtain⟨t,Ba,lJU,aKj,iQU,k2,t2,o2⟩:=hJ;have f5:A .aI .gtr zk gi=decide (u<t):=by rw[bO A,decide_eq_decide];have:=Ba.eq;have:=hi.eq;omega
     rw[f5];by_cases fXd:u<t
     ·obtain⟨w,hw⟩:∃w,t=w+1:=⟨t-1,by omega⟩;subst hw;obtain⟨y,hy⟩:=aE (xs:=A0) (i:=w) (by omega);obtain⟨e1,e2⟩:=zZ hy;have hd:A0.drop w=y::A0.drop (w+1):=by obtain⟨eZO,cXm⟩:=HH.1 hy;rw[mQy eZO,cXm]
      have uO:=Ba.eq;have nx:=ff (A:=A) Ba (⟨rfl⟩:aS 1 1) (by omega) (by omega);obtain⟨z2,dL⟩:∃z2,A .bB .sub .i64 zk 1=z2:=⟨_,rfl⟩;rw[dL,show a+(w+1)-1=a+w by omega]at nx;have eKO:=nx.eq;have cQz:(A0.take w).length=w:=by rw[mQw];omega
      rw[e2]at o2;have eZV:P++((A0.take w++[y])++x::A0.drop (w+1))++Q=(P++A0.take w)++y::x::(A0.drop (w+1)++Q):=by simp
      rw[eZV]at o2;have aKk:=OF (P:=P++A0.take w) (Q:=A0.drop (w+1)++Q) (x:=y) (y:=x) (n:=a+w) (by rw[nX];omega);rw[mJB _ _ (by omega)]at aKk;have gy:(bT ((P++A0.take w)++y::x::(A0.drop (w+1)++Q)))[a+w]? =some y.1:=yZ (by rw[nX];omega);have gx:(bT ((P++A0.take w)++y::x::(A0.drop (w+1)++Q)))[a+(w+1)]? =some x.1:=by have:=yZ (P:=P++A0.take w++[y]) (Q:=A0.drop (w+1)++Q) (x:=x) (n:=a+(w+1)) (by simp;omega);simpa using this
      have KN:len=(bT ((P++A0.take w)++y::x::(A0.drop (w+1)++Q))).length:=by rw[iO];simp only[nX,mQx,mQw,mQX];simp only[mQx,mQK]at Wm;omega
      have jL:∀h3,Kp [nb] h h3->bR [61] h h3->cR h3 nb cap (bT ((P++A0.take w)++x::y::(A0.drop (w+1)++Q)))->J (w-u) z2 h3:=fun h3 d1 d2 d3=>by
       rw[dY];exact⟨w,nx,by omega,by omega,rfl,d1,d2,by rw[hd];simpa using d3⟩
      have sh:w-u<hJF:=by omega
      obtain⟨mj,fXG⟩:∃mj,mj=w-u:=⟨_,rfl⟩;rw[<-fXG]at jL sh;have zU:(some (⟨nb,0,none⟩:Addr)).isSome=true/\0<=zk/\zk<(len:Int):=⟨rfl,Ba.ix (by simp only[mQx,mQK]at Wm;omega)⟩;have FO:(some (⟨nb,0,none⟩:Addr)).isSome=true/\0<=z2/\z2<(len:Int):=⟨rfl,nx.ix (by simp only[mQx,mQK]at Wm;omega)⟩;have dXz:=o2.sl KN;have b1:=(HH.1 gx).1;have b2:=(HH.1 gy).1;obtain⟨kZG,dKg⟩:∃m,m=bT ((P++A0.take w)++y::x::(A0.drop (w+1)++Q)):=⟨_,rfl⟩;rw[<-dKg]at o2 dXz gx gy b1 b2 aKk;clear dY FN hk hs;rw[kS fXd];cbv;rw[dL];refine⟨FO,?_⟩;cbv;refine bZ dXz gy eKO (fun yb yn yc qy=>?_);cbv;refine⟨zU,?_⟩;cbv;refine bZ dXz gx uO (fun xb xn xc qx=>?_);cbv;refine⟨zU,?_⟩;cbv;refine o2.setAt (by decide) (i:=a+(w+1)) b1 uO rfl (x:=y.1) ⟨_,rfl,qy⟩ (fun h3 k3 t3 o3=>?_);have eXV:=qx.mono (t3 [61] (by decide));cbv;refine⟨FO,?_⟩;cbv;refine o3.setAt (by decide) (i:=a+w) (by rw[mXo];exact b2) eKO rfl (x:=x.1) ⟨_,rfl,eXV⟩ (fun h4 k4 t4 o4=>?_);rw[show a+(w+1)=a+w+1 by omega,aKk]at o4;have Zd:=jL h4 (k2.trans (k3.trans k4)) (t2.trans ((t3 _ (by decide)).trans (t4 _ (by decide)))) o4;clear jL;cbv;rw[dL];refine⟨mj,_,sh,⟨?_,?_,?_⟩,Zd⟩
      ·cbv
      ·cbv
      ·cbv
     ·have PF:t=u:=by omega
      subst PF;have hp:(A0.take t++x::A0.drop t).Perm (A0++[x]):=by refine mZX.trans ?_;rw[mXj];exact(mJb (l₁:=[x]) (l₂:=A0))
      have af:=hk h2 _ k2 t2 hp hs o2;clear dY FN hk;rw[nM fXd];cbv;exact af
 have f6:A .aI .gtr zm NT=decide (m>md):=by rw[bO A,decide_eq_decide];have:=hm.eq;have:=Mi.eq;omega
 rw[nM iZu];cbv;refine⟨by decide,?_⟩;cbv;rw[cJS,nP];refine Dw.go (G:=Int×Int) (fun g=>[(18,.v (.int .i64 NT)),(19,.v (.int .i64 zn)),(20,.v (.int .i64 g.1)),(21,.v (.int .i64 g.2))]) (fun _=>[]) J1 ?_ ?_
 ·clear MX hk;cbv;rw[f6];by_cases RH:m>md
  ·have n7:=ff (A:=A) eKR hb (by omega) (by omega);obtain⟨z7,fQN⟩:∃z,A .bB .sub .i64 zn zb=z:=⟨_,rfl⟩;rw[fQN]at n7;have af:=fQi z7 NT (nn-b) md n7 Mi (by omega) (by omega) (by omega) (.inr (by omega)) (.inr (by omega)) (by omega) (by omega);clear fQi;rw[kS RH];cbv;rw[fQN];refine⟨(_,_),⟨?_,?_,?_⟩,af⟩
   ·cbv
   ·cbv
   ·cbv
  ·have af:=fQi za zm a m ha hm (by omega) (mQt _) (mQt _) (.inl rfl) (.inl rfl) (by omega) (by omega);clear fQi;rw[nM RH];cbv;refine⟨(_,_),⟨?_,?_,?_⟩,af⟩
   ·cbv
   ·cbv
   ·cbv
 ·intro g h1 hg;cbv;rw[MX]at hg;obtain⟨lo,hi,gJj,gJk,kKj,iXU,lKg,kKi,kKx,vo,lKa,k1,t1,o1⟩:=hg;obtain⟨dQD,dQE⟩:=g;replace gJj:aS dQD lo:=gJj;replace gJk:aS dQE hi:=gJk;have jQv:=ff (A:=A) eKR (⟨rfl⟩:aS 1 1) (by omega) (by omega);obtain⟨zp,dJt⟩:∃z,A .bB .sub .i64 zn 1=z:=⟨_,rfl⟩;rw[dJt]at jQv;obtain⟨I,aY⟩:∃I:Nat->Int×Int->ad->Prop,∀q0 g h',I q0 g h'=∃u v,aS g.1 u/\aS g.2 v/\lo<=u/\u<=v/\v<=hi/\q0=v-u/\Kp [nb] h h'/\bR [61] h h'/\cR h' nb cap mem/\(lo<u->∀x y,A0[u-1-a]? =some x->B[nn-u-m]? =some y->lt y.1 x.1=false)/\(v<hi->∀x y,A0[v-a]? =some x->B[nn-1-v-m]? =some y->lt y.1 x.1=true):=⟨_,fun _ _ _=>rfl⟩;have hJ:I (hi-lo) (dQD,dQE) h1:=by rw[aY];exact⟨lo,hi,gJj,gJk,mQt _,kKj,mQt _,rfl,k1,t1,o1,fun h=>absurd h (mZW _),fun h=>absurd h (mZW _)⟩
  obtain⟨mz,FH⟩:∃mz,mz=hi-lo:=⟨_,rfl⟩;rw[<-FH]at hJ;clear MX fQi gJj gJk;rw[dJt];refine aX.go (G:=Int×Int) (fun g=>[(20,.v (.int .i64 g.1)),(21,.v (.int .i64 g.2))]) (fun _=>[]) (fun q0 g h'=>I q0 g h') mz (dQD,dQE) ⟨?_,?_,?_⟩ hJ ?_
  ·cbv
  ·cbv
  ·cbv
  ·intro ms g h2 hI;rw[aY]at hI;cbv;obtain⟨u,v,nu,nv,kKg,jXr,cQy,YQ,k2,t2,o2,gKg,gKi⟩:=hI;obtain⟨gi,gj⟩:=g;replace nu:aS gi u:=nu;replace nv:aS gj v:=nv;have f1:A .aI .lss gi gj=decide (u<v):=by rw[bm A,decide_eq_decide];have:=nu.eq;have:=nv.eq;omega
   rw[f1];by_cases PG:u<v
   ·have nh:=nu.bKH (A:=A) nv (by omega) (by omega);obtain⟨zh,cJT⟩:∃z,A .conv .i64 (A .bB .shr .u64 (A .conv .u64 (A .bB .add .i64 gi gj)) 1)=z:=⟨_,rfl⟩;rw[cJT]at nh;obtain⟨c,hc⟩:∃c,c=(u+v) / 2:=⟨_,rfl⟩;rw[<-hc]at nh;have lKm:u<=c/\c<v:=by omega
    obtain⟨x,hx⟩:=aE (xs:=A0) (i:=c-a) (by omega);obtain⟨y,hy⟩:=aE (xs:=B) (i:=nn-1-c-m) (by omega);have gJh:=ff (A:=A) jQv nh (by omega) (by omega);obtain⟨zq,dJr⟩:∃z,A .bB .sub .i64 zp zh=z:=⟨_,rfl⟩;rw[dJr]at gJh;obtain⟨pc,fXt⟩:∃pc,pc=nn-1-c:=⟨_,rfl⟩;rw[<-fXt]at gJh;have eKU:=nh.eq;have kZt:=gJh.eq;have cJp:=o2.sl Wn;have nx:=nh.succ (A:=A) (by omega);obtain⟨z2,dL⟩:∃z2,A .bB .add .i64 zh 1=z2:=⟨_,rfl⟩;rw[dL]at nx;have fJG:(some (⟨nb,0,none⟩:Addr)).isSome=true/\0<=zh/\zh<(len:Int):=⟨rfl,nh.ix (by omega)⟩;have dQk:(some (⟨nb,0,none⟩:Addr)).isSome=true/\0<=zq/\zq<(len:Int):=⟨rfl,gJh.ix (by omega)⟩;have vi:kW x.1:=aV x (mXK _ (GD hx));have fQR:kW y.1:=aV y (mZw _ (GD hy));have gx:mem[c]? =some x.1:=by rw[fV,mXd (P++A0)];exact yM (P:=P) (L:=A0) (Q:=B++Q) hx (by omega)
    have gy:mem[pc]? =some y.1:=by rw[fV];exact yM (P:=P++A0) (L:=B) (Q:=Q) hy (by rw[nX];omega)
    have Wv:∀h3,lt y.1 x.1=false->Kp [nb] h h3->bR [61] h h3->cR h3 nb cap mem->I (v-(c+1)) (z2,gj) h3:=fun h3 e0 e1 e2 e3=>by
     rw[aY];refine⟨c+1,v,nx,nv,by omega,by omega,cQy,rfl,e1,e2,e3,fun _ x' y' uQ Jt=>?_,gKi⟩;rw[mXn,hx]at uQ;rw[show nn-(c+1)-m=nn-1-c-m by omega,hy]at Jt;cases uQ;cases Jt;exact e0
    have hIn:∀h3,lt y.1 x.1=true->Kp [nb] h h3->bR [61] h h3->cR h3 nb cap mem->I (c-u) (gi,zh) h3:=fun h3 e0 e1 e2 e3=>by
     rw[aY];refine⟨u,c,nu,nh,kKg,by omega,by omega,rfl,e1,e2,e3,gKg,fun _ x' y' uQ Jt=>?_⟩;rw[hx]at uQ;rw[hy]at Jt;cases uQ;cases Jt;exact e0
    have bZI:v-(c+1)<ms:=by omega
    have tG:c-u<ms:=by omega
    obtain⟨my,fXD⟩:∃my,my=v-(c+1):=⟨_,rfl⟩;obtain⟨mn,HX⟩:∃mn,mn=c-u:=⟨_,rfl⟩;rw[<-fXD]at Wv bZI;rw[<-HX]at hIn tG;clear aY hJ gKg gKi hk;rw[kS PG];cbv;refine⟨by decide,?_⟩;cbv;rw[cJT];cbv;rw[dJr];refine⟨dQk,?_⟩;cbv;refine bZ cJp gy kZt (fun yb yn yc qy=>?_);cbv;refine⟨fJG,?_⟩;cbv;refine bZ cJp gx eKU (fun xb xn xc qx=>?_);cbv;rw[Wp];cbv;refine cmp.ap k2 t2 fQR vi qy qx (fun h3 zc l3 Co=>?_);have f3:A .aI .lss zc 0=lt y.1 x.1:=by
     rw[bm A];cases hh:lt y.1 x.1 with
     |true=>exact kS (Co.2 hh)
     |false=>exact nM (fun h=>by rw[Co.1 h]at hh;cases hh)
    have k3:=k2.trans (l3.kp [nb]);have t3:=t2.trans (l3.t [61]);have o3:=o2.mono (l3.t _);cbv;rw[f3];cases iV:lt y.1 x.1 with
    |false=>
     have jd:=Wv h3 iV k3 t3 o3;clear Wv hIn;cbv;rw[jQu];cbv;rw[dL];refine⟨my,(_,_),bZI,⟨?_,?_,?_⟩,jd⟩
     ·cbv
     ·cbv
     ·cbv
    |true=>
     have jd:=hIn h3 iV k3 t3 o3;clear Wv hIn;cbv;rw[gJg];cbv;refine⟨mn,(_,_),tG,⟨?_,?_,?_⟩,jd⟩
     ·cbv
     ·cbv
     ·cbv
   ·have aKi:u=v:=by omega
    subst aKi;clear aY hJ;rw[nM PG];have SH:=ff (A:=A) eKR nu (by omega) (by omega);obtain⟨ze,cN⟩:∃z,A .bB .sub .i64 zn gi=z:=⟨_,rfl⟩;rw[cN]at SH;obtain⟨e,he⟩:∃e,e=nn-u:=⟨_,rfl⟩;rw[<-he]at SH;have PH:a<=u/\u<=m/\m<=e/\e<=b/\e+u=nn:=by omega
    obtain⟨A1,dKU⟩:∃A1,A1=A0.take (u-a):=⟨_,rfl⟩;obtain⟨A2,dKT⟩:∃A2,A2=A0.drop (u-a):=⟨_,rfl⟩;obtain⟨B1,dKQ⟩:∃B1,B1=B.take (e-m):=⟨_,rfl⟩;obtain⟨B2,dKP⟩:∃B2,B2=B.drop (e-m):=⟨_,rfl⟩;have eA:A0=A1++A2:=by rw[dKU,dKT,mXj]
    have eB:B=B1++B2:=by rw[dKQ,dKP,mXj]
    have lJK:A1.length=u-a:=by rw[dKU,mQw];omega
    have lJJ:A2.length=m-u:=by rw[dKT,mQX];omega
    have lJI:B1.length=e-m:=by rw[dKQ,mQw];omega
    have jQQ:B2.length=b-e:=by rw[dKP,mQX];omega
    have MK:∀x∈A1++B1,∀y∈A2++B2,lx lt x y:=by
     refine Oz sw (by rw[<-eA];exact bQc) (by rw[<-eB];exact hB) (by rw[<-eA,<-eB];exact ht) (fun p q hp hq=>?_) (fun q p hq hp=>?_)
     ·rw[dKU]at hp;rw[dKP]at hq;obtain⟨g0,g1⟩:=yR (by omega) hp;have g2:=head_drop hq;have g3:=(HH.1 g2).1;refine gKg (by omega) p q (by rw[show u-1-a=u-a-1 by omega];exact g1) (by rw[show nn-u-m=e-m by omega];exact g2)
     ·rw[dKQ]at hq;rw[dKT]at hp;obtain⟨g0,g1⟩:=yR (by omega) hq;have g2:=head_drop hp;have g3:=(HH.1 g2).1;refine gKi (by omega) p q g2 (by rw[show nn-1-u-m=e-m-1 by omega];exact g1)
    rw[eA,mXe]at bQc;rw[eB,mXe]at hB;obtain⟨jQq,jQp,-⟩:=bQc;obtain⟨jQo,jQn,-⟩:=hB;obtain⟨I2,cD⟩:∃I2:Unit->ad->Prop,∀g h',I2 g h'=(Kp [nb] h h'/\bR [61] h h'/\cR h' nb cap (bT (P++(A1++B1)++(A2++B2)++Q))):=⟨_,fun _ _=>rfl⟩;have f8:A .aI .lss gi zm=decide (u<m):=by rw[bm A,decide_eq_decide];have:=nu.eq;have:=hm.eq;omega
    have f9:A .aI .lss zm ze=decide (m<e):=by rw[bm A,decide_eq_decide];have:=hm.eq;have:=SH.eq;omega
    have lF:∀h',cR h' nb cap mem->(¬u<m\/¬m<e)->cR h' nb cap (bT (P++(A1++B1)++(A2++B2)++Q)):=fun h' q0 q1=>by
     rw[fV,eA,eB]at q0;rcases q1 with q1|q1
     ·have:A2=[]:=mXs.1 (by omega);subst this;simpa using q0
     ·have:B1=[]:=mXs.1 (by omega);subst this;simpa using q0
    have dKm:mem=bT (P++A1)++bT A2++bT B1++bT (B2++Q):=by rw[fV,eA,eB];simp[bT]
    have sH:bT (P++A1)++bT B1++bT A2++bT (B2++Q)=bT (P++(A1++B1)++(A2++B2)++Q):=by simp[bT]
    have oR:cR h2 nb cap (bT (P++A1)++bT A2++bT B1++bT (B2++Q)):=by rw[<-dKm];exact o2
    have jXH:len=(bT (P++A1)++bT A2++bT B1++bT (B2++Q)).length:=by rw[<-dKm];exact Wn
    have hJT:u=(bT (P++A1)).length:=by rw[iO,nX];omega
    have hJS:m=(bT (P++A1)).length+(bT A2).length:=by rw[<-hJT,iO];omega
    have jQP:e=(bT (P++A1)).length+(bT A2).length+(bT B1).length:=by rw[<-hJS,iO];omega
    have gJs:∀h',Kp [nb] h h'->bR [61] h h'->cR h' nb cap (bT (P++(A1++B1)++(A2++B2)++Q))->I2 () h':=fun h' d1 d2 d3=>by rw[cD];exact⟨d1,d2,d3⟩
    have jQA:u<m->bT A2≠[]:=fun h h'=>by have:=congrArg List.length h';rw[iO,mQK]at this;omega
    have jQz:m<e->bT B1≠[]:=fun h h'=>by have:=congrArg List.length h';rw[iO,mQK]at this;omega
    clear gKg gKi;cbv;rw[cN];refine Dw.go (G:=Unit) (fun _=>[]) (fun _=>[]) I2 ?_ ?_
    ·clear hk;cbv;rw[f8];by_cases Wa:u<m
     ·rw[kS Wa];cbv;rw[f9];by_cases eZy:m<e
      ·rw[kS eZy];cbv;rw[TM];cbv;refine Yi oR jXH nu hm SH hJT hJS jQP (jQA Wa) (jQz eZy) _ (fun h3 k3 t3 o3=>?_);rw[sH]at o3;have af:=gJs h3 (k2.trans k3) (t2.trans t3) o3;cbv;refine⟨(),⟨?_,?_,?_⟩,af⟩
       ·cbv
       ·cbv
       ·cbv
      ·have af:=gJs h2 k2 t2 (lF h2 o2 (.inr eZy));rw[nM eZy];cbv;refine⟨(),⟨?_,?_,?_⟩,af⟩
       ·cbv
       ·cbv
       ·cbv
     ·have af:=gJs h2 k2 t2 (lF h2 o2 (.inl Wa));rw[nM Wa];cbv;refine⟨(),⟨?_,?_,?_⟩,af⟩
      ·cbv
      ·cbv
      ·cbv
    ·intro g h3 hg;cbv;rw[cD]at hg;obtain⟨k3,t3,o3⟩:=hg;clear cD gJs dKm sH oR jXH hJT hJS jQP jQA jQz lF f8 f9 o2;have f10:A .aI .lss za gi=decide (a<u):=by rw[bm A,decide_eq_decide];have:=nu.eq;have:=ha.eq;omega
     have f11:A .aI .lss gi NT=decide (u<md):=by rw[bm A,decide_eq_decide];have:=nu.eq;have:=Mi.eq;omega
     obtain⟨I3,jd⟩:∃I3:Unit->ad->Prop,∀g h',I3 g h'=(∃C1,C1.Perm (A1++B1)/\C1.Pairwise (lx lt)/\Kp [nb] h h'/\bR [61] h h'/\cR h' nb cap (bT (P++C1++(A2++B2)++Q))):=⟨_,fun _ _=>rfl⟩;have gJr:∀h' C1,C1.Perm (A1++B1)->C1.Pairwise (lx lt)->Kp [nb] h h'->bR [61] h h'->cR h' nb cap (bT (P++C1++(A2++B2)++Q))->I3 () h':=fun h' C1 d1 d2 d3 d4 d5=>by rw[jd];exact⟨C1,d1,d2,d3,d4,d5⟩
     have RC:∀x∈A1,∀y∈B1,x.2<y.2:=fun x hx y hy=>ht x (by rw[eA];exact mXK _ hx) y (by rw[eB];exact mXK _ hy);have RB:∀x∈A2,∀y∈B2,x.2<y.2:=fun x hx y hy=>ht x (by rw[eA];exact mZw _ hx) y (by rw[eB];exact mZw _ hy);have Wr:∀x∈A1++B1,kW x.1:=fun x hx=>aV x (by rw[eA,eB];simp only[mQv]at hx |-;rcases hx with hx|hx<;>simp[hx]);have cKG:∀x∈A2++B2,kW x.1:=fun x hx=>aV x (by rw[eA,eB];simp only[mQv]at hx |-;rcases hx with hx|hx<;>simp[hx]);have oP:cR h3 nb cap (bT (P++A1++B1++(A2++B2++Q))):=by simpa using o3
     have wE:len=(P++A1++B1++(A2++B2++Q)).length:=by simp only[nX];omega
     have eS:¬(a<u)\/¬(u<md)->(A1++B1).Pairwise (lx lt):=fun q=>by
      rcases q with q|q
      ·have:A1=[]:=mXs.1 (by omega);rw[this];exact jQo
      ·have:B1=[]:=mXs.1 (by omega);rw[this,mQF];exact jQq
     have eKg:a<u->u<md->∀ {k':Value->ad->Prop},(∀h' C,Kp [nb] h3 h'->bR [61] h3 h'->C.Perm (A1++B1)->C.Pairwise (lx lt)->cR h' nb cap (bT (P++C++(A2++B2++Q)))->k' (.tuple #[]) h')->Ct 289 [.slice (some ⟨nb,0,none⟩) len cap,.int .i64 za,.int .i64 gi,.int .i64 NT,.func (.func f) #[] #[p0,p1]] h3 k':=fun q1 q2 k' wT=>ih.ap oP (by omega) jQq jQo RC Wr (cmp.sub k3 t3) wE ha nu Mi ea (by omega) (by omega) (by omega) (by omega) wT;refine Dw.go (G:=Unit) (fun _=>[]) (fun _=>[]) I3 ?_ ?_
     ·clear hk;cbv;rw[f10];by_cases cQQ:a<u
      ·rw[kS cQQ];cbv;rw[f11];by_cases Wa:u<md
       ·rw[kS Wa];cbv;rw[Ao];cbv;refine eKg cQQ Wa (fun h4 C1 k4 t4 hp hc o4=>?_);have af:=gJr h4 C1 hp hc (k3.trans k4) (t3.trans t4) (by simpa using o4);cbv;refine⟨(),⟨?_,?_,?_⟩,af⟩
        ·cbv
        ·cbv
        ·cbv
       ·have af:=gJr h3 _ (List.Perm.refl _) (eS (.inr Wa)) k3 t3 o3;rw[nM Wa];cbv;refine⟨(),⟨?_,?_,?_⟩,af⟩
        ·cbv
        ·cbv
        ·cbv
      ·have af:=gJr h3 _ (List.Perm.refl _) (eS (.inl cQQ)) k3 t3 o3;rw[nM cQQ];cbv;refine⟨(),⟨?_,?_,?_⟩,af⟩
       ·cbv
       ·cbv
       ·cbv
     ·intro g4 h4 jXX;cbv;rw[jd]at jXX;obtain⟨C1,hp,hc,k4,t4,o4⟩:=jXX;clear jd gJr oP eS eKg o3 f10 f11;have lJH:C1.length=md-a:=by rw[hp.length_eq,nX];omega
      have f12:A .aI .lss NT ze=decide (md<e):=by rw[bm A,decide_eq_decide];have:=SH.eq;have:=Mi.eq;omega
      have f13:A .aI .lss ze zb=decide (e<b):=by rw[bm A,decide_eq_decide];have:=SH.eq;have:=hb.eq;omega
      have oP:cR h4 nb cap (bT ((P++C1)++A2++B2++Q)):=by simpa using o4
      have wE:len=((P++C1)++A2++B2++Q).length:=by simp only[nX];omega
      have eS:¬(md<e)\/¬(e<b)->(A2++B2).Pairwise (lx lt):=fun q=>by
       rcases q with q|q
       ·have:A2=[]:=mXs.1 (by omega);rw[this];exact jQn
       ·have:B2=[]:=mXs.1 (by omega);rw[this,mQF];exact jQp
      have fin:∀h' C2,C2.Perm (A2++B2)->C2.Pairwise (lx lt)->Kp [nb] h h'->bR [61] h h'->cR h' nb cap (bT ((P++C1)++C2++Q))->k (.tuple #[]) h':=fun h' C2 d1 d2 d3 d4 d5=>hk h' (C1++C2) d3 d4 (by rw[eA,eB];exact eKA hp d1) (dZg hc d2 hp d1 MK) (by simpa using d5);have hZI:md<e->e<b->∀ {k':Value->ad->Prop},(∀h' C,Kp [nb] h4 h'->bR [61] h4 h'->C.Perm (A2++B2)->C.Pairwise (lx lt)->cR h' nb cap (bT ((P++C1)++C++Q))->k' (.tuple #[]) h')->Ct 289 [.slice (some ⟨nb,0,none⟩) len cap,.int .i64 NT,.int .i64 ze,.int .i64 zb,.func (.func f) #[] #[p0,p1]] h4 k':=fun q1 q2 k' wT=>ih.ap oP (by omega) jQp jQn RB cKG (cmp.sub k4 t4) wE Mi SH hb (by rw[nX];omega) (by rw[nX];omega) (by rw[nX];omega) (by omega) (by omega) wT;clear hk;rw[f12];by_cases cQQ:md<e
      ·rw[kS cQQ];cbv;rw[f13];by_cases Wa:e<b
       ·rw[kS Wa];cbv;rw[Ao];cbv;refine hZI cQQ Wa (fun h5 C2 k5 t5 Gk oq o5=>?_);have af:=fin h5 C2 Gk oq (k4.trans k5) (t4.trans t5) o5;cbv;exact af
       ·have af:=fin h4 _ (List.Perm.refl _) (eS (.inr Wa)) k4 t4 (by simpa using o4);rw[nM Wa];cbv;exact af
      ·have af:=fin h4 _ (List.Perm.refl _) (eS (.inl cQQ)) k4 t4 (by simpa using o4);rw[nM cQQ];cbv;exact af
theorem eJK{lt:Row->Row->Bool}(sw:FQ lt){f:FuncId}(hf:aG f=true){p0 p1:Value}{nb cap len:Nat}{kW:Row->Prop}(N:Nat):bXV lt f p0 p1 nb cap len kW N:=by
 induction N with
 |zero=>refine⟨?_⟩;intro P A0 B Q h o hN bQc hB ht aV cmp hlen za zm zb a m b ha hm hb ea em eb nA nB k hk;omega
 |succ N ih=>exact bJI sw hf ih
inductive Rs(lt:Row->Row->Bool)(bs:Nat):List (Tg Row)->List (Tg Row)->Prop
 |nil:Rs lt bs [] []
 |cons {X1 C1 X C:List (Tg Row)}:X1.length=bs->C1.Perm X1->C1.Pairwise (lx lt)->Rs lt bs X C->Rs lt bs (X1++X) (C1++C)
inductive Rt(lt:Row->Row->Bool)(bs:Nat):List (Tg Row)->List (Tg Row)->Prop
 |last {X C:List (Tg Row)}:X.length<=bs->C.Perm X->C.Pairwise (lx lt)->Rt lt bs X C
 |cons {X1 C1 X C:List (Tg Row)}:X1.length=bs->C1.Perm X1->C1.Pairwise (lx lt)->Rt lt bs X C->Rt lt bs (X1++X) (C1++C)
theorem Rs.snoc{lt:Row->Row->Bool}{bs:Nat}{X C X1 C1:List (Tg Row)}(h:Rs lt bs X C)(hl:X1.length=bs)(hp:C1.Perm X1)(hs:C1.Pairwise (lx lt)):Rs lt bs (X++X1) (C++C1):=by
 induction h with
 |nil=>have:=Rs.cons hl hp hs (Rs.nil (lt:=lt) (bs:=bs));simpa using this
 |cons a b c _ ih=>rw[mXd,mXd];exact Rs.cons a b c ih
theorem Rs.aXs{lt:Row->Row->Bool}{bs:Nat}{X C X1 C1:List (Tg Row)}(h:Rs lt bs X C)(hl:X1.length<=bs)(hp:C1.Perm X1)(hs:C1.Pairwise (lx lt)):Rt lt bs (X++X1) (C++C1):=by
 induction h with
 |nil=>exact Rt.last hl hp hs
 |cons a b c _ ih=>rw[mXd,mXd];exact Rt.cons a b c ih
theorem Rs.perm{lt:Row->Row->Bool}{bs:Nat}{X C:List (Tg Row)}(h:Rs lt bs X C):C.Perm X:=by
 induction h with
 |nil=>exact List.Perm.refl _
 |cons a b c _ ih=>exact b.append ih
theorem Rt.perm{lt:Row->Row->Bool}{bs:Nat}{X C:List (Tg Row)}(h:Rt lt bs X C):C.Perm X:=by
 induction h with
 |last a b c=>exact b
 |cons a b c _ ih=>exact b.append ih
theorem Rt.aXz{lt:Row->Row->Bool}{bs:Nat}{X C:List (Tg Row)}(h:Rt lt bs X C)(hl:bs<=X.length):∃X1 X2 C1 C2,X=X1++X2/\C=C1++C2/\X1.length=bs/\C1.Perm X1/\C1.Pairwise (lx lt)/\Rt lt bs X2 C2:=by
 cases h with
 |last a b c=>exact⟨X,[],C,[],by simp,by simp,by omega,b,c,Rt.last (by simp) (List.Perm.refl _) List.Pairwise.nil⟩
 |cons a b c d=>exact⟨_,_,_,_,rfl,rfl,a,b,c,d⟩
theorem Rt.small{lt:Row->Row->Bool}{bs:Nat}{X C:List (Tg Row)}(h:Rt lt bs X C)(hl:X.length<=bs):C.Pairwise (lx lt):=by
 cases h with
 |last a b c=>exact c
 | @cons X1 C1 X C a b c d=>rw[nX,a]at hl;have h2:=d.perm.length_eq;have h3:C=[]:=mXs.1 (by omega);rw[h3,mQF];exact c
theorem Ro.bKH{X Y Z:List (Tg Row)}(h:Ro (X++Y++Z)):Ro Y:=by unfold Ro at h |-;rw[mXe,mXe]at h;exact h.1.2.1
theorem Ro.two{P X Y Q:List (Tg Row)}(h:Ro (P++(X++(Y++Q)))):∀x∈X,∀y∈Y,x.2<y.2:=by unfold Ro at h;rw[mXe,mXe]at h;exact fun x hx y hy=>h.2.1.2.2 x hx y (mXK _ hy)
theorem cQc{A:Ar}[hA:bM A]{z:Int}{i:Nat}(hz:aS z i)(h:i<2^60):aS (A .bB .mul .i64 2 z) (2*i)/\aS (A .bB .mul .i64 z 2) (2*i):=by
 have h1:=hz.eq;constructor
 ·constructor;rw[hA.bB];show IntKind.wrap .i64 (2*z)=_;rw[IntWalk.i64_in _ (by omega)];omega
 ·constructor;rw[hA.bB];show IntKind.wrap .i64 (z*2)=_;rw[IntWalk.i64_in _ (by omega)];omega
theorem cJR{lt:Row->Row->Bool}(sw:FQ lt){f:FuncId}(hf:aG f=true){p0 p1:Value}{nb cap n:Nat}{kW:Row->Prop}{X XD X1 XR CD:List (Tg Row)}{h0 h:ad}(o:cR h nb cap (bT (CD++(X1++XR))))(hX:X=XD++(X1++XR))(pD:CD.Perm XD)(Sv:Ro X)(aV:∀x∈X,kW x.1)(cmp:Jb lt f p0 p1 nb h0 kW)(k0:Kp [nb] h0 h)(t0:bR [61] h0 h)(en:n=X.length){za zb:Int}{a b:Nat}(ha:aS za a)(hb:aS zb b)(ea:a=XD.length)(eb:b=XD.length+X1.length){k:Value->ad->Prop}
 (hk:∀h' C,Kp [nb] h h'->bR [61] h h'->C.Perm X1->C.Pairwise (lx lt)->cR h' nb cap (bT ((CD++C)++XR))->k (.tuple #[]) h'):
 Ct 288 [.slice (some ⟨nb,0,none⟩) n cap,.int .i64 za,.int .i64 zb,.func (.func f) #[] #[p0,p1]] h k:=by
 have hl:=pD.length_eq;refine MB sw hf (P:=CD) (X:=X1) (Q:=XR) (by rw[mXd];exact o) ?_ (fun x hx=>aV x (by rw[hX];simp[hx])) (cmp.sub k0 t0) ?_ ha hb (by omega) (by omega) hk
 ·rw[hX,<-mXd]at Sv;exact Sv.bKH
 ·rw[en,hX];simp only[nX];omega
theorem cJH{lt:Row->Row->Bool}(sw:FQ lt){f:FuncId}(hf:aG f=true){p0 p1:Value}{nb cap n:Nat}{kW:Row->Prop}{X XD Xa Xb XR CD Ca Cb CR:List (Tg Row)}{h0 h:ad}(o:cR h nb cap (bT (CD++(Ca++(Cb++CR)))))(hX:X=XD++(Xa++(Xb++XR)))(pD:CD.Perm XD)(pa:Ca.Perm Xa)(pb:Cb.Perm Xb)(pR:CR.Perm XR)(sa:Ca.Pairwise (lx lt))(sb:Cb.Pairwise (lx lt))(la:0<Xa.length)(lb:0<Xb.length)(Sv:Ro X)(aV:∀x∈X,kW x.1)(cmp:Jb lt f p0 p1 nb h0 kW)(k0:Kp [nb] h0 h)(t0:bR [61] h0 h)(en:n=X.length){za zm zb:Int}{a m b:Nat}(ha:aS za a)(hm:aS zm m)(hb:aS zb b)(ea:a=XD.length)(em:m=XD.length+Xa.length)(eb:b=XD.length+Xa.length+Xb.length){k:Value->ad->Prop}
 (hk:∀h' C,Kp [nb] h h'->bR [61] h h'->C.Perm (Xa++Xb)->C.Pairwise (lx lt)->cR h' nb cap (bT ((CD++C)++CR))->k (.tuple #[]) h'):
 Ct 289 [.slice (some ⟨nb,0,none⟩) n cap,.int .i64 za,.int .i64 zm,.int .i64 zb,.func (.func f) #[] #[p0,p1]] h k:=by
 have l1:=pD.length_eq;have l2:=pa.length_eq;have l3:=pb.length_eq;have l4:=pR.length_eq;rw[hX]at Sv;have h2:=Sv.two;have e1:CD++(Ca++(Cb++CR))=CD++Ca++Cb++CR:=by simp
 rw[e1]at o;refine(eJK sw hf (Ca.length+Cb.length)).ap o (mQt _) sa sb (fun x hx y hy=>h2 x (pa.subset hx) y (pb.subset hy)) (fun x hx=>aV x ?_) (cmp.sub k0 t0) ?_ ha hm hb (by omega) (by omega) (by omega) (by omega) (by omega) (fun h' C d1 d2 d3 d4 d5=>hk h' C d1 d2 (d3.trans (pa.append pb)) d4 d5)
 ·rw[hX];rcases mQv.1 hx with hx|hx
  ·simp[pa.subset hx]
  ·simp[pb.subset hx]
 ·rw[en,hX];simp only[nX];omega
theorem XM{lt:Row->Row->Bool}(sw:FQ lt){f:FuncId}(hf:aG f=true){p0 p1:Value}{nb cap n:Nat}{kW:Row->Prop}{X:List (Tg Row)}{h:ad}(o:cR h nb cap (bT X))(Sv:Ro X)(aV:∀x∈X,kW x.1)(cmp:Jb lt f p0 p1 nb h kW)(en:n=X.length){zn:Int}(hn:aS zn n){k:Value->ad->Prop}
 (hk:∀h' C,Kp [nb] h h'->bR [61] h h'->C.Perm X->C.Pairwise (lx lt)->cR h' nb cap (bT C)->k (.tuple #[]) h'):
 Ct 253 [.slice (some ⟨nb,0,none⟩) n cap,.int .i64 zn,.func (.func f) #[] #[p0,p1]] h k:=by
 obtain⟨A,hA⟩:=Ar.ex;have Qd:=o.bd;rw[iO,<-en]at Qd;obtain⟨WB,jQ⟩:∃g,g=aG:=⟨_,rfl⟩;have tk:gE Tryz.prog ⟨ty,WB,cZO.aK,cZO.bF,fun _=>false,[],fun _ _ _=>False⟩:=by rw[jQ];exact ax _ _
 have eZE:WB 288=true:=by rw[jQ];kernel_rfl
 have Ao:WB 289=true:=by rw[jQ];kernel_rfl
 clear jQ;have jQJ:aS 20 20:=⟨rfl⟩;obtain⟨I,aY⟩:∃I:Nat->Int×Int->ad->Prop,∀q0 g h',I q0 g h'=∃XD XR CD,X=XD++XR/\Rs lt 20 XD CD/\aS g.1 XD.length/\aS g.2 (XD.length+20)/\q0=XR.length/\Kp [nb] h h'/\bR [61] h h'/\cR h' nb cap (bT (CD++XR)):=⟨_,fun _ _ _=>rfl⟩;have hJ:I n (0,20) h:=by rw[aY];exact⟨[],X,[],rfl,Rs.nil,⟨rfl⟩,⟨rfl⟩,en,Kp.refl _ _,bR.refl _ _,o⟩
 obtain⟨J,dY⟩:∃J:Nat->Int->ad->Prop,∀q0 g h',J q0 g h'=∃bs C,aS g bs/\20<=bs/\bs<=2*n+20/\q0=n-bs/\Kp [nb] h h'/\bR [61] h h'/\Rt lt bs X C/\cR h' nb cap (bT C):=⟨_,fun _ _ _=>rfl⟩;refine ah A tk Tryz.func253 rfl (by kernel_rfl) ?_;cbv;refine aX.go (G:=Int×Int) (fun g=>[(7,.v (.int .i64 g.1)),(8,.v (.int .i64 g.2))]) (fun _=>[]) (fun q0 g h'=>I q0 g h') n (0,20) ⟨?_,?_,?_⟩ hJ ?_
 ·cbv
 ·cbv
 ·cbv
 ·intro ms g h1 hI;rw[aY]at hI;cbv;obtain⟨XD,XR,CD,hX,fl,na,px,YQ,k1,t1,o1⟩:=hI;obtain⟨ga,gb⟩:=g;replace na:aS ga XD.length:=na;replace px:aS gb (XD.length+20):=px;have eZJ:n=XD.length+XR.length:=by rw[en,hX,nX]
  have f1:A .aI .leq gb zn=decide (20<=XR.length):=by rw[vM A,decide_eq_decide];have:=px.eq;have:=hn.eq;omega
  rw[f1];have pD:=fl.perm;by_cases bZX:20<=XR.length
  ·obtain⟨X1,aQu⟩:∃X1,X1=XR.take 20:=⟨_,rfl⟩;obtain⟨X2,aKW⟩:∃X2,X2=XR.drop 20:=⟨_,rfl⟩;have eX:XR=X1++X2:=by rw[aQu,aKW,mXj]
   have l1:X1.length=20:=by rw[aQu,mQw];omega
   have l2:X2.length<ms:=by rw[aKW,mQX];omega
   rw[eX]at hX o1;have nx:=vJ (A:=A) px jQJ (by omega);obtain⟨z2,dL⟩:∃z2,A .bB .add .i64 gb 20=z2:=⟨_,rfl⟩;rw[dL]at nx;have call:∀ {k':Value->ad->Prop},(∀h' C,Kp [nb] h1 h'->bR [61] h1 h'->C.Perm X1->C.Pairwise (lx lt)->cR h' nb cap (bT ((CD++C)++X2))->k' (.tuple #[]) h')->Ct 288 [.slice (some ⟨nb,0,none⟩) n cap,.int .i64 ga,.int .i64 gb,.func (.func f) #[] #[p0,p1]] h1 k':=fun wT=>cJR sw hf o1 hX pD Sv aV cmp k1 t1 en na px rfl (by omega) wT;have cD:∀h2 C,C.Perm X1->C.Pairwise (lx lt)->Kp [nb] h h2->bR [61] h h2->cR h2 nb cap (bT ((CD++C)++X2))->I X2.length (gb,z2) h2:=fun h2 C d1 d2 d3 d4 d5=>by
    rw[aY];exact⟨XD++X1,X2,CD++C,by rw[hX,mXd],fl.snoc l1 d1 d2,by rw[nX,l1];exact px,by rw[nX,l1];exact nx,rfl,d3,d4,d5⟩
   obtain⟨mx,fXE⟩:∃mx,mx=X2.length:=⟨_,rfl⟩;rw[<-fXE]at cD l2;clear aY hJ hk dY;rw[kS bZX];cbv;rw[eZE];cbv;refine call (fun h2 C k2 t2 d1 d2 o2=>?_);have jd:=cD h2 C d1 d2 (k1.trans k2) (t1.trans t2) o2;clear cD call;cbv;rw[dL];refine⟨mx,(_,_),l2,⟨?_,?_,?_⟩,jd⟩
   ·cbv
   ·cbv
   ·cbv
  ·have cJD:cR h1 nb cap (bT (CD++(XR++[]))):=by rw[mQF];exact o1
   have bZO:X=XD++(XR++[]):=by rw[mQF];exact hX
   have call:∀ {k':Value->ad->Prop},(∀h' C,Kp [nb] h1 h'->bR [61] h1 h'->C.Perm XR->C.Pairwise (lx lt)->cR h' nb cap (bT ((CD++C)++[]))->k' (.tuple #[]) h')->Ct 288 [.slice (some ⟨nb,0,none⟩) n cap,.int .i64 ga,.int .i64 zn,.func (.func f) #[] #[p0,p1]] h1 k':=fun wT=>cJR sw hf cJD bZO pD Sv aV cmp k1 t1 en na hn rfl eZJ wT;have bZn:∀h2 C,C.Perm XR->C.Pairwise (lx lt)->Kp [nb] h h2->bR [61] h h2->cR h2 nb cap (bT ((CD++C)++[]))->J (n-20) 20 h2:=fun h2 C d1 d2 d3 d4 d5=>by
    rw[dY];exact⟨20,CD++C,jQJ,mQt _,by omega,rfl,d3,d4,by rw[hX];exact fl.aXs (by omega) d1 d2,by rw[mQF]at d5;exact d5⟩
   clear aY hJ na px f1 o1 cJD hX bZO fl pD;obtain⟨mz,FH⟩:∃mz,mz=n-20:=⟨_,rfl⟩;rw[<-FH]at bZn;rw[nM bZX];cbv;rw[eZE];cbv;refine call (fun h2 C k2 t2 d1 d2 o2=>?_);have FN:=bZn h2 C d1 d2 (k1.trans k2) (t1.trans t2) o2;clear bZn call;cbv;refine aX.go (G:=Int) (fun g=>[(6,.v (.int .i64 g))]) (fun _=>[]) (fun q0 g h'=>J q0 g h') mz 20 ⟨?_,?_,?_⟩ FN ?_
   ·cbv
   ·cbv
   ·cbv
   ·intro jQK g h3 Zd;rw[dY]at Zd;cbv;obtain⟨bs,C3,ng,lQD,JD,kJZ,k3,t3,bk,o3⟩:=Zd;have f2:A .aI .lss g zn=decide (bs<n):=by rw[bm A,decide_eq_decide];have:=ng.eq;have:=hn.eq;omega
    rw[f2];by_cases aKR:bs<n
    ·have hd:=cQc (A:=A) ng (by omega);obtain⟨zw,wA⟩:∃z,A .bB .mul .i64 2 g=z:=⟨_,rfl⟩;obtain⟨zv,aJX⟩:∃z,A .bB .mul .i64 g 2=z:=⟨_,rfl⟩;rw[wA,aJX]at hd;obtain⟨nw,nv⟩:=hd;have bZn:∀h2 C,Rt lt (2*bs) X C->Kp [nb] h h2->bR [61] h h2->cR h2 nb cap (bT C)->J (n-2*bs) zv h2:=fun h2 C d2 d3 d4 d5=>by
      rw[dY];exact⟨2*bs,C,nv,by omega,by omega,rfl,d3,d4,d2,d5⟩
     have pz:n-2*bs<jQK:=by omega
     obtain⟨mj,fXG⟩:∃mj,mj=n-2*bs:=⟨_,rfl⟩;rw[<-fXG]at bZn pz;obtain⟨I,aY⟩:∃I:Nat->Int×Int->ad->Prop,∀q0 g h',I q0 g h'=∃XD XR CD CR,X=XD++XR/\Rs lt (2*bs) XD CD/\Rt lt bs XR CR/\aS g.1 XD.length/\aS g.2 (XD.length+2*bs)/\q0=XR.length/\Kp [nb] h h'/\bR [61] h h'/\cR h' nb cap (bT (CD++CR)):=⟨_,fun _ _ _=>rfl⟩;have hJ:I n (0,zw) h3:=by rw[aY];exact⟨[],X,[],C3,rfl,Rs.nil,bk,⟨rfl⟩,by rw[mQK,mQY];exact nw,en,k3,t3,o3⟩
     clear dY hk;rw[kS aKR];cbv;rw[wA];refine aX.go (G:=Int×Int) (fun g=>[(7,.v (.int .i64 g.1)),(8,.v (.int .i64 g.2))]) (fun _=>[]) (fun q0 g h'=>I q0 g h') n (0,zw) ⟨?_,?_,?_⟩ hJ ?_
     ·cbv
     ·cbv
     ·cbv
     ·intro kZF g3 h4 hI;rw[aY]at hI;cbv;obtain⟨XD,XR,CD,CR,hX,fl,gKR,na,px,YQ,k4,t4,o4⟩:=hI;obtain⟨ga,gb⟩:=g3;replace na:aS ga XD.length:=na;replace px:aS gb (XD.length+2*bs):=px;have eZJ:n=XD.length+XR.length:=by rw[en,hX,nX]
      have f1:A .aI .leq gb zn=decide (2*bs<=XR.length):=by rw[vM A,decide_eq_decide];have:=px.eq;have:=hn.eq;omega
      rw[f1];have pD:=fl.perm;have nm:=vJ (A:=A) na ng (by omega);obtain⟨zm,aJZ⟩:∃z,A .bB .add .i64 ga g=z:=⟨_,rfl⟩;rw[aJZ]at nm;by_cases jZD:2*bs<=XR.length
      ·obtain⟨Xa,Xt,Ca,mQc,e1,e2,la,pa,sa,gKQ⟩:=gKR.aXz (by omega);have ji:Xt.length+bs=XR.length:=by rw[e1,nX];omega
       obtain⟨Xb,Xr,Cb,Cr,e3,e4,lb,pb,sb,jJC⟩:=gKQ.aXz (by omega);have iJ:Xr.length+bs=Xt.length:=by rw[e3,nX];omega
       have bZO:X=XD++(Xa++(Xb++Xr)):=by rw[hX,e1,e3]
       have hJw:cR h4 nb cap (bT (CD++(Ca++(Cb++Cr)))):=by rw[<-e4,<-e2];exact o4
       have nx:=vJ (A:=A) px nw (by omega);obtain⟨z2,dL⟩:∃z2,A .bB .add .i64 gb zw=z2:=⟨_,rfl⟩;rw[dL]at nx;have l2:Xr.length<kZF:=by omega
       have call:∀ {k':Value->ad->Prop},(∀h' C,Kp [nb] h4 h'->bR [61] h4 h'->C.Perm (Xa++Xb)->C.Pairwise (lx lt)->cR h' nb cap (bT ((CD++C)++Cr))->k' (.tuple #[]) h')->Ct 289 [.slice (some ⟨nb,0,none⟩) n cap,.int .i64 ga,.int .i64 zm,.int .i64 gb,.func (.func f) #[] #[p0,p1]] h4 k':=fun wT=>cJH sw hf hJw bZO pD pa pb jJC.perm sa sb (by omega) (by omega) Sv aV cmp k4 t4 en na nm px rfl (by omega) (by omega) wT;have cD:∀h2 C,C.Perm (Xa++Xb)->C.Pairwise (lx lt)->Kp [nb] h h2->bR [61] h h2->cR h2 nb cap (bT ((CD++C)++Cr))->I Xr.length (gb,z2) h2:=fun h2 C d1 d2 d3 d4 d5=>by
        rw[aY];have tW:(XD++(Xa++Xb)).length=XD.length+2*bs:=by simp only[nX];omega
        exact⟨XD++(Xa++Xb),Xr,CD++C,Cr,by rw[bZO];simp,fl.snoc (by rw[nX];omega) d1 d2,jJC,by rw[tW];exact px,by rw[tW];exact nx,rfl,d3,d4,d5⟩
       obtain⟨mx,fXE⟩:∃mx,mx=Xr.length:=⟨_,rfl⟩;rw[<-fXE]at cD l2;clear aY hJ bZn;rw[kS jZD];cbv;rw[aJZ,Ao];cbv;refine call (fun h2 C k2 t2 d1 d2 o2=>?_);have jd:=cD h2 C d1 d2 (k4.trans k2) (t4.trans t2) o2;clear cD call;cbv;rw[wA];cbv;rw[dL];refine⟨mx,(_,_),l2,⟨?_,?_,?_⟩,jd⟩
       ·cbv
       ·cbv
       ·cbv
      ·have f3:A .aI .lss zm zn=decide (bs<XR.length):=by rw[bm A,decide_eq_decide];have:=nm.eq;have:=hn.eq;omega
       rw[nM jZD];clear aY hJ;cbv;rw[aJZ];cbv;rw[f3];by_cases jZE:bs<XR.length
       ·obtain⟨Xa,Xb,Ca,Cb,e1,e2,la,pa,sa,gKQ⟩:=gKR.aXz (by omega);have ji:Xb.length+bs=XR.length:=by rw[e1,nX];omega
        have sb:=gKQ.small (by omega);have bZO:X=XD++(Xa++(Xb++[])):=by rw[hX,e1,mQF]
        have hJw:cR h4 nb cap (bT (CD++(Ca++(Cb++[])))):=by rw[mQF,<-e2];exact o4
        have call:∀ {k':Value->ad->Prop},(∀h' C,Kp [nb] h4 h'->bR [61] h4 h'->C.Perm (Xa++Xb)->C.Pairwise (lx lt)->cR h' nb cap (bT ((CD++C)++[]))->k' (.tuple #[]) h')->Ct 289 [.slice (some ⟨nb,0,none⟩) n cap,.int .i64 ga,.int .i64 zm,.int .i64 zn,.func (.func f) #[] #[p0,p1]] h4 k':=fun wT=>cJH sw hf hJw bZO pD pa gKQ.perm (List.Perm.refl _) sa sb (by omega) (by omega) Sv aV cmp k4 t4 en na nm hn rfl (by omega) (by omega) wT;have fQg:∀h2 C,C.Perm (Xa++Xb)->C.Pairwise (lx lt)->Kp [nb] h h2->bR [61] h h2->cR h2 nb cap (bT ((CD++C)++[]))->J mj zv h2:=fun h2 C d1 d2 d3 d4 d5=>bZn h2 (CD++C) (by rw[hX,e1];exact fl.aXs (by rw[nX];omega) d1 d2) d3 d4 (by rw[mQF]at d5;exact d5);rw[kS jZE];cbv;rw[Ao];cbv;refine call (fun h2 C k2 t2 d1 d2 o2=>?_);have jd:=fQg h2 C d1 d2 (k4.trans k2) (t4.trans t2) o2;clear fQg bZn call;cbv;rw[aJX];refine⟨mj,_,pz,⟨?_,?_,?_⟩,jd⟩
        ·cbv
        ·cbv
        ·cbv
       ·have jd:=bZn h4 (CD++CR) (by rw[hX];exact fl.aXs (by omega) gKR.perm (gKR.small (by omega))) k4 t4 o4;rw[nM jZE];clear bZn;cbv;rw[aJX];refine⟨mj,_,pz,⟨?_,?_,?_⟩,jd⟩
        ·cbv
        ·cbv
        ·cbv
    ·have af:=hk h3 C3 k3 t3 bk.perm (bk.small (by omega)) o3;clear dY hk;rw[nM aKR];cbv;exact af
end Go.S
