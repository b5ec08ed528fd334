import Derived.Test.YtifjeceolckgaaaGreatWQ
set_option linter.all false
set_option maxRecDepth 100000
set_option maxHeartbeats 8000000
namespace Go.S
open Go.Sx Go.Proofs
variable {xs ys:List wK}{b:Option Addr}{h:ad}
theorem nQU{b':Option Addr}{n c t c':Nat}(q:zW kn h (.slice b n c) xs)(qm:zW kn h (.slice b' t c') ys){ss sb H:aJ}(ts:cL ao nXj=(ss,0)/\bJ nXj=true)(tb:cL ao nXk=(sb,0)/\bJ nXk=true)(bn:cL ao mKU=(H,0)/\bJ mKU=true)(Cp:dr ss)(cq:dr sb)(cA:dr H)
 (bd:∀ {R C d},AL 25 R C d->∃r,iD d 0 ss=(r,[],0)/\GD d.az C.length 50 r) (bk:∀ {T:List cW} {n m:Nat} {d:DB},GD T n m d->∃r,iD d 0 sb=(r,[],0)/\r.az=T/\EJ m r/\(iD r 0 H).2.2=2):
 Ct 4 [.slice b n c,.slice b' t c'] h (λv h'=>Le h h'/\v=.bool true):=by
 obtain⟨A,hA⟩:=Ar.ex;have zd:A .not true=false:=by rw[hA.not];rfl
 refine mQF T4 A Tryz.func4 ?_;cbv;refine(qU h).mono (λv h1 hR=>?_);obtain⟨l1,hv⟩:=hR;subst hv;cbv;rw[zd];cbv;refine vR (q.mono l1) (λh2 b1 n1 c1 b2 n2 c2 b3 n3 c3 b4 n4 c4 R C d l2 vh al=>?_);obtain⟨r,MY,F⟩:=bd al;have ej:=al.ej;have pG:=al.aj.az;have Ac:=vh.xj;have lG:n1=3:=by rw[Ac.len,pG];rfl
 subst lG;have t0:∀i,i<3->d.az[i]? =some ⟨aF i,R i⟩:=λi hi=>by
  rw[pG]
  match i,hi with
  |0,_=>rfl
  |1,_=>rfl
  |2,_=>rfl
 have DE:d.az.length=3:=by rw[pG];rfl
 have u:=qm.mono (l1.trans l2);clear bd al pG;obtain⟨T,aZ⟩:∃T,T=d.az:=⟨_,rfl⟩;rw[<-aZ]at F t0 DE;obtain⟨nl,Al⟩:∃nl,nl=C.length:=⟨_,rfl⟩;rw[<-Al]at F;have E:Sl 51 ef h2 (.slice b1 3 c1) T:=by rw[aZ];exact Ac
 clear aZ Al Ac;cbv;refine Lh vh ej (by decide) ts.2 ts.1 Cp (iE.all _ _ _) (λh3 aW ak az aV aj au aK ag ar aH ab an _ _ _ l3 Hq _=>?_);rw[MY]at Hq |-;replace Hq:ik h3 (.agg #[.slice aW ak az,.slice aV aj au,.slice aK ag ar,.slice aH ab an]) r:=Hq;have um:A .aI .neq 0 0=false:=by rw[aC A];rfl
 have E:=E.mono (l3.t _);have u:=u.mono l3;have lt:=(l1.trans l2).trans l3;obtain⟨I,aY⟩:∃I:Nat->Int×gKW->ad->Prop,∀m g h',I m g h'=∃i Y,aS g.1 i/\i<=20/\m=20-i/\Le h3 h'/\ik h' g.2.v Y/\GD T nl (50+402*i) Y:=⟨_,λ_ _ _=>rfl⟩;have hJ:I 20 (0,⟨aW,ak,az,aV,aj,au,aK,ag,ar,aH,ab,an⟩) h3:=by rw[aY];exact⟨0,r,⟨rfl⟩,by omega,rfl,Le.refl _,Hq,F⟩
 clear MY F Hq vh ej ts Cp q qm l1 l2 l3;cbv;rw[um];cbv;refine aX.go (G:=Int×gKW) (λg=>[(9,.v (.int .i64 g.1))]) (λg=>[(5,[.slice g.2.b1 g.2.n1 g.2.c1,.slice g.2.b2 g.2.n2 g.2.c2,.slice g.2.b3 g.2.n3 g.2.c3,.slice g.2.b4 g.2.n4 g.2.c4])]) (λm g h'=>I m g h') 20 (0,⟨aW,ak,az,aV,aj,au,aK,ag,ar,aH,ab,an⟩) (by constructor<;>cbv) hJ ?_
 intro m g h4 hI;rw[aY]at hI;cbv;obtain⟨i,Y,U,cB,hm,AY,qd,L⟩:=hI;obtain⟨z,a1,i1,j1,a2,i2,j2,a3,i3,j3,a4,i4,j4⟩:=g;replace U:aS z i:=U;replace qd:ik h4 (.agg #[.slice a1 i1 j1,.slice a2 i2 j2,.slice a3 i3 j3,.slice a4 i4 j4]) Y:=qd;have f1:A .aI .lss z (A .nat t)=decide (i<t):=U.iJ (aS.nat t);have f2:A .aI .lss z 20=decide (i<20):=by rw[bm A,decide_eq_decide];have:=U.eq;omega
 by_cases tY:i<t/\i<20
 .obtain⟨P,bc⟩:=tY;have V:=u.mono AY;obtain⟨x,hx⟩:=aE (xs:=ys) (i:=i) (by have:=V.len;omega);have cJ:b'.isSome=true/\0<=z/\z<(t:Int):=⟨V.aT,U.ix P⟩;have cN:=U.eq;have cZ:=U.succ (A:=A);obtain⟨z2,O⟩:∃z2,A .bB .add .i64 z 1=z2:=⟨_,rfl⟩;rw[O]at cZ;have N:∀h5 b1 n1 c1 b2 n2 c2 b3 n3 c3 b4 n4 c4 d5,Le h4 h5->ik h5 (.agg #[.slice b1 n1 c1,.slice b2 n2 c2,.slice b3 n3 c3,.slice b4 n4 c4]) d5->GD T nl (50+402*i+402) d5->I (20-(i+1)) (z2,⟨b1,n1,c1,b2,n2,c2,b3,n3,c3,b4,n4,c4⟩) h5:=λh5 b1 n1 c1 b2 n2 c2 b3 n3 c3 b4 n4 c4 d5 l q' cy=>by
   rw[aY];exact⟨i+1,d5,cZ,bc,rfl,AY.trans l,q',cy.le (by omega)⟩
  have sH:20-(i+1)<m:=by omega
  have Q:50+402*i+700<2^18:=by omega
  obtain⟨a,sf⟩:∃a,a=20-(i+1):=⟨_,rfl⟩;rw[<-sf]at sH N;obtain⟨aw,se,cE,dc⟩:=x;have ig:=λh {k} hk=>kz (⟨aw,se,cE,dc⟩:wK) h (k:=k) hk;obtain⟨kk,Jz⟩:∃kk,kk=50+402*i:=⟨_,rfl⟩;rw[<-Jz]at L N Q;clear aY hJ Jz sf;rw[f1,mQu P];cbv;rw[f2,mQu bc];cbv;refine⟨cJ,?_⟩;cbv;refine V.load hx cN (λcs W=>?_);replace W:cs=[.int .i64 aw,.int .i64 se,.int .i64 cE,.int .i64 dc]:=W;subst W;cbv;refine ig h4 (λh5 w st l5 qs cb=>?_);clear ig;have bg:=qs;obtain⟨b5,n5,c5,b6,n6,c6,b7,n7,c7,b8,n8,c8,b9,n9,c9,gW,jD,gT,hw,-⟩:=bg.out;subst hw;replace qs:aQG h5 _ st:=qs;have bf:=qd.mono l5;have p:A .aI .eql st.kind 9=decide (st.kind=9):=aA A ..;have S:A .aI .eql st.kind 10=decide (st.kind=10):=aA A ..;have f:A .aI .eql st.kind 11=decide (st.kind=11):=aA A ..;have J:=N h5 _ _ _ _ _ _ _ _ _ _ _ _ Y l5 bf (L.le (by omega));clear bg;cbv;rw[p];by_cases k9:st.kind=9
  .rw[mQu k9];clear N p S f;cbv;rw[O];refine⟨a,(_,_),sH,by constructor<;>cbv,J⟩
  rw[mQv k9];cbv;rw[S];by_cases yS:st.kind=10
  .rw[mQu yS];clear N p S f;cbv;rw[O];refine⟨a,(_,_),sH,by constructor<;>cbv,J⟩
  rw[mQv yS];cbv;rw[f];by_cases B:st.kind=11
  .rw[mQu B];clear N p S f;cbv;rw[O];refine⟨a,(_,_),sH,by constructor<;>cbv,J⟩
  rw[mQv B];have cc:=L.run cb k9 yS B;have Gm:=iE.all Y 0 st;clear J p S f k9 yS B;cbv;refine iJL (s:=0) bf cb L.ej Q (by decide) Gm qs (λh6 dW dj dD dT dh dB dS dd du dH db dn _ _ _ l6 M _=>?_);have af:=N h6 _ _ _ _ _ _ _ _ _ _ _ _ _ (l5.trans l6) M cc;clear N cc M Gm;generalize iD Y 0 st=D at *;obtain⟨D1,DR,De⟩:=D;cbv;rw[O];refine⟨a,(_,_),sH,by constructor<;>cbv,af⟩
 have Q:50+402*i+700<2^18:=by omega
 obtain⟨bo,bF,bb,ca,sJ⟩:=bk L;have cx:A .aI .lss z (A .nat t)=false\/(A .aI .lss z (A .nat t)=true/\A .aI .lss z 20=false):=by
  rw[f1,f2];by_cases h1:i<t
  .exact .inr ⟨mQu h1,mQv (λh2=>tY ⟨h1,h2⟩)⟩
  exact .inl (mQv h1)
 obtain⟨kk,Jz⟩:∃kk,kk=50+402*i:=⟨_,rfl⟩;rw[<-Jz]at L ca Q;have t4:=E.mono (AY.t _);have cU:=L.ej;have cu:A .aI .neq (A .nat 3) (A .nat 3)=false:=by rw[aC A];simp
 have ct:A .aI .eql 2 2=true:=by rw[aA A];rfl
 have DH:A .aI .eql 0 0=true:=by rw[aA A];rfl
 have cw:=lt.trans AY;clear aY hJ bk Jz f1 f2 tY L E u U cB hm AY lt;rcases cx with e| ⟨e,e2⟩<;>rw[e]<;>cbv<;>(try rw[e2])<;>(try cbv)
 all_goals
  refine Lh qd cU Q tb.2 tb.1 cq (iE.all _ _ _) (λh6 ba cl bt bz ck br bx cj cn bw ch cm _ _ _ l6 M _=>?_);rw[bF]at M |-;replace M:ik h6 (.agg #[.slice ba cl bt,.slice bz ck br,.slice bx cj cn,.slice bw ch cm]) bo:=M;have X:=M.xj;have cz:cl=3:=by rw[X.len,bb,DE]
  subst cz;rw[bb]at X;have t6:=t4.mono (l6.t _);have SN:=cw.trans l6;obtain⟨K,NP⟩:∃K:Nat->Int->ad->Prop,∀m g h',K m g h'=∃i,aS g i/\m=3-i/\h'=h6:=⟨_,λ_ _ _=>rfl⟩;have Z:K 3 0 h6:=by rw[NP];exact⟨0,⟨rfl⟩,rfl,rfl⟩
  cbv;rw[um];cbv;rw[cu];cbv;refine aX.go (G:=Int) (λg=>[(13,.v (.int .i64 g))]) (λ_=>[(5,[.slice ba 3 bt,.slice bz ck br,.slice bx cj cn,.slice bw ch cm])]) (λm g h'=>K m g h') 3 0 (by constructor<;>cbv) Z ?_
  intro m' y h7 hK;rw[NP]at hK;cbv;obtain⟨j,hy,kX,rfl⟩:=hK;have f3:A .aI .lss y (A .nat 3)=decide (j<3):=hy.iJ (aS.nat 3);rw[f3];by_cases P:j<3
  .have g0:=t0 j P;have bj:=hy.eq;have cZ:=hy.succ (A:=A);obtain⟨z2,O⟩:∃z2,A .bB .add .i64 y 1=z2:=⟨_,rfl⟩;rw[O]at cZ;obtain⟨a,sf⟩:∃a,a=3-(j+1):=⟨_,rfl⟩;have cp:K a z2 h7:=by rw[NP];exact⟨j+1,cZ,sf,rfl⟩
   have sh:a<m':=by omega
   have Lp:b1.isSome=true/\0<=y/\y<((3:Nat):Int):=⟨t6.aT,hy.ix P⟩;have zU:ba.isSome=true/\0<=y/\y<((3:Nat):Int):=⟨X.aT,hy.ix P⟩;clear NP Z t0;generalize R j=ev at *;generalize aF j=ew at *;rw[mQu P];cbv;refine⟨zU,?_⟩;cbv;refine X.vD g0 bj (o:=4) (m:=1) (by decide) (λcs W cv=>?_);obtain⟨_,_,_,u4,u5,u6,rfl,-,s1⟩:=W;cbv;refine⟨Lp,?_⟩;cbv;refine t6.vD g0 bj (o:=4) (m:=1) (by decide) (λcs W cr=>?_);obtain⟨_,_,_,v4,v5,v6,rfl,-,s0⟩:=W;cbv;refine DW s1 s0 ?_;cbv;repeat ((first|refine cv _ _ (Le.refl _) ?_|refine cr _ _ (Le.refl _) ?_);cbv;refine⟨⟨_,rfl,rfl⟩,?_⟩;cbv)
   rw[zd];cbv;rw[O];refine⟨a,_,sh,by constructor<;>cbv,cp⟩
  clear NP Z t0;rw[mQv P];cbv;refine Lh M ca Q bn.2 bn.1 cA (iE.all _ _ _) (λh8 eh eo et dY ea eb eu en er ec ed eg _ _ _ l8 _ _=>?_);generalize iD bo 0 H=D at *;obtain⟨D1,DR,De⟩:=D;replace sJ:De=2:=sJ;subst sJ;have Pm:=SN.trans l8;clear bF X t6;cbv;refine UH tb.2 tb.1 (λh9 w l9 qs=>?_);obtain⟨b5,n5,c5,b6,n6,c6,b7,n7,c7,b8,n8,c8,b9,n9,c9,gW,jD,gT,hw,-⟩:=qs.out;subst hw;have xP:=Pm.trans l9;clear qs;cbv;rw[ct];cbv;rw[DH];exact⟨xP,rfl⟩
theorem nQV{a:Option Addr}{n c d c':Nat}(q:zW kn h (.slice b n c) xs)(m:zW kn h (.slice a d c') ys):Ct 4 [.slice b n c,.slice a d c'] h (λv h'=>Le h h'/\v=.bool true):=
 nQU q m nXd nXe nQT mKV mKX mKM (λl=>mKZ l) (λH=>nQd H)
end Go.S
