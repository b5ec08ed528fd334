import Derived.Test.YtekoaiendgjkdaaGreatWF
import Derived.Test.YtekoaiendgjkdaaGreatYC
set_option linter.unusedVariables false
set_option linter.unusedSimpArgs false
set_option linter.unusedSectionVars false
set_option maxRecDepth 100000
set_option maxHeartbeats 8000000
namespace Go.S
open Go.Sx Go.Proofs
theorem Tc{A:Ar}[hA:bM A]{x y:Int}(h:0<=x)(h2:0<=y)(h3:x+y<=2^40):A .bB .add .i64 x y=x+y:=by rw[hA.bB];show IntKind.wrap .i64 (x+y)=_;rw[IntWalk.i64_in _ (by omega)]
theorem XH{R0:List Row}{i:Nat}{r:Row}(h:R0[i]? =some r):rC (R0.drop i)=aN r+rC (R0.drop (i+1)):=by obtain⟨h1,h2⟩:=HH.1 h;rw[mQy h1,h2];rfl
theorem QP{B:List Row}{i:Nat}{v:cO}{c s:Int}(h:B[i]? =some [v,iN c,iN s]):JJ (B.drop i)=c+JJ (B.drop (i+1))/\Jm (B.drop i)=s+Jm (B.drop (i+1)):=by obtain⟨h1,h2⟩:=HH.1 h;rw[mQy h1,h2];exact⟨rfl,rfl⟩
theorem bQY{B:List Row}(h:∀(i:Nat) r,B[i]? =some r->∃v c s,r=[v,iN c,iN s]/\0<=c/\0<=s):∀(n i:Nat),n=B.length-i->0<=JJ (B.drop i)/\0<=Jm (B.drop i)
 |0,i,hn=>by rw[mQR (by omega)];exact⟨mXp _,mXp _⟩
 |n+1,i,hn=>by
  obtain⟨r,hr⟩:=aE (xs:=B) (i:=i) (by omega);obtain⟨v,c,s,rfl,h1,h2⟩:=h i r hr;have ih:=bQY h n (i+1) (by omega);have e:=QP hr;omega
theorem gKC{A:Ar}[hA:bM A](a b:Int):A .and (A .aI .eql 2 2) (A .and (A .aI .eql a b) (A .and (A .iQ .eql ⟨#[]⟩ ⟨#[]⟩) true))=decide (a=b):=by have:=pA A (iN a) (iN b);replace this:A .and (A .aI .eql 2 2) (A .and (A .aI .eql a b) (A .and (A .iQ .eql ⟨#[]⟩ ⟨#[]⟩) true))=re (iN a) (iN b):=this;rw[this];show(decide ((2:Int)=2)&&decide (a=b)&&decide (b0=b0))=decide (a=b);simp
theorem cXY{xs:List wK}{h:ad}{b:Option Addr}{n c:Nat}(q:zW kn h (.slice b n c) xs){sa TB:aJ}(jk:cL ao bJE=(sa,0)/\bJ bJE=true)(tg:cL ao Vc=(TB,0)/\bJ Vc=true)(vi:dr sa)(fQV:dr TB)
 (MT:∀ {R log d},AJ R log d->iE d 0 sa/\iE d 0 TB) (NK:∀ {R log d},AL 25 R log d->(∃d1 r,AJ R log d1/\iD d 0 sa=(d1,[r],0)/\gZv (R 0) r)/\∃d1 B,AJ R log d1/\iD d 0 TB=(d1,B,0)/\gZu (R 0) B):
 Ct 5 [.slice b n c] h (fun v h'=>Le h h'/\v=.bool true):=by
 obtain⟨A,hA⟩:=Ar.ex;have zd:A .not true=false:=by rw[hA.not];rfl
 refine ah A (ax T5.aK T5.bF) Tryz.func5 rfl (by kernel_rfl) ?_;cbv;refine(qU h).mono (fun v h1 hR=>?_);obtain⟨l1,hv⟩:=hR;subst hv;cbv;rw[zd];cbv;refine vR (q.mono l1) (fun h2 b1 n1 c1 b2 n2 c2 b3 n3 c3 b4 n4 c4 R log d l2 vh al=>?_);obtain⟨⟨d1,eKb,cZD,MY,hF⟩,d2,B,cZC,DG,hKn⟩:=NK al;obtain⟨WO,WN⟩:=MT al.aj;have ej:=al.ej;have pG:=al.aj.az;have aQf:=al.rp 0 (by decide);have vN:(R 0).length<=25:=by have:=al.ln;have:=al.le;omega
 clear NK MT al cZD cZC;generalize aKX:R 0=R0 at *;cbv;refine Lh vh ej (by decide) jk.2 jk.1 vi WO (fun h3 dQQ dQI dQM dQP dQH dQL dQO dQG dQK dQN dQF dQJ ab an ac l3 _ qE=>?_);rw[MY]at qE |-;replace qE:Sl 59 aD h3 (.slice ab an ac) [eKb]:=qE;have RM:an=1:=qE.len;subst RM;cbv;refine Lh (vh.mono l3) ej (by decide) tg.2 tg.1 fQV WN (fun h4 dXk dXb dXg dXj dXa dXf dXi dQZ dXe dXh dQY dXd gb gn gc l4 _ hKc=>?_);rw[DG]at hKc |-;replace hKc:Sl 59 aD h4 (.slice gb gn gc) B:=hKc;have qE:=qE.mono (l4.t _);have Ac:=((vh.mono l3).mono l4).xj;have lt:Le h h4:=((l1.trans l2).trans l3).trans l4;have um:A .aI .neq 0 0=false:=by rw[aC A];rfl
 have f11:A .aI .neq (A .nat 1) 1=false:=by rw[aC A,hA.nat];rfl
 have f44:A .aI .neq (A .nat 4) 4=false:=by rw[aC A,hA.nat];rfl
 have f33:A .aI .neq (A .nat 3) 3=false:=by rw[aC A,hA.nat];rfl
 have lG:n1=3:=by rw[Ac.len,pG];rfl
 subst lG;have g0:d.az[0]? =some ⟨aF 0,R0⟩:=by rw[pG,<-aKX];rfl
 have Lp:b1.isSome=true/\(0:Int)<=0/\(0:Int)<((3:Nat):Int):=⟨Ac.aT (by omega),by omega,by omega⟩;have ZE:ab.isSome=true/\(0:Int)<=0/\(0:Int)<((1:Nat):Int):=⟨qE.aT (by omega),by omega,by omega⟩;have rZ:[eKb][0]? =some eKb:=rfl;have mF:eKb.length=4:=by
  by_cases hn:R0=[]
  ·rw[hF.nil hn];rfl
  ·obtain⟨a,v,b,w,-,-,e⟩:=hF.cons hn;rw[e];rfl
 have lQg:=FY aQf;obtain⟨L,hL⟩:∃L,L=R0.length:=⟨_,rfl⟩;obtain⟨T,hT⟩:∃T,T=rC R0:=⟨_,rfl⟩;rw[<-hL,<-hT]at lQg;rw[<-hL]at vN;have mQi:T<=50000:=by omega
 obtain⟨hKp,fXc⟩:∃hKp:Int,hKp=(L:Int):=⟨_,rfl⟩;have mQh:hKp<=25:=by omega
 have mQf:aS hKp L:=⟨fXc⟩;have CE:gn=B.length:=hKc.len;have eZN:gn<=L:=by rw[CE,hL];exact hKn.len
 have jZw:JJ B=hKp:=by rw[hKn.lXB,fXc,hL]
 have jZv:Jm B=T:=by rw[hKn.sum,hT]
 have cXb:=hKn.one;have iZo:=hKn.ne;clear lQg MY DG WO WN jk tg vi fQV vh ej pG aKX q l1 l2 l3 l4 hKn;cbv;rw[um];cbv;rw[um];cbv;rw[f11];cbv;refine⟨ZE,?_⟩;cbv;refine bZ qE rZ rfl (fun eb en ec qe=>?_);have Qh:en=4:=by rw[qe.len,mF]
 subst Qh;cbv;rw[f44];cbv;refine⟨Lp,?_⟩;cbv;refine Ac.cC g0 (n:=0) rfl (o:=4) (m:=1) (by decide) (fun cs ay=>?_);obtain⟨_,_,_,u4,u5,u6,rfl,-,sr⟩:=ay;replace sr:Sl 59 aD h4 (.slice u4 u5 u6) R0:=sr;have Th:u5=L:=by rw[hL];exact sr.len
 subst Th;clear g0 Ac Lp;obtain⟨I,aY⟩:∃I:Nat->Int×Int->ad->Prop,∀m g h',I m g h'=∃i,aS g.1 i/\i<=u5/\m=u5-i/\h'=h4/\0<=g.2/\g.2+rC (R0.drop i)=T:=⟨_,fun _ _ _=>rfl⟩;have hJ:I u5 (0,0) h4:=by rw[aY];exact⟨0,⟨rfl⟩,mQr _,rfl,rfl,mXp _,by rw[hT];exact Int.zero_add _⟩
 cbv;refine aX.go (G:=Int×Int) (fun g=>[(13,.v (.int .i64 g.1)),(12,.v (.int .i64 g.2))]) (fun _=>[(3,[.slice b1 3 c1,.slice b2 n2 c2,.slice b3 n3 c3,.slice b4 n4 c4]),(4,[.slice dQQ dQI dQM,.slice dQP dQH dQL,.slice dQO dQG dQK,.slice dQN dQF dQJ]),(7,[.slice dXk dXb dXg,.slice dXj dXa dXf,.slice dXi dQZ dXe,.slice dXh dQY dXd])]) (fun m g h'=>I m g h') u5 (0,0) ⟨?_,?_,?_⟩ hJ ?_
 ·cbv
 ·cbv
 ·cbv
 ·intro m gg h5 hI;rw[aY]at hI;cbv;obtain⟨i,hz,hi,hm,rfl,bZB,aQm⟩:=hI;obtain⟨z,sm⟩:=gg;replace hz:aS z i:=hz;replace bZB:0<=sm:=bZB;replace aQm:sm+rC (R0.drop i)=T:=aQm;have f1:A .aI .lss z (A .nat u5)=decide (i<u5):=hz.iJ (aS.nat u5);rw[f1];by_cases aP:i<u5
  ·obtain⟨x,hx⟩:=aE (xs:=R0) (i:=i) (by omega);have cKd:=XH hx;have CF:=FY (l:=R0.drop (i+1)) (fun r hr=>aQf r (mXU hr));obtain⟨a,v,rfl,Wr,cKG,-⟩:=aQf x (GD hx);replace cKd:rC (R0.drop i)=a+rC (R0.drop (i+1)):=cKd;have nW:=Tc (A:=A) bZB Wr (by omega);obtain⟨s2,FD⟩:∃s2,A .bB .add .i64 sm a=s2:=⟨_,rfl⟩;rw[FD]at nW;have cN:=hz.eq;have cZ:=hz.succ (A:=A) (by omega);obtain⟨z2,dL⟩:∃z2,A .bB .add .i64 z 1=z2:=⟨_,rfl⟩;rw[dL]at cZ;obtain⟨mm,sf⟩:∃mm,mm=u5-(i+1):=⟨_,rfl⟩;have cD:I mm (z2,s2) h5:=by rw[aY];exact⟨i+1,cZ,aP,sf,rfl,by show 0<=s2;omega,by show s2+_=T;omega⟩
   have sh:mm<m:=by omega
   have cZd:u4.isSome=true/\0<=z/\z<(u5:Int):=⟨sr.aT (by omega),hz.ix aP⟩;have Ns:(0:Int)<=0/\(0:Int)<((2:Nat):Int):=by decide
   clear aY hJ cKd nW aQm CF;rw[kS aP];cbv;refine⟨cZd,?_⟩;cbv;refine bZ sr hx cN (fun fb fn zL qf=>?_);have jQ:fn=2:=qf.len;subst jQ;have rU:=qf.aT (by omega);cbv;refine⟨⟨rU,Ns⟩,?_⟩;cbv;refine qf.cC (i:=0) rfl (n:=0) rfl (o:=1) (m:=1) (by decide) (fun cs ay=>?_);replace ay:cs=[.int .i64 2,.int .i64 a,.string b0]:=ay;subst ay;cbv;rw[FD,dL];refine⟨mm,(_,_),sh,⟨?_,?_,?_⟩,cD⟩
   ·cbv
   ·cbv
   ·cbv
  ·have iQs:sm=T:=by rw[mQR (by omega)]at aQm;replace aQm:sm+0=T:=aQm;omega
   subst iQs;clear aY hJ aQm;rw[nM aP];obtain⟨K,NP⟩:∃K:Nat->Int×Int×Int->ad->Prop,∀m g h',K m g h'=∃j,aS g.1 j/\j<=gn/\m=gn-j/\h'=h5/\0<=g.2.1/\g.2.1+JJ (B.drop j)=hKp/\0<=g.2.2/\g.2.2+Jm (B.drop j)=sm:=⟨_,fun _ _ _=>rfl⟩;have aKZ:K gn (0,0,0) h5:=by rw[NP];exact⟨0,⟨rfl⟩,mQr _,rfl,rfl,mXp _,(Int.zero_add _).trans jZw,mXp _,(Int.zero_add _).trans jZv⟩
   have iZl:∀m' mc ms hh z,K m' (z,mc,ms) hh->∀j,aS z j->¬j<gn->mc=hKp/\ms=sm:=fun m' mc ms hh z hk j hj Al=>by
    rw[NP]at hk;obtain⟨j',iXj,h1,-,-,-,h2,-,h3⟩:=hk;have e:=MA hj iXj;rw[mQR (by omega)]at h2 h3;replace h2:mc+0=hKp:=h2;replace h3:ms+0=sm:=h3;exact⟨by omega,by omega⟩
   cbv;refine aX.go (G:=Int×Int×Int) (fun g=>[(16,.v (.int .i64 g.1)),(14,.v (.int .i64 g.2.1)),(15,.v (.int .i64 g.2.2))]) (fun _=>[(3,[.slice b1 3 c1,.slice b2 n2 c2,.slice b3 n3 c3,.slice b4 n4 c4]),(4,[.slice dQQ dQI dQM,.slice dQP dQH dQL,.slice dQO dQG dQK,.slice dQN dQF dQJ]),(7,[.slice dXk dXb dXg,.slice dXj dXa dXf,.slice dXi dQZ dXe,.slice dXh dQY dXd])]) (fun m g h'=>K m g h') gn (0,0,0) ⟨?_,?_,?_⟩ aKZ ?_
   ·cbv
   ·cbv
   ·cbv
   ·intro m' gg h6 hK;have iZm:=hK;rw[NP]at hK;cbv;obtain⟨j,hz,hj,kX,rfl,NO,gJY,bZB,aQm⟩:=hK;obtain⟨z,mc,ms⟩:=gg;replace hz:aS z j:=hz;replace NO:0<=mc:=NO;replace bZB:0<=ms:=bZB;replace gJY:mc+JJ (B.drop j)=hKp:=gJY;replace aQm:ms+Jm (B.drop j)=sm:=aQm;have f1:A .aI .lss z (A .nat gn)=decide (j<gn):=hz.iJ (aS.nat gn);rw[f1];by_cases aP:j<gn
    ·obtain⟨r,hr⟩:=aE (xs:=B) (i:=j) (by omega);obtain⟨v,c,s,rfl,gJZ,jE⟩:=cXb j r hr;have Za:=QP hr;have qC:=bQY cXb _ (j+1) rfl;have fZr:=Tc (A:=A) NO gJZ (by omega);have fZq:=Tc (A:=A) bZB jE (by omega);obtain⟨m2,sH⟩:∃s2,A .bB .add .i64 mc c=s2:=⟨_,rfl⟩;obtain⟨s2,FD⟩:∃s2,A .bB .add .i64 ms s=s2:=⟨_,rfl⟩;rw[sH]at fZr;rw[FD]at fZq;have cN:=hz.eq;have cZ:=hz.succ (A:=A) (by omega);obtain⟨z2,dL⟩:∃z2,A .bB .add .i64 z 1=z2:=⟨_,rfl⟩;rw[dL]at cZ;obtain⟨mm,sf⟩:∃mm,mm=gn-(j+1):=⟨_,rfl⟩;have cD:K mm (z2,m2,s2) h6:=by rw[NP];exact⟨j+1,cZ,aP,sf,rfl,by show 0<=m2;omega,by show m2+_=_;omega,by show 0<=s2;omega,by show s2+_=_;omega⟩
     have sh:mm<m':=by omega
     have dQm:gb.isSome=true/\0<=z/\z<(gn:Int):=⟨hKc.aT (by omega),hz.ix aP⟩;have eXe:(0:Int)<=0/\(0:Int)<((3:Nat):Int):=by decide
     have fJL:(0:Int)<=1/\(1:Int)<((3:Nat):Int):=by decide
     have fJK:(0:Int)<=2/\(2:Int)<((3:Nat):Int):=by decide
     have gKz:A .aI .gtr z 0=decide (0<j):=by rw[bO A,decide_eq_decide];omega
     have HV:0<j->∃z1 w c' s',A .bB .sub .i64 z 1=z1/\z1=((j-1:Nat):Int)/\B[j-1]? =some [w,iN c',iN s']/\(gb.isSome=true/\0<=z1/\z1<(gn:Int))/\A .and (A .aI .eql v.k w.k) (A .and (A .aI .eql v.n w.n) (A .and (A .iQ .eql v.s w.s) true))=false:=fun h0=>by
      obtain⟨p,hp⟩:=aE (xs:=B) (i:=j-1) (by omega);obtain⟨w,c',s',rfl,-,-⟩:=cXb _ p hp;have ch:=iZo (j-1) _ _ hp (by rw[Nat.sub_add_cancel h0];exact hr);replace ch:re v w=false:=ch;have n1:aS (A .bB .sub .i64 z 1) (j-1):=ff (A:=A) hz (⟨rfl⟩:aS 1 1) (by omega) (by omega);exact⟨_,w,c',s',rfl,n1.eq,hp,⟨hKc.aT (by omega),n1.ix (by omega)⟩,by rw[pA A v w];exact ch⟩
     clear NP aKZ iZl iZm Za qC fZr fZq gJY aQm cXb iZo;rw[kS aP];cbv;refine⟨dQm,?_⟩;cbv;refine bZ hKc hr cN (fun fb fn zL qf=>?_);have jQ:fn=3:=qf.len;subst jQ;cbv;rw[f33];cbv;rw[gKz];by_cases Cy:0<j
     ·obtain⟨z1,w,c',s',jV,MF,hp,RR,ch⟩:=HV Cy;clear HV;rw[kS Cy];cbv;refine⟨dQm,?_⟩;cbv;refine bZ hKc hr cN (fun fb fn zL qf=>?_);have jQ:fn=3:=qf.len;subst jQ;have rU:=qf.aT (by omega);cbv;refine⟨⟨rU,eXe⟩,?_⟩;cbv;refine qf.load (i:=0) rfl (n:=0) rfl (fun cs ay=>?_);replace ay:cs=[.int .i64 v.k,.int .i64 v.n,.string v.s]:=ay;subst ay;cbv;rw[jV];refine⟨RR,?_⟩;cbv;refine bZ hKc hp MF (fun pb pn pc qp=>?_);have EV:pn=3:=qp.len;subst EV;have eKx:=qp.aT (by omega);cbv;refine⟨⟨eKx,eXe⟩,?_⟩;cbv;refine qp.load (i:=0) rfl (n:=0) rfl (fun cs ay=>?_);replace ay:cs=[.int .i64 w.k,.int .i64 w.n,.string w.s]:=ay;subst ay;cbv;rw[ch];cbv;refine⟨dQm,?_⟩;cbv;refine bZ hKc hr cN (fun fb fn zL qf=>?_);have jQ:fn=3:=qf.len;subst jQ;have rU:=qf.aT (by omega);cbv;refine⟨⟨rU,fJL⟩,?_⟩;cbv;refine qf.cC (i:=1) rfl (n:=1) rfl (o:=1) (m:=1) (by decide) (fun cs ay=>?_);replace ay:cs=[.int .i64 2,.int .i64 c,.string b0]:=ay;subst ay;cbv;refine⟨dQm,?_⟩;cbv;refine bZ hKc hr cN (fun fb fn zL qf=>?_);have jQ:fn=3:=qf.len;subst jQ;have rU:=qf.aT (by omega);cbv;refine⟨⟨rU,fJK⟩,?_⟩;cbv;refine qf.cC (i:=2) rfl (n:=2) rfl (o:=1) (m:=1) (by decide) (fun cs ay=>?_);replace ay:cs=[.int .i64 2,.int .i64 s,.string b0]:=ay;subst ay;cbv;rw[sH,FD,dL];refine⟨mm,(_,_,_),sh,⟨?_,?_,?_⟩,cD⟩
      ·cbv
      ·cbv
      ·cbv
     ·clear HV;rw[nM Cy];cbv;refine⟨dQm,?_⟩;cbv;refine bZ hKc hr cN (fun fb fn zL qf=>?_);have jQ:fn=3:=qf.len;subst jQ;have rU:=qf.aT (by omega);cbv;refine⟨⟨rU,fJL⟩,?_⟩;cbv;refine qf.cC (i:=1) rfl (n:=1) rfl (o:=1) (m:=1) (by decide) (fun cs ay=>?_);replace ay:cs=[.int .i64 2,.int .i64 c,.string b0]:=ay;subst ay;cbv;refine⟨dQm,?_⟩;cbv;refine bZ hKc hr cN (fun fb fn zL qf=>?_);have jQ:fn=3:=qf.len;subst jQ;have rU:=qf.aT (by omega);cbv;refine⟨⟨rU,fJK⟩,?_⟩;cbv;refine qf.cC (i:=2) rfl (n:=2) rfl (o:=1) (m:=1) (by decide) (fun cs ay=>?_);replace ay:cs=[.int .i64 2,.int .i64 s,.string b0]:=ay;subst ay;cbv;rw[sH,FD,dL];refine⟨mm,(_,_,_),sh,⟨?_,?_,?_⟩,cD⟩
      ·cbv
      ·cbv
      ·cbv
    ·obtain⟨e1,e2⟩:=iZl _ _ _ _ _ iZm j hz aP;replace e1:=e1.symm;subst e1 e2;obtain⟨mQe,Fz⟩:∃mQe,A .nat u5=mQe:=⟨_,rfl⟩;have eZd:aS mQe u5:=by rw[<-Fz];exact aS.nat u5
     have kJg:=eZd.eq;have mQg:=mQf.eq;have jJz:(0:Int)<=0/\(0:Int)<((4:Nat):Int):=by decide
     have jJy:(0:Int)<=1/\(1:Int)<((4:Nat):Int):=by decide
     have jJx:(0:Int)<=2/\(2:Int)<((4:Nat):Int):=by decide
     have jJw:(0:Int)<=3/\(3:Int)<((4:Nat):Int):=by decide
     have Ns:(0:Int)<=0/\(0:Int)<((2:Nat):Int):=by decide
     have e0:A .not (A .and (A .aI .eql 2 2) (A .and (A .aI .eql hKp mQe) (A .and (A .iQ .eql ⟨#[]⟩ ⟨#[]⟩) true)))=false:=by rw[gKC (A:=A),hA.not,kS (by omega)];rfl
     have e1:A .aI .neq hKp mQe=false:=by rw[aC A];exact nM (by omega)
     have e2:A .aI .neq ms ms=false:=by rw[aC A];simp
     have e3:A .aI .eql mQe 0=decide (u5=0):=by rw[aA A,decide_eq_decide];omega
     have iJn:A .and (A .aI .eql 0 0) (A .and (A .aI .eql 0 0) (A .and (A .iQ .eql ⟨#[]⟩ ⟨#[]⟩) true))=true:=by have:=pA A v0 v0;rw[Iw]at this;exact this
     have em:A .aI .eql ms ms=true:=by rw[aA A];simp
     have iJA:∀a:Int,A .and (A .aI .eql 2 2) (A .and (A .aI .eql a a) (A .and (A .iQ .eql ⟨#[]⟩ ⟨#[]⟩) true))=true:=fun a=>by rw[gKC (A:=A)];simp
     clear NP aKZ iZl iZm gJY aQm cXb iZo jZw jZv;by_cases nf:R0=[]
     ·have er:=hF.nil nf;have Wb:u5=0:=by rw[hL,nf];rfl
      have iQj:hKp=0:=by omega
      clear hF;subst er;rw[kS Wb]at e3;rw[iQj]at e0;rw[nM aP];cbv;rw[Fz];refine⟨ZE,?_⟩;cbv;refine bZ qE rZ rfl (fun fb fn zL qf=>?_);have jQ:fn=4:=qf.len;subst jQ;have rU:=qf.aT (by omega);cbv;refine⟨⟨rU,jJz⟩,?_⟩;cbv;refine qf.load (i:=0) rfl (n:=0) rfl (fun cs ay=>?_);replace ay:cs=[.int .i64 2,.int .i64 0,.string b0]:=ay;subst ay;cbv;rw[e0];cbv;rw[e1];cbv;rw[e2];cbv;rw[e3];cbv;refine⟨ZE,?_⟩;cbv;refine bZ qE rZ rfl (fun fb fn zL qf=>?_);have jQ:fn=4:=qf.len;subst jQ;have rU:=qf.aT (by omega);cbv;refine⟨⟨rU,jJy⟩,?_⟩;cbv;refine qf.load (i:=1) rfl (n:=1) rfl (fun cs ay=>?_);replace ay:cs=[.int .i64 0,.int .i64 0,.string b0]:=ay;subst ay;cbv;rw[iJn];cbv;refine⟨ZE,?_⟩;cbv;refine bZ qE rZ rfl (fun fb fn zL qf=>?_);have jQ:fn=4:=qf.len;subst jQ;have rU:=qf.aT (by omega);cbv;refine⟨⟨rU,jJx⟩,?_⟩;cbv;refine qf.load (i:=2) rfl (n:=2) rfl (fun cs ay=>?_);replace ay:cs=[.int .i64 0,.int .i64 0,.string b0]:=ay;subst ay;cbv;rw[iJn];cbv;refine⟨ZE,?_⟩;cbv;refine bZ qE rZ rfl (fun fb fn zL qf=>?_);have jQ:fn=4:=qf.len;subst jQ;have rU:=qf.aT (by omega);cbv;refine⟨⟨rU,jJw⟩,?_⟩;cbv;refine qf.load (i:=3) rfl (n:=3) rfl (fun cs ay=>?_);replace ay:cs=[.int .i64 0,.int .i64 0,.string b0]:=ay;subst ay;cbv;rw[iJn];cbv;exact⟨lt,trivial⟩
     ·obtain⟨a,v,bb,w,gKe,eZK,er⟩:=hF.cons nf;have Wb:¬u5=0:=by rw[hL];exact fun e=>nf (mXs.1 e)
      have lXj:eKb=[iN hKp,iN ms,iN a,iN bb]:=by rw[er,fXc,hL,hT]
      clear hF er;subst lXj;rw[nM Wb]at e3;obtain⟨zk,Ba⟩:∃zk,A .bB .sub .i64 mQe 1=zk:=⟨_,rfl⟩;have aZN:aS zk (u5-1):=by rw[<-Ba];exact ff (A:=A) eZd (⟨rfl⟩:aS 1 1) (by omega) (by omega)
      have uO:=aZN.eq;rw[<-hL]at eZK;have iJV:u4.isSome=true/\(0:Int)<=0/\(0:Int)<(u5:Int):=⟨sr.aT (by omega),by omega,by omega⟩;have iJU:u4.isSome=true/\0<=zk/\zk<(u5:Int):=⟨sr.aT (by omega),aZN.ix (by omega)⟩;have lXi:=iJA a;have lXh:=iJA bb;clear iJA;rw[nM aP];cbv;rw[Fz];refine⟨ZE,?_⟩;cbv;refine bZ qE rZ rfl (fun fb fn zL qf=>?_);have jQ:fn=4:=qf.len;subst jQ;have rU:=qf.aT (by omega);cbv;refine⟨⟨rU,jJz⟩,?_⟩;cbv;refine qf.load (i:=0) rfl (n:=0) rfl (fun cs ay=>?_);replace ay:cs=[.int .i64 2,.int .i64 hKp,.string b0]:=ay;subst ay;cbv;rw[e0];cbv;rw[e1];cbv;rw[e2];cbv;rw[e3];cbv;refine⟨ZE,?_⟩;cbv;refine bZ qE rZ rfl (fun fb fn zL qf=>?_);have jQ:fn=4:=qf.len;subst jQ;have rU:=qf.aT (by omega);cbv;refine⟨⟨rU,jJy⟩,?_⟩;cbv;refine qf.cC (i:=1) rfl (n:=1) rfl (o:=1) (m:=1) (by decide) (fun cs ay=>?_);replace ay:cs=[.int .i64 2,.int .i64 ms,.string b0]:=ay;subst ay;cbv;rw[em];cbv;refine⟨ZE,?_⟩;cbv;refine bZ qE rZ rfl (fun fb fn zL qf=>?_);have jQ:fn=4:=qf.len;subst jQ;have rU:=qf.aT (by omega);cbv;refine⟨⟨rU,jJx⟩,?_⟩;cbv;refine qf.load (i:=2) rfl (n:=2) rfl (fun cs ay=>?_);replace ay:cs=[.int .i64 2,.int .i64 a,.string b0]:=ay;subst ay;cbv;refine⟨iJV,?_⟩;cbv;refine bZ sr gKe rfl (fun pb pn pc qp=>?_);have EV:pn=2:=qp.len;subst EV;have eKx:=qp.aT (by omega);cbv;refine⟨⟨eKx,Ns⟩,?_⟩;cbv;refine qp.load (i:=0) rfl (n:=0) rfl (fun cs ay=>?_);replace ay:cs=[.int .i64 2,.int .i64 a,.string b0]:=ay;subst ay;cbv;rw[lXi];cbv;refine⟨ZE,?_⟩;cbv;refine bZ qE rZ rfl (fun fb fn zL qf=>?_);have jQ:fn=4:=qf.len;subst jQ;have rU:=qf.aT (by omega);cbv;refine⟨⟨rU,jJw⟩,?_⟩;cbv;refine qf.load (i:=3) rfl (n:=3) rfl (fun cs ay=>?_);replace ay:cs=[.int .i64 2,.int .i64 bb,.string b0]:=ay;subst ay;cbv;rw[Ba];refine⟨iJU,?_⟩;cbv;refine bZ sr eZK uO (fun pb pn pc qp=>?_);have EV:pn=2:=qp.len;subst EV;have eKx:=qp.aT (by omega);cbv;refine⟨⟨eKx,Ns⟩,?_⟩;cbv;refine qp.load (i:=0) rfl (n:=0) rfl (fun cs ay=>?_);replace ay:cs=[.int .i64 2,.int .i64 bb,.string b0]:=ay;subst ay;cbv;rw[lXh];cbv;exact⟨lt,trivial⟩
theorem gKL{xs:List wK}{h:ad}{b:Option Addr}{n c:Nat}(q:zW kn h (.slice b n c) xs):Ct 5 [.slice b n c] h (fun v h'=>Le h h'/\v=.bool true):=
 cXY q dXI bKf aXJ XO (fun aj=>⟨Vi.aQB GM Er aj,Oy.aQB EL Er aj⟩) (fun al=>⟨eQR al,cZb al⟩)
end Go.S
