import Derived.Test.YtekoaiendgjkdaaGreatWF
import Derived.Test.YtekoaiendgjkdaaGreatYC
set_option linter.unusedVariables false
set_option linter.unusedSimpArgs false
set_option linter.unusedSectionVars false
set_option maxRecDepth 100000
set_option maxHeartbeats 8000000
namespace Go.S
open Go.Sx Go.Proofs
theorem mQp{α:Type}{A:Ar}[bM A]{e e1:Nat}{s:Sh α}{h:ad}{b:Option Addr}{len cap:Nat}{xs:List (List α)}(q:Sl e (mW e1 s) h (.slice b len cap) xs){i:Nat}{x:List α}(hx:xs[i]? =some x){n:Int}(hn:n=(i:Int)){k:List Value->Prop}
 (hk:∀b1 n1 c1,Sl e1 s h (.slice b1 n1 c1) x->(∀h' k',Le h h'->k' [.slice b1 n1 c1]->Bn h' (A .mS b n 1) 1 k')->k [.slice b1 n1 c1]):Bn h (A .mS b n 1) 1 k:=by
 refine q.Ch hx hn (fun cs ay ag=>?_);obtain⟨v,rfl,hv⟩:=ay;obtain⟨b1,c1,rfl,-⟩:=hv.out;exact hk _ _ _ hv ag
theorem mQq{A:Ar}[hA:bM A](a b:Int):A .and (A .aI .eql 2 2) (A .and (A .aI .eql a b) (A .and (A .iQ .eql ⟨#[]⟩ ⟨#[]⟩) true))=decide (a=b):=by have:=pA A (iN a) (iN b);replace this:A .and (A .aI .eql 2 2) (A .and (A .aI .eql a b) (A .and (A .iQ .eql ⟨#[]⟩ ⟨#[]⟩) true))=re (iN a) (iN b):=this;rw[this];show(decide ((2:Int)=2)&&decide (a=b)&&decide (b0=b0))=decide (a=b);simp
theorem cXr{xs:List wK}{h:ad}{b:Option Addr}{n c:Nat}(q:zW kn h (.slice b n c) xs){sa fk:aJ}(jk:cL ao bJC=(sa,0)/\bJ bJC=true)(lq:cL ao bJB=(fk,0)/\bJ bJB=true)(vi:dr sa)(aKd:dr fk)
 (MT:∀ {R log d},AJ R log d->iE d 0 sa/\iE d 0 fk) (NK:∀ {R log d},AL 25 R log d->∃d1 d2 P Q,AJ R log d1/\AJ R log d2/\iD d 0 sa=(d1,P,0)/\iD d 0 fk=(d2,Q,0)/\kQi (R 0) P Q):
 Ct 10 [.slice b n c] h (fun v h'=>Le h h'/\v=.bool true):=by
 obtain⟨A,hA⟩:=Ar.ex;have zd:A .not true=false:=by rw[hA.not];rfl
 refine ah A (ax kQg.aK kQg.bF) Tryz.func10 rfl (by kernel_rfl) ?_;cbv;refine(qU h).mono (fun v h1 hR=>?_);obtain⟨l1,hv⟩:=hR;subst hv;cbv;rw[zd];cbv;refine vR (q.mono l1) (fun h2 b1 n1 c1 b2 n2 c2 b3 n3 c3 b4 n4 c4 R log d l2 vh al=>?_);obtain⟨d1,d2,P,Q,cZD,cZC,MY,DG,hKn⟩:=NK al;obtain⟨WO,WN⟩:=MT al.aj;have ej:=al.ej;have pG:=al.aj.az;have aQf:=al.rp 0 (by decide);have vN:(R 0).length<=25:=by have:=al.ln;have:=al.le;omega
 clear NK MT al cZD cZC;generalize aKX:R 0=R0 at *;cbv;refine Lh vh ej (by decide) jk.2 jk.1 vi WO (fun h3 dQQ dQI dQM dQP dQH dQL dQO dQG dQK dQN dQF dQJ pb pn kZl l3 _ mQm=>?_);rw[MY]at mQm |-;replace mQm:Sl 59 aD h3 (.slice pb pn kZl) P:=mQm;cbv;refine Lh (vh.mono l3) ej (by decide) lq.2 lq.1 aKd WN (fun h4 dXk dXb dXg dXj dXa dXf dXi dQZ dXe dXh dQY dXd qb qn qc l4 _ mQn=>?_);rw[DG]at mQn |-;replace mQn:Sl 59 aD h4 (.slice qb qn qc) Q:=mQn;have mQm:=mQm.mono (l4.t _);have Ac:=((vh.mono l3).mono l4).xj;have lt:Le h h4:=((l1.trans l2).trans l3).trans l4;have um:A .aI .neq 0 0=false:=by rw[aC A];rfl
 have lG:n1=3:=by rw[Ac.len,pG];rfl
 subst lG;have g0:d.az[0]? =some ⟨aF 0,R0⟩:=by rw[pG,<-aKX];rfl
 have Lp:b1.isSome=true/\(0:Int)<=0/\(0:Int)<((3:Nat):Int):=⟨Ac.aT (by omega),by omega,by omega⟩;have EV:pn=P.length:=mQm.len;have jXw:qn=pn:=by rw[EV,mQn.len,hKn.rev,List.length_reverse]
 subst jXw;have cKg:qn<=25:=by have:=hKn.len;omega
 have cXb:=hKn.one;have iZp:=hKn.lt;have hQ:∀i r,i<qn->P[i]? =some r->Q[qn-1-i]? =some r:=fun i r hi hr=>by
  rw[hKn.rev,List.getElem?_reverse (by omega),<-hr];congr 1;omega
 have gKy:A .aI .neq (A .nat qn) (A .nat qn)=false:=by rw[aC A];simp
 clear MY DG WO WN jk lq vi aKd vh ej pG aKX q l1 l2 l3 l4 hKn;obtain⟨I,aY⟩:∃I:Nat->Int->ad->Prop,∀m g h',I m g h'=∃i,aS g i/\m=qn-i/\h'=h4:=⟨_,fun _ _ _=>rfl⟩;have hJ:I qn 0 h4:=by rw[aY];exact⟨0,⟨rfl⟩,rfl,rfl⟩
 cbv;rw[um];cbv;rw[um];cbv;rw[gKy];cbv;refine aX.go (G:=Int) (fun g=>[(10,.v (.int .i64 g))]) (fun _=>[(3,[.slice b1 3 c1,.slice b2 n2 c2,.slice b3 n3 c3,.slice b4 n4 c4]),(4,[.slice dQQ dQI dQM,.slice dQP dQH dQL,.slice dQO dQG dQK,.slice dQN dQF dQJ]),(7,[.slice dXk dXb dXg,.slice dXj dXa dXf,.slice dXi dQZ dXe,.slice dXh dQY dXd])]) (fun m g h'=>I m g h') qn 0 ⟨?_,?_,?_⟩ hJ ?_
 ·cbv
 ·cbv
 ·cbv
 ·intro m z h6 hI;rw[aY]at hI;cbv;obtain⟨i,hz,hm,rfl⟩:=hI;have f1:A .aI .lss z (A .nat qn)=decide (i<qn):=hz.iJ (aS.nat qn);rw[f1];by_cases aP:i<qn
  ·obtain⟨mQo,hp⟩:=aE (xs:=P) (i:=i) (by omega);have hq:=hQ i mQo aP hp;have lQp:=fun r hr=>iZp (i-1) r mQo hr;obtain⟨v,cKh,cv,gx,gl,iXr⟩:=cXb i mQo hp;obtain⟨pc,fXt⟩:∃pc:Int,pc=((jr R0 1 v).length:Int):=⟨_,rfl⟩;obtain⟨pa,dJX⟩:∃pa:Int,pa=aN ((jr R0 1 v).headD []):=⟨_,rfl⟩;have cQB:aN gx=pa:=by rw[dJX,iXr];rfl
   have iQF:mQo=[v,iN pc,iN pa]:=by rw[cKh,fXt,dJX];rfl
   have gJh:aS pc (jr R0 1 v).length:=⟨fXt⟩;clear cKh fXt dJX;subst iQF;have HV:0<i->∃z1 w c' s',A .bB .sub .i64 z 1=z1/\z1=((i-1:Nat):Int)/\P[i-1]? =some [w,iN c',iN s']/\(pb.isSome=true/\0<=z1/\z1<(qn:Int))/\aQb w/\bC w v<0:=fun h0=>by
    obtain⟨p,NH⟩:=aE (xs:=P) (i:=i-1) (by omega);have En:=iZp (i-1) p _ NH (by rw[Nat.sub_add_cancel h0];exact hp);obtain⟨w,rfl,cw,-⟩:=cXb _ p NH;have n1:aS (A .bB .sub .i64 z 1) (i-1):=ff (A:=A) hz (⟨rfl⟩:aS 1 1) (by omega) (by omega);exact⟨_,w,_,_,rfl,n1.eq,NH,⟨mQm.aT (by omega),n1.ix (by omega)⟩,cw,En⟩
   have gKz:A .aI .gtr z 0=decide (0<i):=by rw[bO A,decide_eq_decide];have:=hz.eq;omega
   have cN:=hz.eq;obtain⟨mQe,Fz⟩:∃mQe,A .nat qn=mQe:=⟨_,rfl⟩;have eZd:aS mQe qn:=by rw[<-Fz];exact aS.nat qn
   obtain⟨z1,jV⟩:∃z1,A .bB .sub .i64 mQe 1=z1:=⟨_,rfl⟩;have bZl:aS z1 (qn-1):=by rw[<-jV];exact ff (A:=A) eZd (⟨rfl⟩:aS 1 1) (by omega) (by omega)
   obtain⟨z3,ui⟩:∃z3,A .bB .sub .i64 z1 z=z3:=⟨_,rfl⟩;have eKN:aS z3 (qn-1-i):=by rw[<-ui];exact ff (A:=A) bZl hz (by omega) (by omega)
   have cQt:=eKN.eq;have cZ:=hz.succ (A:=A) (by omega);obtain⟨z2,dL⟩:∃z2,A .bB .add .i64 z 1=z2:=⟨_,rfl⟩;rw[dL]at cZ;obtain⟨mm,sf⟩:∃mm,mm=qn-(i+1):=⟨_,rfl⟩;have cD:I mm z2 h6:=by rw[aY];exact⟨i+1,cZ,sf,rfl⟩
   have sh:mm<m:=by omega
   have RR:pb.isSome=true/\0<=z/\z<(qn:Int):=⟨mQm.aT (by omega),hz.ix aP⟩;have dQk:qb.isSome=true/\0<=z3/\z3<(qn:Int):=⟨mQn.aT (by omega),eKN.ix (by omega)⟩;have eXe:(0:Int)<=0/\(0:Int)<((3:Nat):Int):=by decide
   have fJL:(0:Int)<=1/\(1:Int)<((3:Nat):Int):=by decide
   have fJK:(0:Int)<=2/\(2:Int)<((3:Nat):Int):=by decide
   clear aY hJ cXb iZp hQ lQp;rw[kS aP];cbv;rw[gKz];by_cases Jf:0<i
   ·obtain⟨z0,w,c',s',MG,hKX,NH,zU,cw,TE⟩:=HV Jf;clear HV;rw[kS Jf];cbv;rw[MG];refine⟨zU,?_⟩;cbv;refine mQp mQm NH hKX (fun eb en ec qe fJU=>?_);have Qh:en=3:=qe.len;subst Qh;have iJr:=qe.aT (by omega);cbv;refine⟨⟨iJr,eXe⟩,?_⟩;cbv;refine qe.Ch (i:=0) rfl (n:=0) rfl (fun cs ay dQy=>?_);replace ay:cs=[.int .i64 w.k,.int .i64 w.n,.string w.s]:=ay;subst ay;cbv;refine⟨RR,?_⟩;cbv;refine mQp mQm hp cN (fun fb fn zL qf dQx=>?_);have jQ:fn=3:=qf.len;subst jQ;have rU:=qf.aT (by omega);cbv;refine⟨⟨rU,eXe⟩,?_⟩;cbv;refine qf.Ch (i:=0) rfl (n:=0) rfl (fun cs ay fJT=>?_);replace ay:cs=[.int .i64 v.k,.int .i64 v.n,.string v.s]:=ay;subst ay;cbv;refine IA cw cv (fun C hC=>?_);rw[<-hC]at TE;have zL:A .aI .geq C 0=false:=by rw[cf A];exact nM (by omega)
    clear hC TE;cbv;repeat ((first|refine fJU _ _ (Le.refl _) ?_|refine dQy _ _ (Le.refl _) ?_|refine dQx _ _ (Le.refl _) ?_|refine fJT _ _ (Le.refl _) ?_);cbv;refine⟨⟨_,rfl,rfl⟩,?_⟩;cbv)
    rw[zL];clear fJU dQy dQx fJT;cbv;refine⟨RR,?_⟩;cbv;refine mQp mQm hp cN (fun fb fn zL qf dQw=>?_);have jQ:fn=3:=qf.len;subst jQ;cbv;rw[Fz,jV,ui];refine⟨dQk,?_⟩;cbv;refine mQp mQn hq cQt (fun gb gn gc qg dQv=>?_);have CE:gn=3:=qg.len;subst CE;cbv;refine Hg qf qg ?_;cbv;repeat ((first|refine dQw _ _ (Le.refl _) ?_|refine dQv _ _ (Le.refl _) ?_);cbv;refine⟨⟨_,rfl,rfl⟩,?_⟩;cbv)
    rw[zd];cbv;refine⟨Lp,?_⟩;cbv;refine Ac.cC g0 (n:=0) rfl (o:=4) (m:=1) (by decide) (fun cs ay=>?_);obtain⟨_,_,_,t4,t5,t6,rfl,-,sr⟩:=ay;replace sr:Sl 59 aD h6 (.slice t4 t5 t6) R0:=sr;have kJD:t5=R0.length:=sr.len;obtain⟨K,NP⟩:∃K:Nat->Int×Int×cO->ad->Prop,∀m g h',K m g h'=∃k,aS g.1 k/\k<=t5/\m=t5-k/\h'=h6/\aS g.2.1 (jr (R0.take k) 1 v).length/\g.2.2=(match jr (R0.take k) 1 v with
     | []=>v0
     |x::_=>iN (aN x)):=⟨_,fun _ _ _=>rfl⟩
    have aKZ:K t5 (0,0,v0) h6:=by rw[NP];exact⟨0,⟨rfl⟩,mQr _,rfl,rfl,⟨rfl⟩,rfl⟩
    clear dQw dQv;cbv;refine aX.go (G:=Int×Int×cO) (fun g=>[(14,.v (.int .i64 g.1)),(11,.v (.int .i64 g.2.1))]) (fun g=>[(3,[.slice b1 3 c1,.slice b2 n2 c2,.slice b3 n3 c3,.slice b4 n4 c4]),(4,[.slice dQQ dQI dQM,.slice dQP dQH dQL,.slice dQO dQG dQK,.slice dQN dQF dQJ]),(7,[.slice dXk dXb dXg,.slice dXj dXa dXf,.slice dXi dQZ dXe,.slice dXh dQY dXd]),(12,[.int .i64 g.2.2.k,.int .i64 g.2.2.n,.string g.2.2.s])]) (fun m g h'=>K m g h') t5 (0,0,v0) ⟨?_,?_,?_⟩ aKZ ?_
    ·cbv
    ·cbv
    ·cbv
    ·intro m' gg h7 hK;rw[NP]at hK;cbv;obtain⟨k,RG,hk,kX,rfl,DF,hle⟩:=hK;obtain⟨y,cn,le⟩:=gg;replace RG:aS y k:=RG;replace DF:aS cn (jr (R0.take k) 1 v).length:=DF;replace hle:le=(match jr (R0.take k) 1 v with
      | []=>v0
      |x::_=>iN (aN x)):=hle
     have f3:A .aI .lss y (A .nat t5)=decide (k<t5):=RG.iJ (aS.nat t5);rw[f3];by_cases aQo:k<t5
     ·obtain⟨r,hr⟩:=aE (xs:=R0) (i:=k) (by omega);have ND:R0.take (k+1)=R0.take k++[r]:=by rw[mXc,hr];rfl
      have tY:=CM (R0.take k) 1 r v;rw[<-ND]at tY;have An:=Nf (R0.take k) 1 v;have dKv:(R0.take k).length=k:=by rw[mQw];omega
      obtain⟨a,w,rfl,-⟩:=aQf r (GD hr);replace tY:jr (R0.take (k+1)) 1 v=if re w v=true then jr (R0.take k) 1 v++[[iN a,w]]else jr (R0.take k) 1 v:=tY
      have fQQ:=RG.eq;have fXx:=RG.succ (A:=A) (by omega);obtain⟨y2,tD⟩:∃z2,A .bB .add .i64 y 1=z2:=⟨_,rfl⟩;rw[tD]at fXx;obtain⟨m3,bZH⟩:∃mm,mm=t5-(k+1):=⟨_,rfl⟩;have TF:m3<m':=by omega
      have cZd:t4.isSome=true/\0<=y/\y<(t5:Int):=⟨sr.aT (by omega),RG.ix aQo⟩;have Ns:(0:Int)<=0/\(0:Int)<((2:Nat):Int):=by decide
      have aQD:(0:Int)<=1/\(1:Int)<((2:Nat):Int):=by decide
      have fJk:A .and (A .aI .eql w.k v.k) (A .and (A .aI .eql w.n v.n) (A .and (A .iQ .eql w.s v.s) true))=re w v:=pA A w v;have cQZ:∀eQT aJs,aS eQT (jr (R0.take (k+1)) 1 v).length->aJs=(match jr (R0.take (k+1)) 1 v with
       | []=>v0
       |x::_=>iN (aN x))->K m3 (y2,eQT,aJs) h7:=fun eQT aJs h1 h2=>by
       rw[NP];exact⟨k+1,fXx,aQo,bZH,rfl,h1,h2⟩
      clear NP aKZ;rw[kS aQo];cbv;refine⟨cZd,?_⟩;cbv;refine bZ sr hr fQQ (fun fb fn zL qf=>?_);have jQ:fn=2:=qf.len;subst jQ;have rU:=qf.aT (by omega);cbv;refine⟨⟨rU,aQD⟩,?_⟩;cbv;refine qf.load (i:=1) rfl (n:=1) rfl (fun cs ay=>?_);replace ay:cs=[.int .i64 w.k,.int .i64 w.n,.string w.s]:=ay;subst ay;cbv;refine⟨RR,?_⟩;cbv;refine bZ mQm hp cN (fun gb gn gc qg=>?_);have CE:gn=3:=qg.len;subst CE;have iZF:=qg.aT (by omega);cbv;refine⟨⟨iZF,eXe⟩,?_⟩;cbv;refine qg.load (i:=0) rfl (n:=0) rfl (fun cs ay=>?_);replace ay:cs=[.int .i64 v.k,.int .i64 v.n,.string v.s]:=ay;subst ay;cbv;rw[fJk];by_cases cQv:re w v=true
      ·rw[if_pos cQv]at tY;have ay:=DF.succ (A:=A) (by omega);obtain⟨fJE,aKM⟩:∃c,A .bB .add .i64 cn 1=c:=⟨_,rfl⟩;rw[aKM]at ay;have f1:A .aI .eql fJE 1=decide ((jr (R0.take k) 1 v).length=0):=by rw[aA A,decide_eq_decide];have:=ay.eq;omega
       have Ug:=fun aJs h=>cQZ fJE aJs (by rw[tY,nX,mQu];exact ay) h;rw[tY]at Ug;clear cQZ;rw[cQv];cbv;rw[aKM,f1];cases hg:jr (R0.take k) 1 v with
       |nil=>
        rw[hg]at Ug;have bQa:=Ug (iN a) rfl;clear Ug;rw[kS (show([]:List Row).length=0 from rfl)];cbv;refine⟨cZd,?_⟩;cbv;refine bZ sr hr fQQ (fun fb fn zL qf=>?_);have jQ:fn=2:=qf.len;subst jQ;have rU:=qf.aT (by omega);cbv;refine⟨⟨rU,Ns⟩,?_⟩;cbv;refine qf.load (i:=0) rfl (n:=0) rfl (fun cs ay=>?_);replace ay:cs=[.int .i64 2,.int .i64 a,.string b0]:=ay;subst ay;cbv;rw[tD];refine⟨m3,(_,_,iN a),TF,⟨?_,?_,?_⟩,bQa⟩
        ·cbv
        ·cbv
        ·cbv
       |cons g1 gl=>
        rw[hg]at Ug hle;have bQa:=Ug le hle;clear Ug;rw[nM (show ¬(g1::gl).length=0 by rw[mQx];omega)];cbv;rw[tD];refine⟨m3,(_,_,le),TF,⟨?_,?_,?_⟩,bQa⟩
        ·cbv
        ·cbv
        ·cbv
      ·rw[if_neg cQv]at tY;have bQa:=cQZ cn le (by rw[tY];exact DF) (by rw[tY];exact hle);have fXX:re w v=false:=by simpa using cQv
       clear cQZ;rw[fXX];cbv;rw[tD];refine⟨m3,(_,_,le),TF,⟨?_,?_,?_⟩,bQa⟩
       ·cbv
       ·cbv
       ·cbv
     ·have NF:R0.take k=R0:=mQM (by omega);rw[NF]at DF hle;rw[iXr]at DF hle gJh;replace hle:le=iN (aN gx):=hle;subst hle;have e1:A .aI .neq pc cn=false:=by rw[aC A];exact nM (fun h=>h (gJh.eq.trans DF.eq.symm))
      have e2:A .aI .eql cn 0=false:=by rw[aA A];exact nM (by have:=DF.eq;rw[mQx]at this;omega)
      have e3:A .not (A .and (A .aI .eql 2 2) (A .and (A .aI .eql pa pa) (A .and (A .iQ .eql ⟨#[]⟩ ⟨#[]⟩) true)))=false:=by rw[mQq (A:=A)];simp[hA.not]
      rw[cQB]at *;clear NP aKZ;rw[nM aQo];cbv;refine⟨RR,?_⟩;cbv;refine bZ mQm hp cN (fun fb fn zL qf=>?_);have jQ:fn=3:=qf.len;subst jQ;have rU:=qf.aT (by omega);cbv;refine⟨⟨rU,fJL⟩,?_⟩;cbv;refine qf.cC (i:=1) rfl (n:=1) rfl (o:=1) (m:=1) (by decide) (fun cs ay=>?_);replace ay:cs=[.int .i64 2,.int .i64 pc,.string b0]:=ay;subst ay;cbv;rw[e1];cbv;rw[e2];cbv;refine⟨RR,?_⟩;cbv;refine bZ mQm hp cN (fun fb fn zL qf=>?_);have jQ:fn=3:=qf.len;subst jQ;have rU:=qf.aT (by omega);cbv;refine⟨⟨rU,fJK⟩,?_⟩;cbv;refine qf.load (i:=2) rfl (n:=2) rfl (fun cs ay=>?_);replace ay:cs=[.int .i64 2,.int .i64 pa,.string b0]:=ay;subst ay;cbv;rw[e3];cbv;rw[dL];refine⟨mm,_,sh,⟨?_,?_,?_⟩,cD⟩
      ·cbv
      ·cbv
      ·cbv
   ·clear HV;rw[nM Jf];cbv;refine⟨RR,?_⟩;cbv;refine mQp mQm hp cN (fun fb fn zL qf dQw=>?_);have jQ:fn=3:=qf.len;subst jQ;cbv;rw[Fz,jV,ui];refine⟨dQk,?_⟩;cbv;refine mQp mQn hq cQt (fun gb gn gc qg dQv=>?_);have CE:gn=3:=qg.len;subst CE;cbv;refine Hg qf qg ?_;cbv;repeat ((first|refine dQw _ _ (Le.refl _) ?_|refine dQv _ _ (Le.refl _) ?_);cbv;refine⟨⟨_,rfl,rfl⟩,?_⟩;cbv)
    rw[zd];cbv;refine⟨Lp,?_⟩;cbv;refine Ac.cC g0 (n:=0) rfl (o:=4) (m:=1) (by decide) (fun cs ay=>?_);obtain⟨_,_,_,t4,t5,t6,rfl,-,sr⟩:=ay;replace sr:Sl 59 aD h6 (.slice t4 t5 t6) R0:=sr;have kJD:t5=R0.length:=sr.len;obtain⟨K,NP⟩:∃K:Nat->Int×Int×cO->ad->Prop,∀m g h',K m g h'=∃k,aS g.1 k/\k<=t5/\m=t5-k/\h'=h6/\aS g.2.1 (jr (R0.take k) 1 v).length/\g.2.2=(match jr (R0.take k) 1 v with
     | []=>v0
     |x::_=>iN (aN x)):=⟨_,fun _ _ _=>rfl⟩
    have aKZ:K t5 (0,0,v0) h6:=by rw[NP];exact⟨0,⟨rfl⟩,mQr _,rfl,rfl,⟨rfl⟩,rfl⟩
    clear dQw dQv;cbv;refine aX.go (G:=Int×Int×cO) (fun g=>[(14,.v (.int .i64 g.1)),(11,.v (.int .i64 g.2.1))]) (fun g=>[(3,[.slice b1 3 c1,.slice b2 n2 c2,.slice b3 n3 c3,.slice b4 n4 c4]),(4,[.slice dQQ dQI dQM,.slice dQP dQH dQL,.slice dQO dQG dQK,.slice dQN dQF dQJ]),(7,[.slice dXk dXb dXg,.slice dXj dXa dXf,.slice dXi dQZ dXe,.slice dXh dQY dXd]),(12,[.int .i64 g.2.2.k,.int .i64 g.2.2.n,.string g.2.2.s])]) (fun m g h'=>K m g h') t5 (0,0,v0) ⟨?_,?_,?_⟩ aKZ ?_
    ·cbv
    ·cbv
    ·cbv
    ·intro m' gg h7 hK;rw[NP]at hK;cbv;obtain⟨k,RG,hk,kX,rfl,DF,hle⟩:=hK;obtain⟨y,cn,le⟩:=gg;replace RG:aS y k:=RG;replace DF:aS cn (jr (R0.take k) 1 v).length:=DF;replace hle:le=(match jr (R0.take k) 1 v with
      | []=>v0
      |x::_=>iN (aN x)):=hle
     have f3:A .aI .lss y (A .nat t5)=decide (k<t5):=RG.iJ (aS.nat t5);rw[f3];by_cases aQo:k<t5
     ·obtain⟨r,hr⟩:=aE (xs:=R0) (i:=k) (by omega);have ND:R0.take (k+1)=R0.take k++[r]:=by rw[mXc,hr];rfl
      have tY:=CM (R0.take k) 1 r v;rw[<-ND]at tY;have An:=Nf (R0.take k) 1 v;have dKv:(R0.take k).length=k:=by rw[mQw];omega
      obtain⟨a,w,rfl,-⟩:=aQf r (GD hr);replace tY:jr (R0.take (k+1)) 1 v=if re w v=true then jr (R0.take k) 1 v++[[iN a,w]]else jr (R0.take k) 1 v:=tY
      have fQQ:=RG.eq;have fXx:=RG.succ (A:=A) (by omega);obtain⟨y2,tD⟩:∃z2,A .bB .add .i64 y 1=z2:=⟨_,rfl⟩;rw[tD]at fXx;obtain⟨m3,bZH⟩:∃mm,mm=t5-(k+1):=⟨_,rfl⟩;have TF:m3<m':=by omega
      have cZd:t4.isSome=true/\0<=y/\y<(t5:Int):=⟨sr.aT (by omega),RG.ix aQo⟩;have Ns:(0:Int)<=0/\(0:Int)<((2:Nat):Int):=by decide
      have aQD:(0:Int)<=1/\(1:Int)<((2:Nat):Int):=by decide
      have fJk:A .and (A .aI .eql w.k v.k) (A .and (A .aI .eql w.n v.n) (A .and (A .iQ .eql w.s v.s) true))=re w v:=pA A w v;have cQZ:∀eQT aJs,aS eQT (jr (R0.take (k+1)) 1 v).length->aJs=(match jr (R0.take (k+1)) 1 v with
       | []=>v0
       |x::_=>iN (aN x))->K m3 (y2,eQT,aJs) h7:=fun eQT aJs h1 h2=>by
       rw[NP];exact⟨k+1,fXx,aQo,bZH,rfl,h1,h2⟩
      clear NP aKZ;rw[kS aQo];cbv;refine⟨cZd,?_⟩;cbv;refine bZ sr hr fQQ (fun fb fn zL qf=>?_);have jQ:fn=2:=qf.len;subst jQ;have rU:=qf.aT (by omega);cbv;refine⟨⟨rU,aQD⟩,?_⟩;cbv;refine qf.load (i:=1) rfl (n:=1) rfl (fun cs ay=>?_);replace ay:cs=[.int .i64 w.k,.int .i64 w.n,.string w.s]:=ay;subst ay;cbv;refine⟨RR,?_⟩;cbv;refine bZ mQm hp cN (fun gb gn gc qg=>?_);have CE:gn=3:=qg.len;subst CE;have iZF:=qg.aT (by omega);cbv;refine⟨⟨iZF,eXe⟩,?_⟩;cbv;refine qg.load (i:=0) rfl (n:=0) rfl (fun cs ay=>?_);replace ay:cs=[.int .i64 v.k,.int .i64 v.n,.string v.s]:=ay;subst ay;cbv;rw[fJk];by_cases cQv:re w v=true
      ·rw[if_pos cQv]at tY;have ay:=DF.succ (A:=A) (by omega);obtain⟨fJE,aKM⟩:∃c,A .bB .add .i64 cn 1=c:=⟨_,rfl⟩;rw[aKM]at ay;have f1:A .aI .eql fJE 1=decide ((jr (R0.take k) 1 v).length=0):=by rw[aA A,decide_eq_decide];have:=ay.eq;omega
       have Ug:=fun aJs h=>cQZ fJE aJs (by rw[tY,nX,mQu];exact ay) h;rw[tY]at Ug;clear cQZ;rw[cQv];cbv;rw[aKM,f1];cases hg:jr (R0.take k) 1 v with
       |nil=>
        rw[hg]at Ug;have bQa:=Ug (iN a) rfl;clear Ug;rw[kS (show([]:List Row).length=0 from rfl)];cbv;refine⟨cZd,?_⟩;cbv;refine bZ sr hr fQQ (fun fb fn zL qf=>?_);have jQ:fn=2:=qf.len;subst jQ;have rU:=qf.aT (by omega);cbv;refine⟨⟨rU,Ns⟩,?_⟩;cbv;refine qf.load (i:=0) rfl (n:=0) rfl (fun cs ay=>?_);replace ay:cs=[.int .i64 2,.int .i64 a,.string b0]:=ay;subst ay;cbv;rw[tD];refine⟨m3,(_,_,iN a),TF,⟨?_,?_,?_⟩,bQa⟩
        ·cbv
        ·cbv
        ·cbv
       |cons g1 gl=>
        rw[hg]at Ug hle;have bQa:=Ug le hle;clear Ug;rw[nM (show ¬(g1::gl).length=0 by rw[mQx];omega)];cbv;rw[tD];refine⟨m3,(_,_,le),TF,⟨?_,?_,?_⟩,bQa⟩
        ·cbv
        ·cbv
        ·cbv
      ·rw[if_neg cQv]at tY;have bQa:=cQZ cn le (by rw[tY];exact DF) (by rw[tY];exact hle);have fXX:re w v=false:=by simpa using cQv
       clear cQZ;rw[fXX];cbv;rw[tD];refine⟨m3,(_,_,le),TF,⟨?_,?_,?_⟩,bQa⟩
       ·cbv
       ·cbv
       ·cbv
     ·have NF:R0.take k=R0:=mQM (by omega);rw[NF]at DF hle;rw[iXr]at DF hle gJh;replace hle:le=iN (aN gx):=hle;subst hle;have e1:A .aI .neq pc cn=false:=by rw[aC A];exact nM (fun h=>h (gJh.eq.trans DF.eq.symm))
      have e2:A .aI .eql cn 0=false:=by rw[aA A];exact nM (by have:=DF.eq;rw[mQx]at this;omega)
      have e3:A .not (A .and (A .aI .eql 2 2) (A .and (A .aI .eql pa pa) (A .and (A .iQ .eql ⟨#[]⟩ ⟨#[]⟩) true)))=false:=by rw[mQq (A:=A)];simp[hA.not]
      rw[cQB]at *;clear NP aKZ;rw[nM aQo];cbv;refine⟨RR,?_⟩;cbv;refine bZ mQm hp cN (fun fb fn zL qf=>?_);have jQ:fn=3:=qf.len;subst jQ;have rU:=qf.aT (by omega);cbv;refine⟨⟨rU,fJL⟩,?_⟩;cbv;refine qf.cC (i:=1) rfl (n:=1) rfl (o:=1) (m:=1) (by decide) (fun cs ay=>?_);replace ay:cs=[.int .i64 2,.int .i64 pc,.string b0]:=ay;subst ay;cbv;rw[e1];cbv;rw[e2];cbv;refine⟨RR,?_⟩;cbv;refine bZ mQm hp cN (fun fb fn zL qf=>?_);have jQ:fn=3:=qf.len;subst jQ;have rU:=qf.aT (by omega);cbv;refine⟨⟨rU,fJK⟩,?_⟩;cbv;refine qf.load (i:=2) rfl (n:=2) rfl (fun cs ay=>?_);replace ay:cs=[.int .i64 2,.int .i64 pa,.string b0]:=ay;subst ay;cbv;rw[e3];cbv;rw[dL];refine⟨mm,_,sh,⟨?_,?_,?_⟩,cD⟩
      ·cbv
      ·cbv
      ·cbv
  ·clear aY hJ;rw[nM aP];cbv;exact⟨lt,trivial⟩
theorem gKp{xs:List wK}{h:ad}{b:Option Addr}{n c:Nat}(q:zW kn h (.slice b n c) xs):Ct 10 [.slice b n c] h (fun v h'=>Le h h'/\v=.bool true):=
 cXr q dXG dXF (Vh false) (Vh true) (fun aj=>⟨(LO false).aQB (yG false) Er aj,(LO true).aQB (yG true) Er aj⟩) (fun al=>fZP al)
end Go.S
