import Derived.Test.YtekoaiendgjkdaaGreatWF
import Derived.Test.YtekoaiendgjkdaaGreatWC
set_option linter.unusedVariables false
set_option linter.unusedSimpArgs false
set_option linter.unusedSectionVars false
set_option maxRecDepth 100000
set_option maxHeartbeats 8000000
namespace Go.S
open Go.Sx Go.Proofs
theorem aXX{xs:List wK}{h:ad}{b:Option Addr}{n c:Nat}(q:zW kn h (.slice b n c) xs)(w:Int){sa sd:aJ}{sl:Nat->aJ}(ta:cL ao bJH=(sa,0)/\bJ bJH=true)(td:cL ao gZI=(sd,0)/\bJ gZI=true)(tl:∀ {i s},aJo[i]? =some s->cL ao (aXD s)=(sl i,0)/\bJ (aXD s)=true/\s.size<=2)(vi:dr sa)(aKd:dr sd)(Ah:∀i,dr (sl i))
 (MT:∀ {R log d},AJ R log d->iE d 0 sa/\iE d 0 sd/\∀i,iE d 0 (sl i)) (NK:∀ {R log d},AL 25 R log d->(∃d1,AJ R log d1/\iD d 0 sa=(d1,R 0,0))/\(∃d1,AJ R log d1/\iD d 0 sd=(d1,(R 0).reverse.map (·.take 1),0))/\∀i:Nat,∃d1,AJ R log d1/\iD d 0 (sl i)=(d1,(R 0).take i,0)):
 Ct 4 [.slice b n c,.int .i64 w] h (fun v h'=>Le h h'/\v=.bool true):=by
 obtain⟨A,hA⟩:=Ar.ex;have zd:A .not true=false:=by rw[hA.not];rfl
 refine ah A (ax T4.aK T4.bF) Tryz.func4 rfl (by kernel_rfl) ?_;cbv;refine(qU h).mono (fun v h1 hR=>?_);obtain⟨l1,hv⟩:=hR;subst hv;cbv;rw[zd];cbv;refine vR (q.mono l1) (fun h2 b1 n1 c1 b2 n2 c2 b3 n3 c3 b4 n4 c4 R log d l2 vh al=>?_);cbv;refine nk w 12 (by decide) (by decide) h2 (fun zi i qA _ hi=>?_);cbv;intro nb h3 f3 e3;have l3:Le h2 h3:=by rw[e3];exact Le.set f3
 have s3:Sl 9 dX h3 (.slice (some ⟨nb,0,none⟩) 12 12) aJo:=sZ (l:=aJo) ((congrFun e3 nb).trans ae) (by decide);clear e3;obtain⟨sI,iQt⟩:=aE (xs:=aJo) (i:=i) hi;obtain⟨hZf,hZh,kXu⟩:=tl iQt;have cJ:0<=zi/\zi<((12:Nat):Int):=qA.ix hi;have fQM:=qA.eq;obtain⟨tx,Tj⟩:∃c,A .cat ⟨#[115,101,108,101,99,116,32,42,32,102,114,111,109,32,116,97,32,108,105,109,105,116,32]⟩ sI=c:=⟨_,rfl⟩;have eJA:tx=aXD sI:=by rw[<-Tj,hA.cat];rfl
 rw[<-eJA]at hZf hZh;have y1:((23+sI.size:Nat):Int)<=2^62:=by omega
 obtain⟨⟨d1,cZD,MY⟩,⟨d2,cZC,DG⟩,hl⟩:=NK al;obtain⟨d3,iKn,bZS⟩:=hl i;obtain⟨WO,WN,jJh⟩:=MT al.aj;have fJx:=jJh i;have gJI:=Ah i;have ej:=al.ej;have aQf:=al.rp 0 (by decide);have pG:=al.aj.az;have vN:(R 0).length<=25:=by have:=al.ln;have:=al.le;omega
 have CF:=fun j hj=>eQL aQf (i:=j) hj;clear NK MT hl jJh Ah tl al cZD cZC iKn eJA kXu;generalize sl i=sL at *;obtain⟨Q,hQ⟩:∃Q,(R 0).reverse.map (·.take 1)=Q:=⟨_,rfl⟩;have jZt:Q.length=(R 0).length:=by rw[<-hQ,List.length_map,List.length_reverse]
 rw[hQ]at DG CF;clear hQ;generalize aKX:R 0=R0 at *;cbv;refine⟨⟨rfl,cJ⟩,?_⟩;cbv;refine s3.load iQt fQM (fun cs ay=>?_);replace ay:cs=[.string sI]:=ay;subst ay;cbv;refine Lh (vh.mono l3) ej (by decide) ta.2 ta.1 vi WO (fun h6 x1 m1 g1 x2 m2 g2 x3 m3 g3 x4 m4 g4 ab an ac l6 _ sA=>?_);rw[MY]at sA |-;replace sA:Sl 59 aD h6 (.slice ab an ac) R0:=sA;cbv;refine⟨y1,?_⟩;cbv;rw[Tj];refine Lh ((vh.mono l3).mono l6) ej (by decide) hZh hZf gJI fJx (fun h7 v1 o1 p1 v2 o2 p2 v3 o3 p3 v4 o4 p4 sb sn sc l7 _ sS=>?_);rw[bZS]at sS |-;replace sS:Sl 59 aD h7 (.slice sb sn sc) (R0.take i):=sS;cbv;refine Lh (((vh.mono l3).mono l6).mono l7) ej (by decide) td.2 td.1 aKd WN (fun h8 w1 k1 r1 w2 k2 r2 w3 k3 r3 w4 k4 r4 db dn dc l8 _ sD=>?_);rw[DG]at sD |-;replace sD:Sl 59 aD h8 (.slice db dn dc) Q:=sD;have sA:=sA.mono ((l7.trans l8).t _);have sS:=sS.mono (l8.t _);have Ac:=((((vh.mono l3).mono l6).mono l7).mono l8).xj;have lt:Le h h8:=((((l1.trans l2).trans l3).trans l6).trans l7).trans l8;have um:A .aI .neq 0 0=false:=by rw[aC A];rfl
 clear WO WN fJx MY DG bZS ej ta td vi aKd gJI vh l1 l2 l3 l6 l7 l8 q hZf hZh s3;cbv;have lG:n1=3:=by rw[Ac.len,pG];rfl
 subst lG;have g0:d.az[0]? =some ⟨aF 0,R0⟩:=by rw[pG,<-aKX];rfl
 have Lp:b1.isSome=true/\(0:Int)<=0/\(0:Int)<((3:Nat):Int):=⟨Ac.aT (by omega),by omega,by omega⟩;have hL:an=R0.length:=sA.len;have iXB:an=dn:=by rw[hL,<-jZt];exact sD.len.symm
 subst iXB;rw[<-hL]at vN;have fZb:∀j,j<an->∃a v,R0[an-1-j]? =some [iN a,v]/\Q[j]? =some [iN a]:=fun j hj=>by rw[hL];exact CF j (by omega)
 clear CF;have lQa:=sA.bound.2;obtain⟨m,hm⟩:∃m,A .pM zi (A .nat an)=m:=⟨_,rfl⟩;have jXC:m=((min i an:Nat):Int):=by rw[<-hm,hA.pM,hA.nat,fQM];show min (i:Int) (an:Int)=_;omega
 have nm:aS m (min i an):=⟨jXC⟩;have TU:0<=m/\m<=(ac:Int):=by omega
 have ht:R0.take (min i an)=R0.take i:=by
  rw[hL];rcases Nat.le_total i R0.length with h1|h1
  ·rw[Nat.min_eq_left h1]
  ·rw[Nat.min_eq_right h1,List.take_of_length_le h1,List.take_of_length_le (Nat.le_refl _)]
 have qT:Sl 59 aD h8 (.slice (A .cut ab 0 (A .nat ac) 1) (A .su m 0) ac) (R0.take i):=by rw[<-ht];exact LQ (A:=A) (z:=A .nat ac) sA (Nat.min_le_right i an) (fh (A:=A) nm) (by omega)
 have lQW:A .aI .neq (A .nat an) (A .nat an)=false:=by rw[aC A];simp
 clear aKX pG jZt ht jXC nm qA cJ iQt hL;rw[um];cbv;rw[um];cbv;rw[um];cbv;refine⟨Lp,?_⟩;cbv;refine Ac.cC g0 (n:=0) rfl (o:=4) (m:=1) (by decide) (fun cs ay=>?_);obtain⟨_,_,_,u4,u5,u6,rfl,-,sr⟩:=ay;cbv;refine DW sA sr ?_;cbv;rw[zd];cbv;rw[hm];refine⟨TU,?_⟩;cbv;refine DW sS qT ?_;clear qT sr Ac g0 Lp;cbv;rw[zd];cbv;rw[lQW];obtain⟨I,aY⟩:∃I:Nat->Int->ad->Prop,∀m g h',I m g h'=∃i,aS g i/\m=an-i/\h'=h8:=⟨_,fun _ _ _=>rfl⟩;have hJ:I an 0 h8:=by rw[aY];exact⟨0,⟨rfl⟩,rfl,rfl⟩
 cbv;refine aX.go (G:=Int) (fun g=>[(16,.v (.int .i64 g))]) (fun _=>[(5,[.slice b1 3 c1,.slice b2 n2 c2,.slice b3 n3 c3,.slice b4 n4 c4]),(7,[.slice x1 m1 g1,.slice x2 m2 g2,.slice x3 m3 g3,.slice x4 m4 g4]),(10,[.slice v1 o1 p1,.slice v2 o2 p2,.slice v3 o3 p3,.slice v4 o4 p4]),(13,[.slice w1 k1 r1,.slice w2 k2 r2,.slice w3 k3 r3,.slice w4 k4 r4])]) (fun m g h'=>I m g h') an 0 ⟨?_,?_,?_⟩ hJ ?_
 ·cbv
 ·cbv
 ·cbv
 ·intro m z h9 hI;rw[aY]at hI;cbv;obtain⟨j,hz,hm,rfl⟩:=hI;have f1:A .aI .lss z (A .nat an)=decide (j<an):=hz.iJ (aS.nat an);rw[f1];by_cases aP:j<an
  ·obtain⟨a,v,hr,Bc⟩:=fZb j aP;have cN:=hz.eq;obtain⟨zl,Fz⟩:∃zl,A .nat an=zl:=⟨_,rfl⟩;have eZd:aS zl an:=by rw[<-Fz];exact aS.nat an
   obtain⟨z1,jV⟩:∃z1,A .bB .sub .i64 zl 1=z1:=⟨_,rfl⟩;have bZl:aS z1 (an-1):=by rw[<-jV];exact ff (A:=A) eZd (⟨rfl⟩:aS 1 1) (by omega) (by omega)
   obtain⟨z3,ui⟩:∃z3,A .bB .sub .i64 z1 z=z3:=⟨_,rfl⟩;have eKN:aS z3 (an-1-j):=by rw[<-ui];exact ff (A:=A) bZl hz (by omega) (by omega)
   have cQt:=eKN.eq;have cZ:=hz.succ (A:=A) (by omega);obtain⟨z2,dL⟩:∃z2,A .bB .add .i64 z 1=z2:=⟨_,rfl⟩;rw[dL]at cZ;obtain⟨mm,sf⟩:∃mm,mm=an-(j+1):=⟨_,rfl⟩;have cD:I mm z2 h9:=by rw[aY];exact⟨j+1,cZ,sf,rfl⟩
   have sh:mm<m:=by omega
   have Ns:(0:Int)<=0/\(0:Int)<((2:Nat):Int):=by decide
   have gT:(0:Int)<=0/\(0:Int)<((1:Nat):Int):=by decide
   have Ln:db.isSome=true/\0<=z/\z<(an:Int):=⟨sD.aT (by omega),hz.ix aP⟩;have ZE:ab.isSome=true/\0<=z3/\z3<(an:Int):=⟨sA.aT (by omega),eKN.ix (by omega)⟩;have f11:A .aI .neq (A .nat 1) 1=false:=by rw[aC A,hA.nat];rfl
   have ev:A .not (A .and (A .aI .eql 2 2) (A .and (A .aI .eql a a) (A .and (A .iQ .eql ⟨#[]⟩ ⟨#[]⟩) true)))=false:=by have:=pA A (iN a) (iN a);rw[Iw]at this;replace this:A .and (A .aI .eql 2 2) (A .and (A .aI .eql a a) (A .and (A .iQ .eql ⟨#[]⟩ ⟨#[]⟩) true))=true:=this;rw[this];exact zd
   clear aY hJ fZb;rw[decide_eq_true aP];cbv;refine⟨Ln,?_⟩;cbv;refine bZ sD Bc cN (fun eb en ec qe=>?_);have Qh:en=1:=qe.len;subst Qh;cbv;rw[f11];cbv;refine⟨Ln,?_⟩;cbv;refine bZ sD Bc cN (fun eb en ec qe=>?_);have Qh:en=1:=qe.len;subst Qh;have iJr:=qe.aT (by omega);cbv;refine⟨⟨iJr,gT⟩,?_⟩;cbv;refine qe.load (i:=0) rfl (n:=0) rfl (fun cs ay=>?_);replace ay:cs=[.int .i64 2,.int .i64 a,.string b0]:=ay;subst ay;cbv;rw[Fz,jV,ui];refine⟨ZE,?_⟩;cbv;refine bZ sA hr cQt (fun fb fn fc qf=>?_);have jQ:fn=2:=qf.len;subst jQ;have rU:=qf.aT (by omega);cbv;refine⟨⟨rU,Ns⟩,?_⟩;cbv;refine qf.load (i:=0) rfl (n:=0) rfl (fun cs ay=>?_);replace ay:cs=[.int .i64 2,.int .i64 a,.string b0]:=ay;subst ay;cbv;rw[ev];cbv;rw[dL];refine⟨mm,_,sh,⟨?_,?_,?_⟩,cD⟩
   ·cbv
   ·cbv
   ·cbv
  ·clear aY hJ;rw[decide_eq_false aP];cbv;exact⟨lt,trivial⟩
theorem aXY{xs:List wK}{h:ad}{b:Option Addr}{n c:Nat}(q:zW kn h (.slice b n c) xs)(w:Int):Ct 4 [.slice b n c,.int .i64 w] h (fun v h'=>Le h h'/\v=.bool true):=
 aXX q w (sl:=fun i=>XN i) dXL eJV (fun h=>aJn h) (LN _) bJR (fun i=>LN _) (fun aj=>⟨WK _ aj,eQI aj,fun i=>WK _ aj⟩) (fun al=>⟨by have:=cXQ (-1) al;rwa[bKP]at this,fJw al,fun i=>by have:=cXQ (i:Int) al;rwa[Pr]at this⟩)
end Go.S
