import Derived.Test.YtekoaiendgjkdaaGreatWF
import Derived.Test.YtekoaiendgjkdaaGreatWC
import Derived.Test.YtekoaiendgjkdaaGreatYC
set_option linter.unusedVariables false
set_option linter.unusedSimpArgs false
set_option linter.unusedSectionVars false
set_option maxRecDepth 100000
set_option maxHeartbeats 8000000
namespace Go.S
open Go.Sx
theorem Pt(n:Nat)(h:n<10000):(dk n).length<=4:=by
 rw[dk];split
 ·have:=nL (n / 10) (by omega);rw[nX];simp only[mQx,mQK];omega
 ·simp only[mQx,mQK];omega
def vF:By:=[115,101,108,101,99,116,32,42,32,102,114,111,109,32,116,97,32,108,105,109,105,116,32]
theorem cH.vG(n:Nat)(hn:n<2^62):cH (vF++dk n) [wd [115,101,108,101,99,116],Ax 42,wd [102,114,111,109],wd [116,97],wd [108,105,109,105,116],ur n]:=
 cH.name (c:=115) [101,108,101,99,116] rfl rfl rfl (cH.sp (cH.sign (c:=42) rfl (by decide) (by decide) (cH.sp (cH.name (c:=102) [114,111,109] rfl rfl rfl (cH.sp (cH.name (c:=116) [97] rfl rfl rfl (cH.sp (cH.name (c:=108) [105,109,105,116] rfl rfl rfl (cH.sp (cH.fJy n hn))))))))))
theorem eJR(n:Nat):rD ao ([wd [115,101,108,101,99,116],Ax 42,wd [102,114,111,109],wd [116,97],wd [108,105,109,105,116],ur n]++[oH])=(XN n,0):=by kernel_rfl
theorem aJm{n:Nat}(hn:n<10000):cL ao (aM (vF++dk n))=(XN n,0)/\bJ (aM (vF++dk n))=true:=by
 have hd:=Pt n hn;have hw:=wW (s:=aM (vF++dk n)) (by
  have h2:vF.length=23:=rfl;rw[ep,nX];omega) (cH.vG n (by omega))
 refine⟨(xy hw).trans (eJR n),?_⟩;unfold bJ;rw[hw];rfl
theorem bKO{l:List Row}{n:Nat}(h:l.length<=n):bL l (n:Int)=l:=by rw[Pr,mQM h]
open Go.Sx Go.Proofs
def gZH:ByteArray:=⟨#[115,101,108,101,99,116,32,42,32,102,114,111,109,32,116,97,32,108,105,109,105,116,32,48]⟩
theorem eJU:cL ao gZH=(XN 0,0)/\bJ gZH=true:=⟨by kernel_rfl,by kernel_rfl⟩
theorem aJI{A:Ar}[hA:bM A]{z:Int}{i:Nat}(hz:aS z i)(h:i<1000):A .bB .add .i64 200 z=((200+i:Nat):Int):=by have h1:=hz.eq;rw[hA.bB];show IntKind.wrap .i64 (200+z)=_;rw[IntWalk.i64_in _ (by omega)];omega
theorem bKN{xs:List wK}{h:ad}{b:Option Addr}{n c:Nat}(q:zW kn h (.slice b n c) xs)(w:Int){sa sc TB:aJ}{sb:Nat->aJ}(jk:cL ao gZH=(sa,0)/\bJ gZH=true)(tb:∀ {m:Nat},m<10000->cL ao (aM (vF++dk m))=(sb m,0)/\bJ (aM (vF++dk m))=true)(tc:cL ao gZJ=(sc,0)/\bJ gZJ=true)(tg:cL ao bJF=(TB,0)/\bJ bJF=true)(vi:dr sa)(dJA:∀m,dr (sb m))(jXh:dr sc)(fQV:dr TB)
 (MT:∀ {R log d},AJ R log d->iE d 0 sa/\(∀m,iE d 0 (sb m))/\iE d 0 sc/\iE d 0 TB) (NK:∀ {R log d},AL 25 R log d->(∃d1,AJ R log d1/\iD d 0 sa=(d1,[],0))/\(∀m:Nat,25<=m->∃d1,AJ R log d1/\iD d 0 (sb m)=(d1,R 0,0))/\(∃d1,AJ R log d1/\iD d 0 sc=(d1,[],0))/\∃d1 B,AJ R log d1/\iD d 0 TB=(d1,B,0)/\B.length=min (R 0).length 1):
 Ct 15 [.slice b n c,.int .i64 w] h (fun v h'=>Le h h'/\v=.bool true):=by
 obtain⟨A,hA⟩:=Ar.ex;have zd:A .not true=false:=by rw[hA.not];rfl
 refine ah A (ax kQc.aK kQc.bF) Tryz.func15 rfl (by kernel_rfl) ?_;cbv;refine(qU h).mono (fun v h1 hR=>?_);obtain⟨l1,hv⟩:=hR;subst hv;cbv;rw[zd];cbv;refine vR (q.mono l1) (fun h2 b1 n1 c1 b2 n2 c2 b3 n3 c3 b4 n4 c4 R log d l2 vh al=>?_);obtain⟨⟨d1,cZD,MY⟩,hb,⟨d3,iKn,bZS⟩,⟨d4,B,lXR,jZz,eZN⟩⟩:=NK al;obtain⟨WO,jJi,fJx,jJj⟩:=MT al.aj;have ej:=al.ej;have pG:=al.aj.az;have vN:(R 0).length<=25:=by have:=al.ln;have:=al.le;omega
 clear NK MT al cZD iKn lXR;generalize aKX:R 0=R0 at *;cbv;refine Lh vh ej (by decide) jk.2 jk.1 vi WO (fun h3 dQQ dQI dQM dQP dQH dQL dQO dQG dQK dQN dQF dQJ ab an ac l3 _ qE=>?_);rw[MY]at qE |-;replace qE:Sl 59 aD h3 (.slice ab an ac) []:=qE;have RM:an=0:=qE.len;subst RM;clear MY WO jk vi qE;cbv;refine nk w 1000 (by decide) (by decide) h3 (fun zm m aJZ _ hm=>?_);have nW:=aJI (A:=A) aJZ hm;obtain⟨hXe,gJG⟩:∃z,A .bB .add .i64 200 zm=z:=⟨_,rfl⟩;rw[gJG]at nW;obtain⟨u,hu⟩:∃u:Nat,u=200+m:=⟨_,rfl⟩;rw[<-hu]at nW;obtain⟨hXm,nb⟩:=tb (m:=u) (by omega);obtain⟨d2,cZC,DG⟩:=hb u (by omega);have WN:=jJi u;have KC:=dJA u;have TN:=Pt u (by omega);obtain⟨eJE,dJN⟩:∃eJE,eJE=aM (dk u):=⟨_,rfl⟩;obtain⟨tx,Tj⟩:∃t,A .cat ⟨#[115,101,108,101,99,116,32,42,32,102,114,111,109,32,116,97,32,108,105,109,105,116,32]⟩ eJE=t:=⟨_,rfl⟩;have eJA:tx=aM (vF++dk u):=by rw[<-Tj,dJN,hA.cat];simp[aM,vF];rfl
 have y1:((23+eJE.size:Nat):Int)<=2^62:=by rw[dJN,ep];omega
 rw[<-eJA]at hXm nb;have fZd:∀(h:ad) {k:Value->ad->Prop},(∀h',Le h h'->k (.string eJE) h')->Ct 27 [.int .i64 hXe] h k:=fun h {k} hk=>yr u hXe nW (by omega) h (fun h' l=>by rw[<-dJN];exact hk h' l);clear tb hb jJi dJA eJA dJN nW cZC;generalize sb u=hXs at *;cbv;rw[gJG];refine fZd h3 (fun h4 l4=>?_);cbv;refine⟨y1,?_⟩;cbv;rw[Tj];refine Lh ((vh.mono l3).mono l4) ej (by decide) nb hXm KC WN (fun h5 dXk dXb dXg dXj dXa dXf dXi dQZ dXe dXh dQY dXd bb bn bc l5 _ eJY=>?_);rw[DG]at eJY |-;replace eJY:Sl 59 aD h5 (.slice bb bn bc) R0:=eJY;clear DG WN KC fZd hXm nb y1 Tj;cbv;refine Lh (((vh.mono l3).mono l4).mono l5) ej (by decide) tc.2 tc.1 jXh fJx (fun h6 lJi lJa lJe lJh lZZ lJd lJg lZY lJc lJf lZX lJb cb cn cc l6 _ hXL=>?_);rw[bZS]at hXL |-;replace hXL:Sl 59 aD h6 (.slice cb cn cc) []:=hXL;have DF:cn=0:=hXL.len;subst DF;clear bZS fJx tc jXh hXL;cbv;refine Lh ((((vh.mono l3).mono l4).mono l5).mono l6) ej (by decide) tg.2 tg.1 fQV jJj (fun h7 kXq lZQ lZS eJp hZb iKA lZU lZP lZR iKC iKx iKz gb gn gc l7 _ hKc=>?_);rw[jZz]at hKc |-;replace hKc:Sl 59 aD h7 (.slice gb gn gc) B:=hKc;have CE:gn=min R0.length 1:=by rw[<-eZN];exact hKc.len
 have kXK:=eJY.mono ((l6.trans l7).t _);have Ac:=(((((vh.mono l3).mono l4).mono l5).mono l6).mono l7).xj;have lt:Le h h7:=(((((l1.trans l2).trans l3).trans l4).trans l5).trans l6).trans l7;have um:A .aI .eql 0 0=true:=by rw[aA A];rfl
 have jZS:A .aI .eql (A .nat 0) 0=true:=by rw[aA A,hA.nat];rfl
 have lG:n1=3:=by rw[Ac.len,pG];rfl
 subst lG;have g0:d.az[0]? =some ⟨aF 0,R0⟩:=by rw[pG,<-aKX];rfl
 have Lp:b1.isSome=true/\(0:Int)<=0/\(0:Int)<((3:Nat):Int):=⟨Ac.aT (by omega),by omega,by omega⟩;have YS:∀u5,u5=R0.length->A .aI .eql (A .nat gn) (A .pM (A .nat u5) 1)=true:=fun u5 hu=>by
  rw[aA A,hA.pM,hA.nat];refine kS ?_;rw[CE,hu];show((min R0.length 1:Nat):Int)=min (R0.length:Int) 1;omega
 clear jZz jJj tg fQV hKc eJY vh ej pG aKX q l1 l2 l3 l4 l5 l6 l7 eZN CE;cbv;refine⟨Lp,?_⟩;cbv;refine Ac.cC g0 (n:=0) rfl (o:=4) (m:=1) (by decide) (fun cs ay=>?_);obtain⟨_,_,_,u4,u5,u6,rfl,-,sr⟩:=ay;have Th:u5=R0.length:=sr.len;have jXE:=YS u5 Th;clear YS sr;cbv;rw[um];cbv;rw[um];cbv;rw[um];cbv;rw[um];cbv;rw[jZS];cbv;refine⟨Lp,?_⟩;cbv;refine Ac.cC g0 (n:=0) rfl (o:=4) (m:=1) (by decide) (fun cs ay=>?_);obtain⟨_,_,_,v4,v5,v6,rfl,-,sr⟩:=ay;cbv;refine DW kXK sr ?_;cbv;rw[jZS];cbv;rw[jXE];exact⟨lt,rfl⟩
theorem gJw{xs:List wK}{h:ad}{b:Option Addr}{n c:Nat}(q:zW kn h (.slice b n c) xs)(w:Int):Ct 15 [.slice b n c,.int .i64 w] h (fun v h'=>Le h h'/\v=.bool true):=
 bKN q w (sb:=fun m=>XN m) eJU (fun h=>aJm h) eJW dXJ (LN 0) (fun m=>LN _) bJS aXK (fun aj=>⟨WK 0 aj,fun m=>WK _ aj,aXL.aQB Kb Er aj,Vj.aQB GN Er aj⟩)
  (fun{R log d} al=>⟨by have:=cXQ 0 al;exact this,fun m hm=>by have:=cXQ (m:Int) al;rwa[bKO (by have:=al.ln;have:=al.le;omega)]at this,fJN al,eXa al⟩)
end Go.S
