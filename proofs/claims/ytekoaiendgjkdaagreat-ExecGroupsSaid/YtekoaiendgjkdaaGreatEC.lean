import Derived.Test.YtekoaiendgjkdaaGreatEB
import Derived.Test.YtekoaiendgjkdaaGreatRd
set_option linter.unusedVariables false
set_option linter.unusedSimpArgs false
set_option linter.unusedSectionVars false
set_option maxRecDepth 100000
set_option maxHeartbeats 8000000
namespace Go.S
open Go.Sx Go.Proofs
def bQ(W:List fJ)(s:Int):List Int:=W.map fun x=>IntKind.i64.wrap (x.s-s)
def Hw(d:DB)(hd:cg):Bool:=jG (bQ d.aq hd.s)&&jG (aQ d.az hd.table)
structure Small(d:DB):Prop where
 az:d.az.length<=2^37
 aq:d.aq.length<=2^37
 rows:∀t∈d.az,t.rows.length<=2^37
 holds:d.holds.length<2^18
 waits:d.waits.length<2^18
def rh(d:DB)(s:FR):DB×Int:=nZ d s (di (aQ d.az s.name)) (jG (aQ d.az s.name))
def dy(d:DB)(s:Int):DB×Int:=jh d s (di (bQ d.aq s)) (jG (bQ d.aq s))
abbrev bJg(h:ad)(d':DB)(e:Int)(k:Value->ad->Prop):Prop:=
 ∀h' b1 n1 c1 b2 n2 c2 b3 n3 c3 b4 n4 c4,Le h h'->ik h' (.agg #[.slice b1 n1 c1,.slice b2 n2 c2,.slice b3 n3 c3,.slice b4 n4 c4]) d'->k (.tuple #[.agg #[.slice b1 n1 c1,.slice b2 n2 c2,.slice b3 n3 c3,.slice b4 n4 c4],.int .i64 e]) h'
theorem MA{z:Int}{i j:Nat}(a:aS z i)(b:aS z j):i=j:=by have:=a.eq;have:=b.eq;omega
theorem Zz{d:DB}{h:ad}{v:Value}(q:ik h v d){nm:ByteArray}{cols:List cK}{key:Int}{only:Bool}{sb:Option Addr}{sn sc:Nat}(qs:Sl 165 bI h (.slice sb sn sc) cols)(sm:Small d){D:DB×Int}(hD:rh d ⟨nm,cols,key,only⟩=D)
 {k:Value->ad->Prop} (hk:bJg h D.1 D.2 k):Ct 45 [v,.agg #[.string nm,.slice sb sn sc,.int .i64 key,.bool only]] h k:=
 (bQV q qs sm.az sm.aq).mono (fun v h' hR=>by
  obtain⟨v1,e,z,i,is,hv,l,hd,he,hz,hb⟩:=hR;obtain⟨h1,h2⟩:=hb.at_;have hi:=MA hz h1;have eZK:nZ d ⟨nm,cols,key,only⟩ i is=D:=by rw[<-hD,hi,h2];rfl
  rw[eZK]at hd he;obtain⟨b1,n1,c1,b2,n2,c2,b3,n3,c3,b4,n4,c4,hf⟩:=hd.form;rw[hv,hf,he];exact hk h' _ _ _ _ _ _ _ _ _ _ _ _ l (by rw[<-hf];exact hd))
theorem uX{d:DB}{h:ad}{v:Value}(q:ik h v d)(s:Int)(sm:Small d){D:DB×Int}(hD:dy d s=D){k:Value->ad->Prop}(hk:bJg h D.1 D.2 k):Ct 25 [v,.int .i64 s] h k:=
 (cZs q s sm.aq).mono (fun v h' hR=>by
  obtain⟨v1,e,z,i,is,hv,l,hd,he,hz,hb⟩:=hR;obtain⟨h1,h2⟩:=hb.at_;have hi:=MA hz h1;have eZK:jh d s i is=D:=by rw[<-hD,hi,h2];rfl
  rw[eZK]at hd he;obtain⟨b1,n1,c1,b2,n2,c2,b3,n3,c3,b4,n4,c4,hf⟩:=hd.form;rw[hv,hf,he];exact hk h' _ _ _ _ _ _ _ _ _ _ _ _ l (by rw[<-hf];exact hd))
def gKK:DB:=⟨[],[],[],[]⟩
def nA:ByteArray:=⟨#[97]⟩
theorem hZJ(h:ad):ik h (.agg #[.slice none 0 0,.slice none 0 0,.slice none 0 0,.slice none 0 0]) gKK:=
 ⟨_,_,_,_,_,_,_,_,_,_,_,_,[],rfl,Sl.nil,Sl.nil,Sl.nil,Sl.nil,rfl⟩
def LR:List ByteArray:=[⟨#[116,97]⟩,⟨#[116,98]⟩,⟨#[116,99]⟩]
def bp:List cK:=[⟨nA,2,false⟩,⟨⟨#[98]⟩,3,true⟩]
def aF(t:Nat):FR:=⟨(LR[t]?).getD jb,bp,0,decide (t=2)⟩
theorem Vl{z:Int}{t:Nat}(hz:aS z t)(ht:t<3)(h:ad){k:Value->ad->Prop}
 (hk:∀h' b n c nm o,Le h h'->nm=(aF t).name->o=(aF t).only->Sl 165 bI h' (.slice b n c) bp->k (.agg #[.string nm,.slice b n c,.int .i64 0,.bool o]) h'):Ct 46 [.int .i64 z] h k:=by
 obtain⟨A,hA⟩:=Ar.ex;obtain⟨x,hx⟩:=aE (xs:=LR) (i:=t) ht;have bZv:x=(aF t).name:=by unfold aF;rw[hx];rfl
 have he:A .aI .eql z 2=decide (t=2):=by rw[aA A,decide_eq_decide];have:=hz.eq;omega
 have cJ:(0:Int)<=z/\z<((3:Nat):Int):=hz.ix ht;refine ah A (ax jKD.aK jKD.bF) Tryz.func46 rfl (by kernel_rfl) ?_;cbv;intro n1 h1 lG e1;have l1:Le h h1:=by rw[e1];exact Le.set lG
 have g1:=(congrFun e1 n1).trans ae;have s1:Sl 165 bI h1 (.slice (some ⟨n1,0,none⟩) 2 2) bp:=by
  refine Sl.fresh (xs:=bp) g1 ⟨by simp[bp,bI],fun j y hj=>?_⟩ (by simp[bp]) (by simp[bp])
  match j,hj with
  |0,hj=>simp[bp]at hj;subst hj;rfl
  |1,hj=>simp[bp]at hj;subst hj;rfl
  |j+2,hj=>simp[bp]at hj
 cbv;intro n2 h2 mY e2;have l2:Le h1 h2:=by rw[e2];exact Le.set mY
 have g2:=(congrFun e2 n2).trans ae;have s2:Sl 9 dX h2 (.slice (some ⟨n2,0,none⟩) 3 3) LR:=GC (s:=dX) rfl g2 (x:=⟨#[116,97]⟩) (y:=⟨#[116,98]⟩) (w:=⟨#[116,99]⟩) rfl rfl rfl;cbv;refine⟨⟨rfl,cJ⟩,?_⟩;cbv;refine s2.load hx hz.eq (fun cs ay=>?_);have ay:cs=[.string x]:=ay;subst ay;have af:=hk h2 _ _ _ x (decide (t=2)) (l1.trans l2) bZv rfl (s1.mono (l2.t _));cbv;rw[he];exact af
theorem bKT(h:ad):Ct 226 [] h (fun v h'=>Le h h'/\∃nb,v=.slice (some ⟨nb,0,none⟩) 41 41/\Sl 9 dX h' v jY):=by
 obtain⟨A,hA⟩:=Ar.ex;refine ah A (ax gQC.aK gQC.bF) Tryz.func226 rfl (by kernel_rfl) ?_;cbv;intro n h1 hn e1;have g:h1 n=some (.cells (List.toArray (jY.map Value.string)) 9 (0,0)):=by rw[e1];exact ae
 have hr:Sx.Rows dX h1 (jY.map Value.string) 0 jY:=by refine⟨by decide,fun i x hx=>?_⟩;have aP:=(HH.1 hx).1;show List.take 1 (List.drop (0+i*1) _)=_;rw[mQY,mZt,mQy (by simpa using aP)];rw[HH]at hx;simp[hx.2]
 have hs:Sl 9 dX h1 (.slice (some ⟨n,0,none⟩) 41 41) jY:=Sl.fresh (xs:=jY) g hr (by decide) (by decide);have hl:Le h h1:=by rw[e1];exact Le.set hn
 clear g hr e1;cbv;exact⟨hl,n,rfl,hs⟩
theorem Gg{h:ad}{s:ByteArray}:Ct 133 [.string s] h (fun v h'=>Le h h'/\∃t,v=.bool t/\t=ao s):=by
 obtain⟨A,hA⟩:=Ar.ex;refine ah A (ax gXN.aK gXN.bF) Tryz.func133 rfl (by kernel_rfl) ?_;have hn:A .jO s=(s.size:Int):=by rw[hA.jO]
 have Cv:aS (A .jO s) s.size:=⟨hn⟩;have rR:∀z i,aS z i->A .byte s z=jg s i:=fun z i hz=>by
  rw[hA.byte];simp only[jg];rw[hz.eq];rfl
 generalize e1:A .aI .lss (A .jO s) 1=t1;generalize e2:A .aI .gtr (A .jO s) 12=t2;generalize e3:A .aI .lss (A .byte s 0) 97=t3;generalize e4:A .aI .gtr (A .byte s 0) 122=t4;have CI:t2=false->s.size<=12:=fun e=>by
  rw[e,hA.aI,hn]at e2;have:=mQI e2;omega
 have hf:BS s= !(t1||t2||t3||t4):=by rw[<-e1,<-e2,<-e3,<-e4,rR 0 0 ⟨rfl⟩,hn,hA.aI];rfl
 have fZJ:t1=false->(0:Int)<=0/\0<(s.size:Int):=fun e=>by
  rw[e,hA.aI,hn]at e1;have:=mQI e1;omega
 have Hy:∀(t:Bool) (b:Bool),t=false->BS s=false->t=ao s:=fun t b ht hq=>by rw[ht,ao,hq];rfl
 have To:∀(t:Bool),t=true->t=t:=fun _ _=>rfl;cbv;rw[e1];cases t1 with
 |true=>cbv;exact⟨Le.refl _,false,rfl,Hy _ true rfl hf⟩
 |false=>
  have h1:=fZJ rfl;cbv;rw[e2];cases t2 with
  |true=>cbv;exact⟨Le.refl _,false,rfl,Hy _ true rfl hf⟩
  |false=>
   cbv;refine⟨h1,?_⟩;cbv;rw[e3];cases t3 with
   |true=>cbv;exact⟨Le.refl _,false,rfl,Hy _ true rfl hf⟩
   |false=>
    cbv;refine⟨h1,?_⟩;cbv;rw[e4];cases t4 with
    |true=>cbv;exact⟨Le.refl _,false,rfl,Hy _ true rfl hf⟩
    |false=>
     cbv;have Wp:BS s=true:=hf;have CI:=CI rfl;clear hf e1 e2 e3 e4 fZJ Hy To;refine aX.go (G:=Int) (fun z=>[(3,.v (.int .i64 z))]) (fun _=>[]) (fun n z h'=>∃i:Nat,aS z i/\n=s.size-i/\i<=s.size/\h'=h/\∀j,j<i->Ec (jg s j)=true) s.size 0 ⟨?_,?_,?_⟩ ⟨0,⟨rfl⟩,rfl,by omega,rfl,fun j hj=>(by omega)⟩ ?_
     ·cbv
     ·cbv
     ·cbv
     ·intro n z h' hI;cbv;obtain⟨i,hz,TD,hi,rfl,aV⟩:=hI;refine bh (fun hc=>?_) (fun hc=>?_)
      ·rw[hz.iJ (A:=A) Cv]at hc;have aP:=mQB hc;clear hc;cbv;refine⟨hz.ix aP,?_⟩;cbv;rw[rR z i hz];generalize hw:jg s i=w;generalize e1:A .aI .lss w 97=t1;generalize e2:A .aI .gtr w 122=t2;generalize e3:A .aI .lss w 48=t3;generalize e4:A .aI .gtr w 57=t4;generalize e5:A .aI .neq w 95=t5;have nR:Ec w= !((t1||t2)&&(t3||t4)&&t5):=by rw[<-e1,<-e2,<-e3,<-e4,<-e5,hA.aI];rfl
       have bad:Ec w=false->ao s=false:=fun e=>by
        have:BT s=false:=by unfold BT;rw[mJr];exact⟨i,by simp[aP],by rw[hw,e];simp⟩
        rw[ao,this];simp
       have pO:Ec w=true->∀j,j<i+1->Ec (jg s j)=true:=fun e j hj=>by
        rcases mQS j i with h|h
        ·exact aV j h
        ·have:j=i:=by omega
         rw[this,hw,e]
       cbv;cases t1 with
       |true=>
        cbv;rw[e3];cases t3 with
        |true=>
         cbv;rw[e5];cases t5 with
         |true=>cbv;exact⟨Le.refl _,false,rfl,(bad (by rw[nR];rfl)).symm⟩
         |false=>cbv;exact⟨s.size-(i+1),_,by omega,⟨by cbv,by cbv,by cbv⟩,i+1,hz.succ (A:=A) (by omega),rfl,by omega,rfl,pO (by rw[nR];rfl)⟩
        |false=>
         cbv;rw[e4];cases t4 with
         |true=>
          cbv;rw[e5];cases t5 with
          |true=>cbv;exact⟨Le.refl _,false,rfl,(bad (by rw[nR];rfl)).symm⟩
          |false=>cbv;exact⟨s.size-(i+1),_,by omega,⟨by cbv,by cbv,by cbv⟩,i+1,hz.succ (A:=A) (by omega),rfl,by omega,rfl,pO (by rw[nR];rfl)⟩
         |false=>cbv;exact⟨s.size-(i+1),_,by omega,⟨by cbv,by cbv,by cbv⟩,i+1,hz.succ (A:=A) (by omega),rfl,by omega,rfl,pO (by rw[nR];rfl)⟩
       |false=>
        cbv;rw[e2];cases t2 with
        |true=>
         cbv;rw[e3];cases t3 with
         |true=>
          cbv;rw[e5];cases t5 with
          |true=>cbv;exact⟨Le.refl _,false,rfl,(bad (by rw[nR];rfl)).symm⟩
          |false=>cbv;exact⟨s.size-(i+1),_,by omega,⟨by cbv,by cbv,by cbv⟩,i+1,hz.succ (A:=A) (by omega),rfl,by omega,rfl,pO (by rw[nR];rfl)⟩
         |false=>
          cbv;rw[e4];cases t4 with
          |true=>
           cbv;rw[e5];cases t5 with
           |true=>cbv;exact⟨Le.refl _,false,rfl,(bad (by rw[nR];rfl)).symm⟩
           |false=>cbv;exact⟨s.size-(i+1),_,by omega,⟨by cbv,by cbv,by cbv⟩,i+1,hz.succ (A:=A) (by omega),rfl,by omega,rfl,pO (by rw[nR];rfl)⟩
          |false=>cbv;exact⟨s.size-(i+1),_,by omega,⟨by cbv,by cbv,by cbv⟩,i+1,hz.succ (A:=A) (by omega),rfl,by omega,rfl,pO (by rw[nR];rfl)⟩
        |false=>cbv;exact⟨s.size-(i+1),_,by omega,⟨by cbv,by cbv,by cbv⟩,i+1,hz.succ (A:=A) (by omega),rfl,by omega,rfl,pO (by rw[nR];rfl)⟩
      ·rw[hz.iJ (A:=A) Cv]at hc;have lN:=mQI hc;cbv;have aKU:BT s=true:=by unfold BT;rw[mXf];intro j hj;rw[mJk]at hj;exact aV j (by omega)
       refine(bKT h').mono (fun v h2 hR=>?_);obtain⟨l2,nb,rfl,ql⟩:=hR;cbv;refine aX.go (G:=Int) (fun z=>[(6,.v (.int .i64 z))]) (fun _=>[]) (fun n z h3=>∃i:Nat,aS z i/\n=41-i/\i<=41/\h3=h2/\∀j,j<i->∀y,jY[j]? =some y->y≠s) 41 0 ⟨?_,?_,?_⟩ ⟨0,⟨rfl⟩,by omega,by omega,rfl,fun j hj=>(by omega)⟩ ?_
       ·cbv
       ·cbv
       ·cbv
       ·intro n2 z2 h3 cD;cbv;obtain⟨i2,dL,mY,aQp,rfl,cKE⟩:=cD;refine bh (fun hc=>?_) (fun hc=>?_)
        ·have iV:=dL.lt hc;clear hc;cbv;obtain⟨x,hx⟩:=aE (xs:=jY) (i:=i2) iV;refine⟨⟨rfl,dL.ix iV⟩,?_⟩;cbv;refine ql.load hx dL.eq (fun cs ay=>?_);have ay:cs=[.string x]:=ay;subst ay;cbv;rw[cS A];by_cases Cp:x=s
         ·rw[kS Cp];have fZ:vL s=true:=vK.2 (by rw[<-Cp];exact GD hx);cbv;exact⟨l2,false,rfl,by rw[ao,fZ];simp⟩
         ·rw[nM Cp];cbv;refine⟨41-(i2+1),_,by omega,⟨?_,?_,?_⟩,i2+1,dL.succ (A:=A) (by omega),rfl,by omega,rfl,?_⟩
          ·cbv
          ·cbv
          ·cbv
          ·intro j hj y hy;rcases mQS j i2 with h|h
           ·exact cKE j h y hy
           ·have:j=i2:=by omega
            subst this;rw[hx]at hy;cases hy;exact Cp
        ·have kKE:=dL.ge hc;have fZ:vL s=false:=by
          cases hi:vL s with
          |false=>rfl
          |true=>have hm:=vK.1 hi;obtain⟨j,hj⟩:=mQZ hm;have tX:j<41:=(HH.1 hj).1;exact absurd rfl (cKE j (by omega) s hj)
         cbv;exact⟨l2,true,rfl,by rw[ao,Wp,aKU,fZ];rfl⟩
theorem cXE{cols:List cK}{h:ad}{b:Option Addr}{n c:Nat}(q:Sl 165 bI h (.slice b n c) cols){nm s:ByteArray}{k:Int}{only:Bool}:
 Ct 57 [.agg #[.string nm,.slice b n c,.int .i64 k,.bool only],.string s] h (fun v h'=>Le h h'/\∃z t z',v=.tuple #[.int .i64 z,.bool t]/\vg cols (fun x=>decide (x.name=s)) z'/\z=max z' 0/\t=decide (z'>=0)):=by
 obtain⟨A,hA⟩:=Ar.ex;have hlen:=q.len;obtain⟨lY,jq⟩:=q.bound;refine ah A (ax jKv.aK jKv.bF) Tryz.func57 rfl (by kernel_rfl) ?_;cbv;refine aX.go (G:=Int) (fun z=>[(6,.v (.int .i64 z))]) (fun _=>[(2,[.string nm,.slice b n c,.int .i64 k,.bool only])]) (fun m z h'=>∃i:Nat,aS z i/\m=n-i/\i<=n/\h'=h/\∀j,j<i->∀y,cols[j]? =some y->decide (y.name=s)=false) n 0 ⟨?_,?_,?_⟩ ⟨0,⟨rfl⟩,by omega,by omega,rfl,fun j hj=>(by omega)⟩ ?_
 ·cbv
 ·cbv
 ·cbv
 ·intro m z h' hI;cbv;obtain⟨i,hz,hm,hi,rfl,aV⟩:=hI;refine bh (fun hc=>?_) (fun hc=>?_)
  ·have aP:=hz.lt hc;clear hc;cbv;obtain⟨x,hx⟩:=aE (xs:=cols) (i:=i) (by omega);refine⟨⟨q.aT (by omega),hz.ix aP⟩,?_⟩;cbv;refine q.cC hx hz.eq (o:=0) (m:=1) (by decide) (fun cs ay=>?_);have ay:cs=[.string x.name,.int .i64 x.kind,.bool x.null]:=ay;subst ay;cbv;rw[cS A];by_cases Cp:x.name=s
   ·rw[kS Cp];have hR:vg cols (fun x=>decide (x.name=s)) z:=⟨.inr ⟨i,x,hz,hx,by simpa using Cp,aV⟩⟩;have MG:=hz.eq;have e1:z=max z 0:=by omega
    have e2:true=decide (z>=0):=by rw[kS (by omega)]
    cbv;exact⟨Le.refl _,z,true,z,rfl,hR,e1,e2⟩
   ·rw[nM Cp];cbv;refine⟨n-(i+1),_,by omega,⟨?_,?_,?_⟩,i+1,hz.succ (A:=A) (by omega),rfl,by omega,rfl,?_⟩
    ·cbv
    ·cbv
    ·cbv
    ·intro j hj y hy;rcases mQS j i with nT|nT
     ·exact aV j nT y hy
     ·have:j=i:=by omega
      subst this;rw[hx]at hy;cases hy;exact nM Cp
  ·have lN:=hz.ge hc;have hR:vg cols (fun x=>decide (x.name=s)) (-1):=⟨.inl ⟨rfl,fun x hx=>by
    obtain⟨j,hj⟩:=mQZ hx;have:=(HH.1 hj).1;exact aV j (by omega) x hj⟩⟩
   cbv;exact⟨Le.refl _,0,false,-1,rfl,hR,rfl,rfl⟩
theorem dJo{cols:List cK}{i:Nat}{c:cK}(hc:cols[i]? =some c){z':Int}(hr:vg cols (fun x=>decide (x.name=c.name)) z'):
 decide (max z' 0≠(i:Int))=(cols.take i).any fun x=>decide (x.name=c.name):=by
 have h1:=aJV hc hr;rw[<-h1,decide_eq_decide];rcases hr.out with ⟨-,h⟩ | ⟨k,x,hk,hx,hp,aV⟩
 ·have:=h c (GD hc);simp at this
 ·have hz:=hk.eq;have kKm:¬i<k:=fun h=>by have:=aV i h c hc;simp at this
  omega
theorem bXj{nm:ByteArray}{cols:List cK}{key:Int}{only:Bool}{h:ad}{b:Option Addr}{n c:Nat}(q:Sl 165 bI h (.slice b n c) cols):
 Ct 108 [.agg #[.string nm,.slice b n c,.int .i64 key,.bool only]] h (fun v h'=>Le h h'/\∃z,v=.int .i64 z/\z=kE ⟨nm,cols,key,only⟩):=by
 obtain⟨A,hA⟩:=Ar.ex;have hlen:=q.len;obtain⟨lY,jq⟩:=q.bound;have kP:A .not true=false:=by rw[hA.not];rfl
 have tF:A .not false=true:=by rw[hA.not];rfl
 generalize e1:A .aI .lss (A .nat n) 1=u1;generalize e2:A .aI .gtr (A .nat n) 6=u2;generalize e3:A .aI .lss key 0=u3;generalize e4:A .aI .geq key (A .nat n)=u4;have f1:=e1;have f2:=e2;have f3:=e3;have f4:=e4;rw[bm A,hA.nat]at e1;rw[bO A,hA.nat]at e2;rw[bm A]at e3;rw[cf A,hA.nat]at e4;simp only[mQJ]at e1 e2 e4;rw[hlen]at e1 e2 e4;obtain⟨E,hE⟩:∃E,E=kE ⟨nm,cols,key,only⟩:=⟨_,rfl⟩;have hS:E=if(!ao nm)=true then 12 else if(u1||u2)=true then 4 else if lJ cols≠0 then lJ cols else if(u3||u4)=true then 1 else if((cols[key.toNat]?).map (·.null)).getD false=true then 13 else 0:=by rw[hE,<-e1,<-e2,<-e3,<-e4];rfl
 rw[<-hE];refine ah A (ax gZg.aK gZg.bF) Tryz.func108 rfl (by kernel_rfl) ?_;cbv;refine Gg.mono (fun v h1 hR=>?_);obtain⟨l1,t,rfl,ht⟩:=hR;rw[<-ht]at hS;cases t with
 |false=>cbv;rw[tF];cbv;exact⟨l1,12,rfl,hS.symm⟩
 |true=>
  cbv;rw[kP];cbv;rw[f1];cases u1 with
  |true=>cbv;exact⟨l1,4,rfl,hS.symm⟩
  |false=>
   cbv;rw[f2];cases u2 with
   |true=>cbv;exact⟨l1,4,rfl,hS.symm⟩
   |false=>
    have hS:E=if lJ cols≠0 then lJ cols else if(u3||u4)=true then 1 else if((cols[key.toNat]?).map (·.null)).getD false=true then 13 else 0:=hS
    cbv;refine aX.go (G:=Int) (fun z=>[(3,.v (.int .i64 z))]) (fun _=>[(1,[.string nm,.slice b n c,.int .i64 key,.bool only])]) (fun m z h'=>∃i:Nat,aS z i/\m=n-i/\i<=n/\Le h h'/\∀j,j<i->∀y,cols[j]? =some y->iy cols j y=0) n 0 ⟨?_,?_,?_⟩ ⟨0,⟨rfl⟩,by omega,by omega,l1,fun j hj=>(by omega)⟩ ?_
    ·cbv
    ·cbv
    ·cbv
    ·intro m z h' hI;cbv;obtain⟨i,hz,hm,hi,hle,aV⟩:=hI;refine bh (fun hc=>?_) (fun hc=>?_)
     ·have aP:=hz.lt hc;clear hc;obtain⟨x,hx⟩:=aE (xs:=cols) (i:=i) (by omega);have cJ:b.isSome=true/\0<=z/\z<(n:Int):=⟨q.aT (by omega),hz.ix aP⟩;have bad:∀ {hh:ad} (w:Int),Le h hh->iy cols i x=w->w≠0->Le h hh/\∃z,Value.int .i64 w=.int .i64 z/\z=E:=fun w l ew hw=>by
       refine⟨l,w,rfl,?_⟩;have:=ID hx aV (by rw[ew];exact hw);rw[hS,this,ew,if_pos hw]
      have pO:∀(h2:ad),Le h h2->iy cols i x=0->∃j:Nat,aS (A .bB .add .i64 z 1) j/\n-(i+1)=n-j/\j<=n/\Le h h2/\∀j',j'<j->∀y,cols[j']? =some y->iy cols j' y=0:=fun h2 l e0=>
       ⟨i+1,hz.succ (A:=A) (by omega),rfl,by omega,l,fun j hj y hy=>by
        rcases mQS j i with nT|nT
        ·exact aV j nT y hy
        ·have:j=i:=by omega
         subst this;rw[hx]at hy;cases hy;exact e0⟩
      obtain⟨xn,xk,xo⟩:=x;cbv;refine⟨cJ,?_⟩;cbv;refine(q.mono (hle.t _)).cC hx hz.eq (o:=0) (m:=1) (by decide) (fun cs ay=>?_);have ay:cs=[.string xn,.int .i64 xk,.bool xo]:=ay;subst ay;cbv;refine(cXE (q.mono (hle.t _))).mono (fun v h2 hR=>?_);obtain⟨l2,zk,tk,lZL,rfl,kR,Ba,ND⟩:=hR;have bKR:=hle.trans l2;have ch:=dJo hx kR;rw[<-Ba]at ch;generalize g1:A .aI .neq zk z=w1;have k1:=g1;rw[aC A,hz.eq]at g1;rw[g1]at ch;generalize g2:A .aI .lss xk 1=w2;generalize g3:A .aI .gtr xk 3=w3;have k2:=g2;have k3:=g3;rw[bm A]at g2;rw[bO A]at g3;cbv;refine⟨cJ,?_⟩;cbv;refine(q.mono (bKR.t _)).cC hx hz.eq (o:=0) (m:=1) (by decide) (fun cs ay=>?_);have ay:cs=[.string xn,.int .i64 xk,.bool xo]:=ay;subst ay;cbv;refine Gg.mono (fun v h3 hR=>?_);obtain⟨l3,tn,rfl,HR⟩:=hR;have aQi:=bKR.trans l3;have key:iy cols i ⟨xn,xk,xo⟩=if(!tn||w1)=true then 12 else if(w2||w3)=true then 3 else 0:=by rw[HR,ch,<-g2,<-g3];rfl
      cases tn with
      |false=>have key:iy cols i ⟨xn,xk,xo⟩=12:=key;cbv;rw[tF];cbv;exact bad 12 aQi key (by omega)
      |true=>
       cbv;rw[kP];cbv;rw[k1];cases w1 with
       |true=>have key:iy cols i ⟨xn,xk,xo⟩=12:=key;cbv;exact bad 12 aQi key (by omega)
       |false=>
        cbv;refine⟨cJ,?_⟩;cbv;refine(q.mono (aQi.t _)).cC hx hz.eq (o:=1) (m:=1) (by decide) (fun cs ay=>?_);have ay:cs=[.string xn,.int .i64 xk,.bool xo]:=ay;subst ay;cbv;rw[k2];cases w2 with
        |true=>have key:iy cols i ⟨xn,xk,xo⟩=3:=key;cbv;exact bad 3 aQi key (by omega)
        |false=>
         cbv;refine⟨cJ,?_⟩;cbv;refine(q.mono (aQi.t _)).cC hx hz.eq (o:=1) (m:=1) (by decide) (fun cs ay=>?_);have ay:cs=[.string xn,.int .i64 xk,.bool xo]:=ay;subst ay;cbv;rw[k3];cases w3 with
         |true=>have key:iy cols i ⟨xn,xk,xo⟩=3:=key;cbv;exact bad 3 aQi key (by omega)
         |false=>
          have key:iy cols i ⟨xn,xk,xo⟩=0:=key;have g:=pO h3 aQi key;cbv;refine⟨n-(i+1),_,by omega,⟨?_,?_,?_⟩,g⟩
          ·cbv
          ·cbv
          ·cbv
     ·have lN:=hz.ge hc;have dKD:lJ cols=0:=Dd (fun j hj y hy=>aV j (by omega) y hy);rw[dKD,if_neg (by simp)]at hS;cbv;rw[f3];cases u3 with
      |true=>cbv;exact⟨hle,1,rfl,hS.symm⟩
      |false=>
       cbv;rw[f4];cases u4 with
       |true=>cbv;exact⟨hle,1,rfl,hS.symm⟩
       |false=>
        obtain⟨vm,sJ⟩:=SX A f3 f4;obtain⟨x,hx⟩:=aE (xs:=cols) (i:=key.toNat) (by omega);have cJ:b.isSome=true/\0<=key/\key<(n:Int):=⟨q.aT (by omega),vm.ix sJ⟩;rw[hx]at hS;obtain⟨xn,xk,xo⟩:=x;cbv;refine⟨cJ,?_⟩;cbv;refine(q.mono (hle.t _)).cC hx vm.eq (o:=2) (m:=1) (by decide) (fun cs ay=>?_);have ay:cs=[.string xn,.int .i64 xk,.bool xo]:=ay;subst ay;cases xo with
        |true=>cbv;exact⟨hle,13,rfl,hS.symm⟩
        |false=>cbv;exact⟨hle,0,rfl,hS.symm⟩
def kD:Sh fJ where
 n:=3
 R h cs t:=∃b1 n1 c1 b2 n2 c2,cs=[.int .i64 t.s,.slice b1 n1 c1,.slice b2 n2 c2]/\Sl 148 dI h (.slice b1 n1 c1) t.log/\Sl 162 dN h (.slice b2 n2 c2) t.marks
 len:=by rintro h cs x ⟨_,_,_,_,_,_,rfl,-⟩;rfl
 one:=by rintro h cs x ⟨_,_,_,_,_,_,rfl,-⟩;rfl
 tys:=[148,61,162]
 mono:=by rintro h h' cs x hl ⟨b1,n1,c1,b2,n2,c2,rfl,q1,q2⟩;exact⟨b1,n1,c1,b2,n2,c2,rfl,q1.mono (hl.sub (by decide)),q2.mono (hl.sub (by decide))⟩
structure RP(h:ad)(b1:Option Addr)(n1 c1:Nat)(b2:Option Addr)(n2 c2:Nat)(b3:Option Addr)(n3 c3:Nat)(b4:Option Addr)(n4 c4:Nat)(d:DB):Prop where
 az:Sl 156 ef h (.slice b1 n1 c1) d.az
 aq:Sl 145 kD h (.slice b2 n2 c2) d.aq
 holds:Sl 235 bG h (.slice b3 n3 c3) d.holds
 waits:Sl 235 bG h (.slice b4 n4 c4) d.waits
theorem RP.lt{h h':ad}{b1 b2 b3 b4:Option Addr}{n1 c1 n2 c2 n3 c3 n4 c4:Nat}{d:DB}(q:RP h b1 n1 c1 b2 n2 c2 b3 n3 c3 b4 n4 c4 d)(l:bR [156,165,59,61,145,148,162,235] h h'):RP h' b1 n1 c1 b2 n2 c2 b3 n3 c3 b4 n4 c4 d:=
 ⟨q.az.mono (l.sub (by decide)),q.aq.mono (l.sub (by decide)),q.holds.mono (l.sub (by decide)),q.waits.mono (l.sub (by decide))⟩
theorem RP.mono{h h':ad}{b1 b2 b3 b4:Option Addr}{n1 c1 n2 c2 n3 c3 n4 c4:Nat}{d:DB}(q:RP h b1 n1 c1 b2 n2 c2 b3 n3 c3 b4 n4 c4 d)(l:Le h h'):RP h' b1 n1 c1 b2 n2 c2 b3 n3 c3 b4 n4 c4 d:=q.lt (l.t _)
theorem IE{a b:List UInt8}:∀ {i:Nat},i<=a.length->i<=b.length->(∀j,j<i->a[j]? =b[j]?)->Lib.compareBytes a b=Lib.compareBytes (a.drop i) (b.drop i)
 |0,_,_,_=>rfl
 |i+1,ha,hb,aV=>by
  cases a with
  |nil=>simp at ha
  |cons x a=>
   cases b with
   |nil=>simp at hb
   |cons y b=>
    have h0:x=y:=by have:=aV 0 (by omega);simpa using this
    subst h0;have:Lib.compareBytes (x::a) (x::b)=Lib.compareBytes a b:=by simp[Lib.compareBytes]
    rw[this,mJg,mJg];exact IE (by simpa using ha) (by simpa using hb) (fun j hj=>by have:=aV (j+1) (by omega);simpa using this)
theorem bXt{h:ad}{a b:ByteArray}(lQc:a.size<=2^60):Ct 110 [.string a,.string b] h (fun v h'=>Le h h'/\∃t,v=.bool t/\t=decide (eC a b<0)):=by
 obtain⟨A,hA⟩:=Ar.ex;have fXC:aS (A .jO a) a.size:=⟨by rw[hA.jO]⟩;have gY:aS (A .jO b) b.size:=⟨by rw[hA.jO]⟩;have kJK:a.data.toList.length=a.size:=by rw[mXV];rfl
 have KF:b.data.toList.length=b.size:=by rw[mXV];rfl
 have aKL:∀(s:ByteArray) (i:Nat),i<s.size->∃x:UInt8,s.data.toList[i]? =some x/\jg s i=(x.toNat:Int):=fun s i hi=>by
  have Cz:i<s.data.size:=hi;refine⟨s.data[i],by simp[Cz],?_⟩;simp[jg,mXR Cz]
 have rR:∀s z i,aS z i->A .byte s z=jg s i:=fun s z i hz=>by
  rw[hA.byte];simp only[jg];rw[hz.eq];rfl
 refine ah A (ax gZe.aK gZe.bF) Tryz.func110 rfl (by kernel_rfl) ?_;cbv;refine aX.go (G:=Int) (fun z=>[(5,.v (.int .i64 z))]) (fun _=>[]) (fun m z h'=>∃i:Nat,aS z i/\m=a.size-i/\i<=a.size/\i<=b.size/\h'=h/\∀j,j<i->a.data.toList[j]? =b.data.toList[j]?) a.size 0 ⟨?_,?_,?_⟩ ⟨0,⟨rfl⟩,by omega,by omega,by omega,rfl,fun j hj=>(by omega)⟩ ?_
 ·cbv
 ·cbv
 ·cbv
 ·intro m z h' hI;cbv;obtain⟨i,hz,hm,kKu,iXo,rfl,aV⟩:=hI;have Za:=IE (a:=a.data.toList) (b:=b.data.toList) (i:=i) (by omega) (by omega) aV;have f1:A .aI .lss z (A .jO a)=decide (i<a.size):=hz.iJ fXC;have f2:A .aI .lss z (A .jO b)=decide (i<b.size):=hz.iJ gY;have f3:A .aI .lss (A .jO a) (A .jO b)=decide (a.size<b.size):=fXC.iJ gY;by_cases h1:i<a.size
  ·rw[kS h1]at f1;rw[f1];cbv;by_cases h2:i<b.size
   ·rw[kS h2]at f2;rw[f2];obtain⟨x,hx,dJA⟩:=aKL a i h1;obtain⟨y,hy,aKc⟩:=aKL b i h2;have MT:a.data.toList.drop i=x::a.data.toList.drop (i+1):=by rw[mQy (by omega)];rw[(HH.1 hx).2]
    have JB:b.data.toList.drop i=y::b.data.toList.drop (i+1):=by rw[mQy (by omega)];rw[(HH.1 hy).2]
    rw[MT,JB]at Za;have c1:(0:Int)<=z/\z<(a.size:Int):=hz.ix h1;have c2:(0:Int)<=z/\z<(b.size:Int):=hz.ix h2;have g1:A .aI .neq (A .byte a z) (A .byte b z)=decide (x≠y):=by
     rw[rR a z i hz,rR b z i hz,aC A,dJA,aKc,decide_eq_decide];refine not_congr ?_;constructor
     ·intro e;exact mXG.1 (mKa.1 e)
     ·rintro rfl;rfl
    have g2:A .aI .lss (A .byte a z) (A .byte b z)=decide (x<y):=by rw[rR a z i hz,rR b z i hz,bm A,dJA,aKc,decide_eq_decide,mXP];exact Int.ofNat_lt
    cbv;refine⟨c1,?_⟩;cbv;refine⟨c2,?_⟩;cbv;rw[g1];by_cases uP:x=y
    ·rw[nM (by simp[uP])];cbv;refine⟨a.size-(i+1),_,by omega,⟨?_,?_,?_⟩,i+1,hz.succ (A:=A) (by omega),rfl,by omega,by omega,rfl,?_⟩
     ·cbv
     ·cbv
     ·cbv
     ·intro j hj;rcases mQS j i with h|h
      ·exact aV j h
      ·have:j=i:=by omega
       rw[this,hx,hy,uP]
    ·rw[kS (by simpa using uP)];have af:decide (x<y)=decide (eC a b<0):=by
      unfold eC;rw[Za];simp only[Lib.compareBytes];by_cases aP:x<y
      ·simp[aP]
      ·have:y<x:=by rw[mXP]at aP |-;have:x.toNat≠y.toNat:=fun e=>uP (mXG.1 e);omega
       simp[aP,this]
     cbv;refine⟨c1,?_⟩;cbv;refine⟨c2,?_⟩;cbv;rw[g2];exact⟨Le.refl _,_,rfl,af⟩
   ·rw[nM h2]at f2;rw[f2];have Zc:b.data.toList.drop i=[]:=mXl (by omega);have af:decide (a.size<b.size)=decide (eC a b<0):=by
     unfold eC;rw[Za,Zc];have:a.data.toList.drop i≠[]:=by intro e;have:=congrArg List.length e;rw[mQX]at this;simp at this;omega
     cases hd:a.data.toList.drop i with
     |nil=>exact absurd hd this
     |cons x r=>simp only[Lib.compareBytes];rw[nM (by omega)];rfl
    cbv;rw[f3];exact⟨Le.refl _,_,rfl,af⟩
  ·rw[nM h1]at f1;rw[f1];have iXW:a.data.toList.drop i=[]:=mXl (by omega);have af:decide (a.size<b.size)=decide (eC a b<0):=by
    unfold eC;rw[Za,iXW];cases hd:b.data.toList.drop i with
    |nil=>have:=congrArg List.length hd;rw[mQX]at this;simp at this;simp only[Lib.compareBytes];rw[nM (by omega)];rfl
    |cons y r=>have:=congrArg List.length hd;rw[mQX]at this;simp at this;simp only[Lib.compareBytes];rw[kS (by omega)];rfl
   cbv;rw[f3];exact⟨Le.refl _,_,rfl,af⟩
theorem Ev{d:DB}{h:ad}{b1 b2 b3 b4:Option Addr}{n1 c1 n2 c2 n3 c3 n4 c4:Nat}(q:RP h b1 n1 c1 b2 n2 c2 b3 n3 c3 b4 n4 c4 d){nm:ByteArray}:
 Ct 109 [.agg #[.slice b1 n1 c1,.slice b2 n2 c2,.slice b3 n3 c3,.slice b4 n4 c4],.string nm] h (fun v h'=>Le h h'/\∃z,v=.int .i64 z/\vg d.az (fun t=>decide (t.S.name=nm)) z):=by
 obtain⟨A,hA⟩:=Ar.ex;have hlen:=q.az.len;have sM:=q.az.bound;refine ah A (ax gZf.aK gZf.bF) Tryz.func109 rfl (by kernel_rfl) ?_;cbv;refine aX.go (G:=Int) (fun z=>[(5,.v (.int .i64 z))]) (fun _=>[(2,[.slice b1 n1 c1,.slice b2 n2 c2,.slice b3 n3 c3,.slice b4 n4 c4])]) (fun m z h'=>∃i:Nat,aS z i/\m=n1-i/\i<=n1/\h'=h/\∀j,j<i->∀y,d.az[j]? =some y->decide (y.S.name=nm)=false) n1 0 ⟨?_,?_,?_⟩ ⟨0,⟨rfl⟩,by omega,by omega,rfl,fun j hj=>(by omega)⟩ ?_
 ·cbv
 ·cbv
 ·cbv
 ·intro m z h' hI;cbv;obtain⟨i,hz,hm,hi,rfl,aV⟩:=hI;refine bh (fun hc=>?_) (fun hc=>?_)
  ·have aP:=hz.lt hc;clear hc;cbv;obtain⟨x,hx⟩:=aE (xs:=d.az) (i:=i) (by omega);refine⟨⟨q.az.aT (by omega),hz.ix aP⟩,?_⟩;cbv;refine q.az.Ee hx hz.eq (o1:=0) (o2:=0) (m:=1) (by decide) (fun cs ay=>?_);obtain⟨_,_,_,_,_,_,rfl,-,-⟩:=ay;cbv;rw[cS A];by_cases Cp:x.S.name=nm
   ·rw[kS Cp];have hR:vg d.az (fun t=>decide (t.S.name=nm)) z:=⟨.inr ⟨i,x,hz,hx,by simpa using Cp,aV⟩⟩;cbv;exact⟨Le.refl _,z,rfl,hR⟩
   ·rw[nM Cp];cbv;refine⟨n1-(i+1),_,by omega,⟨?_,?_,?_⟩,i+1,hz.succ (A:=A) (by omega),rfl,by omega,rfl,?_⟩
    ·cbv
    ·cbv
    ·cbv
    ·intro j hj y hy;rcases mQS j i with nT|nT
     ·exact aV j nT y hy
     ·have:j=i:=by omega
      subst this;rw[hx]at hy;cases hy;exact nM Cp
  ·have lN:=hz.ge hc;have hR:vg d.az (fun t=>decide (t.S.name=nm)) (-1):=⟨.inl ⟨rfl,fun x hx=>by
    obtain⟨j,hj⟩:=mQZ hx;have:=(HH.1 hj).1;exact aV j (by omega) x hj⟩⟩
   cbv;exact⟨Le.refl _,-1,rfl,hR⟩
theorem cQo{α:Type}{xs:List α}{p:α->Bool}{z:Int}(q:vg xs p z):decide (z>=0)=xs.any p:=by
 rcases q.out with ⟨rfl,h⟩ | ⟨i,x,hz,hx,hp,-⟩
 ·rw[eq_comm];simpa using h
 ·have:=hz.eq;rw[kS (by omega),eq_comm,mZK];exact⟨x,GD hx,hp⟩
def fO(T:List cW)(nm:ByteArray):Nat:=(T.takeWhile fun t=>decide (eC t.S.name nm<0)).length
def iC(d:DB)(s:FR):DB×Int:=
 if decide (kE s≠0)=true then(d,kE s)
 else if d.az.any (fun t=>decide (t.S.name=s.name))=true then(d,7)
 else if decide ((d.az.length:Int)>=8)=true then(d,4)
 else if decide ((d.aq.length:Int)>0)=true then(d,18)
 else(tm d (d.az.take (fO d.az s.name)++[⟨s,[]⟩]++d.az.drop (fO d.az s.name)),0)
abbrev RK(h:ad)(d':DB)(e:Int)(k:Value->ad->Prop):Prop:=
 ∀h' b1 n1 c1 b2 n2 c2 b3 n3 c3 b4 n4 c4,Le h h'->RP h' b1 n1 c1 b2 n2 c2 b3 n3 c3 b4 n4 c4 d'->k (.tuple #[.agg #[.slice b1 n1 c1,.slice b2 n2 c2,.slice b3 n3 c3,.slice b4 n4 c4],.int .i64 e]) h'
theorem Sd{α:Type}{p:α->Bool}:∀ {xs:List α} {i:Nat},(∀j,j<i->∀y,xs[j]? =some y->p y=true)->i<=xs.length->(i<xs.length->∃y,xs[i]? =some y/\p y=false)->(xs.takeWhile p).length=i
 | [],i,_,hi,_=>by simp at hi;simp[hi]
 |x::r,0,_,_,hs=>by
  obtain⟨y,hy,hp⟩:=hs (by simp);simp at hy;subst hy;simp[hp]
 |x::r,i+1,aV,hi,hs=>by
  have hx:=aV 0 (by omega) x rfl;rw[mJe hx,mQx];rw[Sd (xs:=r) (i:=i) (fun j hj y hy=>aV (j+1) (by omega) y (by simpa using hy)) (by simpa using hi) (fun h=>by simpa using hs (by simpa using h))]
theorem Yj{d:DB}{h:ad}{b1 b2 b3 b4:Option Addr}{n1 c1 n2 c2 n3 c3 n4 c4:Nat}(q:RP h b1 n1 c1 b2 n2 c2 b3 n3 c3 b4 n4 c4 d){nm:ByteArray}{cols:List cK}{key:Int}{only:Bool}{sb:Option Addr}{sn sc:Nat}(qs:Sl 165 bI h (.slice sb sn sc) cols)
 (hl:d.az.length<=2^37) (gJU:∀t∈d.az,t.S.name.size<=2^60) {D:DB×Int} (hD:iC d ⟨nm,cols,key,only⟩=D) {k:Value->ad->Prop} (hk:RK h D.1 D.2 k):
 Ct 47 [.agg #[.slice b1 n1 c1,.slice b2 n2 c2,.slice b3 n3 c3,.slice b4 n4 c4],.agg #[.string nm,.slice sb sn sc,.int .i64 key,.bool only]] h k:=by
 obtain⟨A,hA⟩:=Ar.ex;have hlen:=q.az.len;have sM:=q.az.bound;have Jv:=q.aq.len;unfold iC at hD;generalize e8:A .aI .geq (A .nat n1) 8=u8;generalize dQc:A .aI .gtr (A .nat n2) 0=iKH;have f8:=e8;have f18:=dQc;rw[cf A,hA.nat]at e8;rw[bO A,hA.nat]at dQc;simp only[mQJ]at e8 dQc;rw[hlen]at e8;rw[Jv]at dQc;rw[e8,dQc]at hD;refine ah A (ax jKC.aK jKC.bF) Tryz.func47 rfl (by kernel_rfl) ?_;cbv;refine(bXj (nm:=nm) (key:=key) (only:=only) qs).mono (fun v h1 hR=>?_);obtain⟨l1,ze,hv,lXg⟩:=hR;rw[hv];rw[<-lXg]at hD;generalize e0:A .aI .neq ze 0=u0;have f0:=e0;rw[aC A]at e0;rw[e0]at hD;cbv;rw[f0];cases u0 with
 |true=>have hD:(d,ze)=D:=hD;have af:=hk h1 b1 n1 c1 b2 n2 c2 b3 n3 c3 b4 n4 c4 l1 (by rw[<-hD];exact q.mono l1);rw[<-hD]at af;cbv;exact af
 |false=>
  cbv;refine(Ev (q.mono l1)).mono (fun v h2 hR=>?_);obtain⟨l2,zf,hv,kR⟩:=hR;rw[hv];have ko:=l1.trans l2;have ua:=cQo kR;generalize e7:A .aI .geq zf 0=u7;have f7:=e7;rw[cf A]at e7;rw[e7]at ua;have hD:(if d.az.any (fun t=>decide (t.S.name=nm))=true then(d,7)else if u8=true then(d,4)else if iKH=true then(d,18)
   else(tm d (d.az.take (fO d.az nm)++[⟨⟨nm,cols,key,only⟩,[]⟩]++d.az.drop (fO d.az nm)),0))=D:=hD
  rw[<-ua]at hD;cbv;rw[f7];cases u7 with
  |true=>have hD:(d,7)=D:=hD;have af:=hk h2 b1 n1 c1 b2 n2 c2 b3 n3 c3 b4 n4 c4 ko (by rw[<-hD];exact q.mono ko);rw[<-hD]at af;cbv;exact af
  |false=>
   cbv;rw[f8];cases u8 with
   |true=>have hD:(d,4)=D:=hD;have af:=hk h2 b1 n1 c1 b2 n2 c2 b3 n3 c3 b4 n4 c4 ko (by rw[<-hD];exact q.mono ko);rw[<-hD]at af;cbv;exact af
   |false=>
    cbv;rw[f18];cases iKH with
    |true=>have hD:(d,18)=D:=hD;have af:=hk h2 b1 n1 c1 b2 n2 c2 b3 n3 c3 b4 n4 c4 ko (by rw[<-hD];exact q.mono ko);rw[<-hD]at af;cbv;exact af
    |false=>
     have hD:(tm d (d.az.take (fO d.az nm)++[⟨⟨nm,cols,key,only⟩,[]⟩]++d.az.drop (fO d.az nm)),0)=D:=hD;cbv;refine aX.go (G:=Int) (fun z=>[(7,.v (.int .i64 z))]) (fun _=>[(2,[.slice b1 n1 c1,.slice b2 n2 c2,.slice b3 n3 c3,.slice b4 n4 c4]),(3,[.string nm,.slice sb sn sc,.int .i64 key,.bool only]),(4,[.slice none 0 0,.slice none 0 0,.slice none 0 0,.slice none 0 0])])
      (fun m z h'=>∃i:Nat,aS z i/\m=n1-i/\i<=n1/\Le h h'/\∀j,j<i->∀y,d.az[j]? =some y->decide (eC y.S.name nm<0)=true) n1 0 ⟨?_,?_,?_⟩ ⟨0,⟨rfl⟩,by omega,by omega,ko,fun j hj=>(by omega)⟩ ?_
     ·cbv
     ·cbv
     ·cbv
     ·intro m z h' hI;cbv;obtain⟨i,hz,hm,hi,hle,aV⟩:=hI;have g1:A .aI .lss z (A .nat n1)=decide (i<n1):=hz.iJ (aS.nat n1);rw[g1];rcases mQS i n1 with aP|lN
      ·rw[kS aP];have JA:=hz.ix aP;obtain⟨x,hx⟩:=aE (xs:=d.az) (i:=i) (by omega);have qh:=q.mono hle;cbv;refine⟨⟨qh.az.aT (by omega),JA⟩,?_⟩;cbv;refine qh.az.Ee hx hz.eq (o1:=0) (o2:=0) (m:=1) (by decide) (fun cs ay=>?_);obtain⟨_,_,_,_,_,_,rfl,-,-⟩:=ay;cbv;refine(bXt (gJU x (GD hx))).mono (fun v h3 hR=>?_);obtain⟨l3,t,hv,ht⟩:=hR;rw[hv];have DE:=hle.trans l3;cbv;cases t with
       |true=>
        cbv;refine⟨n1-(i+1),_,by omega,⟨?_,?_,?_⟩,i+1,hz.succ (A:=A) (by omega),rfl,by omega,DE,?_⟩
        ·cbv
        ·cbv
        ·cbv
        ·intro j hj y hy;rcases mQS j i with nT|nT
         ·exact aV j nT y hy
         ·have:j=i:=by omega
          subst this;rw[hx]at hy;cases hy;exact ht.symm
       |false=>
        have PM:fO d.az nm=i:=Sd aV (by omega) (fun _=>⟨x,hx,ht.symm⟩);have qa:=q.mono DE;have yU:A .su z 0=i:=fh (A:=A) hz;obtain⟨aKQ,aKP⟩:=sM;have qA:0<=z/\z<=(c1:Int):=by have:=hz.eq;omega
        have nP:0<=z/\z<=(n1:Int):=by have:=hz.eq;omega
        have MQ:i<=n1:=hi;cbv;intro n6 h6 g6 e6;have l6:Le h3 h6:=by rw[e6];exact Le.set g6
        have q6:=qa.mono l6;cbv;refine⟨qA,?_⟩;cbv;have lV:cF 156 ef h3 h6 (.slice (some ⟨n6,0,none⟩) 0 0) ([]:List cW):=cF.nil;refine lV.append (q6.az.sU (A:=A) (s:=ef) (z:=A .nat c1) MQ yU yU) (by decide) rfl (by decide) (by rw[yU];omega) l6 (fun m7 b7 c7 h7 Nj l7 t7 k7 mP=>?_);cbv;intro n8 h8 g8 e8;have l8:Le h7 h8:=by rw[e8];exact Le.set g8
        have f8:=(congrFun e8 n8).trans ae;have r8:ef.R h8 [.string nm,.slice sb sn sc,.int .i64 key,.bool only,.slice none 0 0] ⟨⟨nm,cols,key,only⟩,[]⟩:=⟨_,_,_,_,_,_,rfl,qs.mono ((DE.trans (l7.trans l8)).t _),Sl.nil⟩;have v8:=bA (s:=ef) f8 r8;cbv;refine(mP.mono (l8.t _)).append v8 (by decide) rfl (by decide) (by omega) (l7.trans l8) (fun m9 b9 c9 h9 dQa l9 t9 k9 vo=>?_);have q9:=qa.mono l9;have CF:=gA (A:=A) hz (n:=n1);cbv;refine⟨nP,?_⟩;cbv;refine vo.append (q9.az.uW (A:=A) (s:=ef) hz MQ CF (c':=c1-i) rfl) (by decide) rfl (by decide) (by rw[CF];omega) l9 (fun Gh gW gT fL wH fU t10 yS jN=>?_);have aKn:=jN.sl;rw[mXO]at aKn;rw[PM]at hD;have Jr:=qa.mono fU;have hL:=DE.trans fU;have af:=hk fL gW Gh gT b2 n2 c2 b3 n3 c3 b4 n4 c4 hL (by rw[<-hD];exact⟨aKn,Jr.aq,Jr.holds,Jr.waits⟩);rw[<-hD]at af;cbv;exact af
      ·rw[nM (by omega)];have PM:fO d.az nm=i:=Sd aV (by omega) (fun h=>by omega);have qa:=q.mono hle;have yU:A .su z 0=i:=fh (A:=A) hz;obtain⟨aKQ,aKP⟩:=sM;have qA:0<=z/\z<=(c1:Int):=by have:=hz.eq;omega
       have nP:0<=z/\z<=(n1:Int):=by have:=hz.eq;omega
       have MQ:i<=n1:=hi;cbv;intro n6 h6 g6 e6;have l6:Le h' h6:=by rw[e6];exact Le.set g6
       have q6:=qa.mono l6;cbv;refine⟨qA,?_⟩;cbv;have lV:cF 156 ef h' h6 (.slice (some ⟨n6,0,none⟩) 0 0) ([]:List cW):=cF.nil;refine lV.append (q6.az.sU (A:=A) (s:=ef) (z:=A .nat c1) MQ yU yU) (by decide) rfl (by decide) (by rw[yU];omega) l6 (fun m7 b7 c7 h7 Nj l7 t7 k7 mP=>?_);cbv;intro n8 h8 g8 e8;have l8:Le h7 h8:=by rw[e8];exact Le.set g8
       have f8:=(congrFun e8 n8).trans ae;have r8:ef.R h8 [.string nm,.slice sb sn sc,.int .i64 key,.bool only,.slice none 0 0] ⟨⟨nm,cols,key,only⟩,[]⟩:=⟨_,_,_,_,_,_,rfl,qs.mono ((hle.trans (l7.trans l8)).t _),Sl.nil⟩;have v8:=bA (s:=ef) f8 r8;cbv;refine(mP.mono (l8.t _)).append v8 (by decide) rfl (by decide) (by omega) (l7.trans l8) (fun m9 b9 c9 h9 dQa l9 t9 k9 vo=>?_);have q9:=qa.mono l9;have CF:=gA (A:=A) hz (n:=n1);cbv;refine⟨nP,?_⟩;cbv;refine vo.append (q9.az.uW (A:=A) (s:=ef) hz MQ CF (c':=c1-i) rfl) (by decide) rfl (by decide) (by rw[CF];omega) l9 (fun Gh gW gT fL wH fU t10 yS jN=>?_);have aKn:=jN.sl;rw[mXO]at aKn;rw[PM]at hD;have Jr:=qa.mono fU;have hL:=hle.trans fU;have af:=hk fL gW Gh gT b2 n2 c2 b3 n3 c3 b4 n4 c4 hL (by rw[<-hD];exact⟨aKn,Jr.aq,Jr.holds,Jr.waits⟩);rw[<-hD]at af;cbv;exact af
def pX:Nat->DB
 |0=>⟨[],[],[],[]⟩
 |i+1=>(rh (pX i) (aF i)).1
def oK:Nat->DB
 |0=>⟨[],[],[],[]⟩
 |i+1=>(iC (oK i) (aF i)).1
def dZ(i:Nat):cW:=⟨aF i,[]⟩
def eY:DB:=⟨[dZ 0,dZ 1,dZ 2],[],[],[]⟩
theorem bJP:pX 1=⟨[dZ 0],[],[],[]⟩:=by cbv
theorem bJO:pX 2=⟨[dZ 0,dZ 1],[],[],[]⟩:=by cbv
theorem LM:pX 3=eY:=by cbv
theorem bJN:oK 1=⟨[dZ 0],[],[],[]⟩:=by cbv
theorem bJM:oK 2=⟨[dZ 0,dZ 1],[],[],[]⟩:=by cbv
theorem Vg:oK 3=eY:=by cbv
theorem BI:∀i,i<=3->Small (pX i)
 |0,_=>⟨by decide,by decide,by simp[pX],by decide,by decide⟩
 |1,_=>by rw[bJP];exact⟨by simp,by simp,by simp[dZ],by simp,by simp⟩
 |2,_=>by rw[bJO];exact⟨by simp,by simp,by simp[dZ],by simp,by simp⟩
 |3,_=>by rw[LM];exact⟨by simp[eY],by simp[eY],by simp[eY,dZ],by simp[eY],by simp[eY]⟩
 |n+4,h=>by omega
theorem rk:∀i,i<3->(dZ i).S.name.size<=2^60
 |0,_=>by decide
 |1,_=>by decide
 |2,_=>by decide
 |n+3,h=>by omega
theorem BH:∀i,i<=3->(oK i).az.length<=2^37/\∀t∈(oK i).az,t.S.name.size<=2^60
 |0,_=>by simp[oK]
 |1,_=>by rw[bJN];simp[rk 0]
 |2,_=>by rw[bJM];simp[rk 0,rk 1]
 |3,_=>by rw[Vg];simp[eY,rk 0,rk 1,rk 2]
 |n+4,h=>by omega
structure dQz where
 b1:Option Addr
 n1:Nat
 c1:Nat
 b2:Option Addr
 n2:Nat
 c2:Nat
 b3:Option Addr
 n3:Nat
 c3:Nat
 b4:Option Addr
 n4:Nat
 c4:Nat
theorem FZ{h:ad}{k:Value->ad->Prop}(hk:∀h' b1 n1 c1 b2 n2 c2 b3 n3 c3 b4 n4 c4 d1 m1 e1 d2 m2 e2 d3 m3 e3 d4 m4 e4,Le h h'->
 ik h' (.agg #[.slice b1 n1 c1,.slice b2 n2 c2,.slice b3 n3 c3,.slice b4 n4 c4]) eY->RP h' d1 m1 e1 d2 m2 e2 d3 m3 e3 d4 m4 e4 eY->
 k (.tuple #[.agg #[.slice b1 n1 c1,.slice b2 n2 c2,.slice b3 n3 c3,.slice b4 n4 c4],.agg #[.slice d1 m1 e1,.slice d2 m2 e2,.slice d3 m3 e3,.slice d4 m4 e4]]) h'):
 Ct 24 [] h k:=by
 obtain⟨A,hA⟩:=Ar.ex;refine ah A (ax jKV.aK jKV.bF) Tryz.func24 rfl (by kernel_rfl) ?_;cbv;refine aX.go (G:=Int×dQz×dQz) (fun g=>[(4,.v (.int .i64 g.1))]) (fun g=>[(0,[.slice none 0 0,.slice none 0 0,.slice none 0 0,.slice none 0 0]),(1,[.slice none 0 0,.slice none 0 0,.slice none 0 0,.slice none 0 0]),(2,[.slice g.2.1.b1 g.2.1.n1 g.2.1.c1,.slice g.2.1.b2 g.2.1.n2 g.2.1.c2,.slice g.2.1.b3 g.2.1.n3 g.2.1.c3,.slice g.2.1.b4 g.2.1.n4 g.2.1.c4]),(3,[.slice g.2.2.b1 g.2.2.n1 g.2.2.c1,.slice g.2.2.b2 g.2.2.n2 g.2.2.c2,.slice g.2.2.b3 g.2.2.n3 g.2.2.c3,.slice g.2.2.b4 g.2.2.n4 g.2.2.c4])])
  (fun m g h'=>∃i,aS g.1 i/\m=3-i/\i<=3/\Le h h'/\ik h' (.agg #[.slice g.2.1.b1 g.2.1.n1 g.2.1.c1,.slice g.2.1.b2 g.2.1.n2 g.2.1.c2,.slice g.2.1.b3 g.2.1.n3 g.2.1.c3,.slice g.2.1.b4 g.2.1.n4 g.2.1.c4]) (pX i)/\RP h' g.2.2.b1 g.2.2.n1 g.2.2.c1 g.2.2.b2 g.2.2.n2 g.2.2.c2 g.2.2.b3 g.2.2.n3 g.2.2.c3 g.2.2.b4 g.2.2.n4 g.2.2.c4 (oK i)) 3
  (0,⟨none,0,0,none,0,0,none,0,0,none,0,0⟩,⟨none,0,0,none,0,0,none,0,0,none,0,0⟩) ⟨?_,?_,?_⟩ ⟨0,⟨rfl⟩,by omega,by omega,Le.refl _,hZJ h,⟨Sl.nil,Sl.nil,Sl.nil,Sl.nil⟩⟩ ?_
 ·cbv
 ·cbv
 ·cbv
 ·intro m g h' hI;cbv;obtain⟨i,hz,hm,iXp,hle,qD,qR⟩:=hI;obtain⟨z,⟨b1,n1,c1,b2,n2,c2,b3,n3,c3,b4,n4,c4⟩,⟨d1,m1,e1,d2,m2,e2,d3,m3,e3,d4,m4,e4⟩⟩:=g;have hz:aS z i:=hz;have qD:ik h' (.agg #[.slice b1 n1 c1,.slice b2 n2 c2,.slice b3 n3 c3,.slice b4 n4 c4]) (pX i):=qD;have qR:RP h' d1 m1 e1 d2 m2 e2 d3 m3 e3 d4 m4 e4 (oK i):=qR;refine bh (fun hc=>?_) (fun hc=>?_)
  ·have aP:i<3:=by rw[bm A,mQD]at hc;have hc:z<3:=hc;have:=hz.eq;omega
   clear hc;cbv;refine Vl hz aP h' (fun h2 sb sn sc nm o l2 wD ho qs=>?_);obtain⟨D,uU⟩:∃D,D=rh (pX i) (aF i):=⟨_,rfl⟩;have hD:rh (pX i) ⟨nm,bp,0,o⟩=D:=by rw[wD,ho,uU];rfl
   have MY:D.1=pX (i+1):=by rw[uU];rfl
   clear uU;obtain⟨R,jZs⟩:∃R,R=iC (oK i) (aF i):=⟨_,rfl⟩;have gKe:R.1=oK (i+1):=by rw[jZs];rfl
   obtain⟨T,hT⟩:∃T,T=pX (i+1):=⟨_,rfl⟩;obtain⟨U,hU⟩:∃U,U=oK (i+1):=⟨_,rfl⟩;rw[<-hT]at MY;rw[<-hU]at gKe;cbv;refine Zz (qD.mono l2) (nm:=nm) (key:=0) (only:=o) qs (BI i iXp) hD (fun h3 f1 p1 g1 f2 p2 g2 f3 p3 g3 f4 p4 g4 l3 kZi=>?_);cbv;refine Vl hz aP h3 (fun h4 lJv lJp lJu jQx o4 l4 iQM kJW hZU=>?_);have hR:iC (oK i) ⟨jQx,bp,0,o4⟩=R:=by rw[iQM,kJW,jZs];rfl
   have xW:=(l2.trans l3).trans l4;cbv;refine Yj (qR.mono xW) (nm:=jQx) (key:=0) (only:=o4) hZU (BH i iXp).1 (BH i iXp).2 hR (fun h5 r1 s1 t1 r2 s2 t2 r3 s3 t3 r4 s4 t4 l5 kZh=>?_);cbv;refine⟨3-(i+1),(_,⟨f1,p1,g1,f2,p2,g2,f3,p3,g3,f4,p4,g4⟩,⟨r1,s1,t1,r2,s2,t2,r3,s3,t3,r4,s4,t4⟩),by omega,⟨?_,?_,?_⟩,i+1,hz.succ (A:=A) (by omega),rfl,by omega,hle.trans (xW.trans l5),by rw[<-hT,<-MY];exact kZi.mono (l4.trans l5),by rw[<-hU,<-gKe];exact kZh⟩
   ·cbv
   ·cbv
   ·cbv
  ·have lN:i=3:=by rw[bm A,decide_eq_false_iff_not]at hc;have hc:¬z<3:=hc;have:=hz.eq;omega
   clear hc;subst lN;rw[LM]at qD;rw[Vg]at qR;have af:=hk _ _ _ _ _ _ _ _ _ _ _ _ _ _ _ _ _ _ _ _ _ _ _ _ _ hle qD qR;cbv;refine⟨⟨_,rfl,rfl⟩,?_⟩;cbv;exact af
def fQ:ByteArray:=⟨#[]⟩
end Go.S
