import Derived.Test.YtekoaiendgjkdaaGreatEB
import Derived.Test.YtekoaiendgjkdaaGreatRd
set_option linter.unusedVariables false
set_option linter.unusedSimpArgs false
set_option linter.unusedSectionVars false
set_option maxRecDepth 100000
set_option maxHeartbeats 8000000
namespace Go.S
open Go.Sx Go.Proofs
def cu(W:List dw)(s:Int):List Int:=W.map fun x=>IntKind.i64.wrap (x.s-s)
def Dq(d:DB)(hd:bP):Bool:=lq (cu d.au hd.s)&&lq (aR d.aK hd.table)
def ve(d:DB)(hd:bP):DB×Int:=
 if Dq d hd=true then(⟨d.aK,d.au,bT d.holds hd,cS d.holds d.waits hd⟩,if bu d.holds hd=true then 0 else 16)else(d,2)
def Calm(d:DB)(hd:bP):Prop:=bu d.holds hd=false->(cZ (ch (bT d.holds hd) (cS d.holds d.waits hd)) hd.s).2=false
def D9(d:DB)(hd:bP)(act:cg->cg×lG×Int):DB×Int:=
 if decide ((ve d hd).2≠0)=true then ve d hd
 else match d.aK[dC (aR d.aK hd.table)]?,d.au[dC (cu d.au hd.s)]? with
  |some t,some w=>
   if decide ((act t).2.2≠19)&&decide ((w.log.length:Int)>=60)then((ve d hd).1,4)
   else if decide ((act t).2.2=0)=true then
    (⟨d.aK.set (dC (aR d.aK hd.table)) (act t).1,d.au.set (dC (cu d.au hd.s)) ⟨w.s,w.log++[⟨hd.table,(act t).2.1.op,(act t).2.1.row⟩],w.marks⟩,(ve d hd).1.holds,(ve d hd).1.waits⟩,0)
   else((ve d hd).1,(act t).2.2)
  |_,_=>ve d hd
structure Small(d:DB):Prop where
 aK:d.aK.length<=2^37
 au:d.au.length<=2^37
 rows:∀t∈d.aK,t.rows.length<=2^37
 holds:d.holds.length<2^18
 waits:d.waits.length<2^18
def Vj(d:DB)(s:Int)(name:ByteArray)(r:Row):DB×Int:=D9 d ⟨s,name,true⟩ (jX r)
def takeD(d:DB)(s:Int)(name:ByteArray)(k:dc):DB×Int:=D9 d ⟨s,name,true⟩ (eC k)
def rz(d:DB)(s:Bh):DB×Int:=jm d s (dC (aR d.aK s.name)) (lq (aR d.aK s.name))
def dX(d:DB)(s:Int):DB×Int:=gK d s (dC (cu d.au s)) (lq (cu d.au s))
abbrev PM(h:ad)(d':DB)(e:Int)(k:Value->ad->Prop):Prop:=
 ∀h' b1 n1 c1 b2 n2 c2 b3 n3 c3 b4 n4 c4,Le h h'->fP h' (.agg #[.slice b1 n1 c1,.slice b2 n2 c2,.slice b3 n3 c3,.slice b4 n4 c4]) d'->k (.tuple #[.agg #[.slice b1 n1 c1,.slice b2 n2 c2,.slice b3 n3 c3,.slice b4 n4 c4],.int .i64 e]) h'
theorem DD{z:Int}{i j:Nat}(a:aP z i)(b:aP z j):i=j:=by have:=a.eq;have:=b.eq;omega
theorem FH{d:DB}{h:ad}{v:Value}(q:fP h v d){nm:ByteArray}{cols:List bM}{key:Int}{only:Bool}{sb:Option Addr}{sn sc:Nat}(qs:Sl 165 aT h (.slice sb sn sc) cols)(sm:Small d){D:DB×Int}(hD:rz d ⟨nm,cols,key,only⟩=D)
 {k:Value->ad->Prop} (hk:PM h D.1 D.2 k):Ct 45 [v,.agg #[.string nm,.slice sb sn sc,.int .i64 key,.bool only]] h k:=
 (JX q qs sm.aK sm.au).mono (fun v h' hR=>by
  obtain⟨v1,e,z,i,is,hv,l,hd,he,hz,hb⟩:=hR;obtain⟨h1,h2⟩:=hb.at_;have hi:=DD hz h1;have hR2:jm d ⟨nm,cols,key,only⟩ i is=D:=by rw[<-hD,hi,h2];rfl
  rw[hR2]at hd he;obtain⟨b1,n1,c1,b2,n2,c2,b3,n3,c3,b4,n4,c4,hf⟩:=hd.form;rw[hv,hf,he];exact hk h' _ _ _ _ _ _ _ _ _ _ _ _ l (by rw[<-hf];exact hd))
theorem rG{d:DB}{h:ad}{v:Value}(q:fP h v d)(s:Int)(sm:Small d){D:DB×Int}(hD:dX d s=D){k:Value->ad->Prop}(hk:PM h D.1 D.2 k):Ct 25 [v,.int .i64 s] h k:=
 (N2 q s sm.au).mono (fun v h' hR=>by
  obtain⟨v1,e,z,i,is,hv,l,hd,he,hz,hb⟩:=hR;obtain⟨h1,h2⟩:=hb.at_;have hi:=DD hz h1;have hR2:gK d s i is=D:=by rw[<-hD,hi,h2];rfl
  rw[hR2]at hd he;obtain⟨b1,n1,c1,b2,n2,c2,b3,n3,c3,b4,n4,c4,hf⟩:=hd.form;rw[hv,hf,he];exact hk h' _ _ _ _ _ _ _ _ _ _ _ _ l (by rw[<-hf];exact hd))
def db0:DB:=⟨[],[],[],[]⟩
def nX:ByteArray:=⟨#[120]⟩
def nA:ByteArray:=⟨#[97]⟩
def kS:Bh:=⟨nX,[⟨nA,2,false⟩],0,false⟩
def kd1:DB:=(rz db0 kS).1
def kd2:DB:=(dX kd1 1).1
def kd3:DB:=(dX kd2 2).1
def kd4:DB:=(Vj kd3 1 nX [⟨2,5,fT⟩]).1
def kd5:DB:=(Vj kd4 2 nX [⟨2,6,fT⟩]).1
def smallB(d:DB):Bool:=decide (d.aK.length<=1000)&&decide (d.au.length<=1000)&&d.aK.all (fun t=>decide (t.rows.length<=1000))&&decide (d.holds.length<=1000)&&decide (d.waits.length<=1000)
def calmB(d:DB)(hd:bP):Bool:=bu d.holds hd|| !(cZ (ch (bT d.holds hd) (cS d.holds d.waits hd)) hd.s).2
theorem rdb0(h:ad):fP h (.agg #[.slice none 0 0,.slice none 0 0,.slice none 0 0,.slice none 0 0]) db0:=
 ⟨_,_,_,_,_,_,_,_,_,_,_,_,[],rfl,Sl.nil,Sl.nil,Sl.nil,Sl.nil,rfl⟩
def yq:List ByteArray:=[⟨#[116,97]⟩,⟨#[116,98]⟩,⟨#[116,99]⟩]
def cJ:List bM:=[⟨nA,2,false⟩,⟨⟨#[98]⟩,3,true⟩]
def cV(t:Nat):Bh:=⟨(yq[t]?).getD fT,cJ,0,decide (t=2)⟩
theorem Di{z:Int}{t:Nat}(hz:aP z t)(ht:t<3)(h:ad){k:Value->ad->Prop}
 (hk:∀h' b n c nm o,Le h h'->nm=(cV t).name->o=(cV t).only->Sl 165 aT h' (.slice b n c) cJ->k (.agg #[.string nm,.slice b n c,.int .i64 0,.bool o]) h'):Ct 46 [.int .i64 z] h k:=by
 obtain⟨A,hA⟩:=Ar.ex;obtain⟨x,hx⟩:=aD (xs:=yq) (i:=t) ht;have MJ:x=(cV t).name:=by unfold cV;rw[hx];rfl
 have he:A .aF .eql z 2=decide (t=2):=by rw[aw A,decide_eq_decide];have:=hz.eq;omega
 have cy:(0:Int)<=z/\z<((3:Nat):Int):=hz.ix ht;refine ah A (aq T46.ax T46.bm) Tryz.func46 rfl (by kernel_rfl) ?_;cbv;intro n1 h1 oL e1;have l1:Le h h1:=by rw[e1];exact Le.set oL
 have g1:=(congrFun e1 n1).trans ae;have s1:Sl 165 aT h1 (.slice (some ⟨n1,0,none⟩) 2 2) cJ:=by
  refine Sl.fresh (xs:=cJ) g1 ⟨by simp[cJ,aT],fun j y hj=>?_⟩ (by simp[cJ]) (by simp[cJ])
  match j,hj with
  |0,hj=>simp[cJ]at hj;subst hj;rfl
  |1,hj=>simp[cJ]at hj;subst hj;rfl
  |j+2,hj=>simp[cJ]at hj
 cbv;intro n2 h2 ng e2;have l2:Le h1 h2:=by rw[e2];exact Le.set ng
 have g2:=(congrFun e2 n2).trans ae;have s2:Sl 9 cj h2 (.slice (some ⟨n2,0,none⟩) 3 3) yq:=uk (s:=cj) rfl g2 (x:=⟨#[116,97]⟩) (y:=⟨#[116,98]⟩) (w:=⟨#[116,99]⟩) rfl rfl rfl;cbv;refine⟨⟨rfl,cy⟩,?_⟩;cbv;refine s2.load hx hz.eq (fun cs aJ=>?_);have aJ:cs=[.string x]:=aJ;subst aJ;have af:=hk h2 _ _ _ x (decide (t=2)) (l1.trans l2) MJ rfl (s1.mono (l2.t _));cbv;rw[he];exact af
theorem Mt(h:ad):Ct 226 [] h (fun v h'=>Le h h'/\∃nb,v=.slice (some ⟨nb,0,none⟩) 41 41/\Sl 9 cj h' v eG):=by
 obtain⟨A,hA⟩:=Ar.ex;refine ah A (aq YV.ax YV.bm) Tryz.func226 rfl (by kernel_rfl) ?_;cbv;intro n h1 hn e1;have g:h1 n=some (.cells (List.toArray (eG.map Value.string)) 9 (0,0)):=by rw[e1];exact ae
 have hr:Sx.Rows cj h1 (eG.map Value.string) 0 eG:=by refine⟨by decide,fun i x hx=>?_⟩;have aI:=(List.getElem?_eq_some_iff.1 hx).1;show List.take 1 (List.drop (0+i*1) _)=_;rw[Nat.zero_add,Nat.mul_one,List.drop_eq_getElem_cons (by simpa using aI)];rw[List.getElem?_eq_some_iff]at hx;simp[hx.2]
 have hs:Sl 9 cj h1 (.slice (some ⟨n,0,none⟩) 41 41) eG:=Sl.fresh (xs:=eG) g hr (by decide) (by decide);have hl:Le h h1:=by rw[e1];exact Le.set hn
 clear g hr e1;cbv;exact⟨hl,n,rfl,hs⟩
theorem yA{h:ad}{s:ByteArray}:Ct 133 [.string s] h (fun v h'=>Le h h'/\∃t,v=.bool t/\t=aj s):=by
 obtain⟨A,hA⟩:=Ar.ex;refine ah A (aq ZN.ax ZN.bm) Tryz.func133 rfl (by kernel_rfl) ?_;have hn:A .iH s=(s.size:Int):=by rw[hA.iH]
 have sA:aP (A .iH s) s.size:=⟨hn⟩;have nU:∀z i,aP z i->A .byte s z=fF s i:=fun z i hz=>by
  rw[hA.byte];simp only[fF];rw[hz.eq];rfl
 generalize e1:A .aF .lss (A .iH s) 1=t1;generalize e2:A .aF .gtr (A .iH s) 12=t2;generalize e3:A .aF .lss (A .byte s 0) 97=t3;generalize e4:A .aF .gtr (A .byte s 0) 122=t4;have tM:t2=false->s.size<=12:=fun e=>by
  rw[e,hA.aF,hn]at e2;have:=of_decide_eq_false e2;omega
 have hf:sS s= !(t1||t2||t3||t4):=by rw[<-e1,<-e2,<-e3,<-e4,nU 0 0 ⟨rfl⟩,hn,hA.aF];rfl
 have Xc:t1=false->(0:Int)<=0/\0<(s.size:Int):=fun e=>by
  rw[e,hA.aF,hn]at e1;have:=of_decide_eq_false e1;omega
 have uN:∀(t:Bool) (b:Bool),t=false->sS s=false->t=aj s:=fun t b ht hq=>by rw[ht,aj,hq];rfl
 have Cn:∀(t:Bool),t=true->t=t:=fun _ _=>rfl;cbv;rw[e1];cases t1 with
 |true=>cbv;exact⟨Le.refl _,false,rfl,uN _ true rfl hf⟩
 |false=>
  have h1:=Xc rfl;cbv;rw[e2];cases t2 with
  |true=>cbv;exact⟨Le.refl _,false,rfl,uN _ true rfl hf⟩
  |false=>
   cbv;refine⟨h1,?_⟩;cbv;rw[e3];cases t3 with
   |true=>cbv;exact⟨Le.refl _,false,rfl,uN _ true rfl hf⟩
   |false=>
    cbv;refine⟨h1,?_⟩;cbv;rw[e4];cases t4 with
    |true=>cbv;exact⟨Le.refl _,false,rfl,uN _ true rfl hf⟩
    |false=>
     cbv;have WJ:sS s=true:=hf;have tM:=tM rfl;clear hf e1 e2 e3 e4 Xc uN Cn;refine aZ.go (G:=Int) (fun z=>[(3,.v (.int .i64 z))]) (fun _=>[]) (fun n z h'=>∃i:Nat,aP z i/\n=s.size-i/\i<=s.size/\h'=h/\∀j,j<i->uL (fF s j)=true) s.size 0 ⟨?_,?_,?_⟩ ⟨0,⟨rfl⟩,rfl,by omega,rfl,fun j hj=>(by omega)⟩ ?_
     ·cbv
     ·cbv
     ·cbv
     ·intro n z h' hI;cbv;obtain⟨i,hz,Fe,hi,rfl,aM⟩:=hI;refine aN (fun hc=>?_) (fun hc=>?_)
      ·rw[hz.gE (A:=A) sA]at hc;have aI:=of_decide_eq_true hc;clear hc;cbv;refine⟨hz.ix aI,?_⟩;cbv;rw[nU z i hz];generalize hw:fF s i=w;generalize e1:A .aF .lss w 97=t1;generalize e2:A .aF .gtr w 122=t2;generalize e3:A .aF .lss w 48=t3;generalize e4:A .aF .gtr w 57=t4;generalize e5:A .aF .neq w 95=t5;have jD:uL w= !((t1||t2)&&(t3||t4)&&t5):=by rw[<-e1,<-e2,<-e3,<-e4,<-e5,hA.aF];rfl
       have bad:uL w=false->aj s=false:=fun e=>by
        have:qC s=false:=by unfold qC;rw[List.all_eq_false];exact⟨i,by simp[aI],by rw[hw,e];simp⟩
        rw[aj,this];simp
       have kG:uL w=true->∀j,j<i+1->uL (fF s j)=true:=fun e j hj=>by
        rcases Nat.lt_or_ge j i with h|h
        ·exact aM j h
        ·have:j=i:=by omega
         rw[this,hw,e]
       cbv;cases t1 with
       |true=>
        cbv;rw[e3];cases t3 with
        |true=>
         cbv;rw[e5];cases t5 with
         |true=>cbv;exact⟨Le.refl _,false,rfl,(bad (by rw[jD];rfl)).symm⟩
         |false=>cbv;exact⟨s.size-(i+1),_,by omega,⟨by cbv,by cbv,by cbv⟩,i+1,hz.succ (A:=A) (by omega),rfl,by omega,rfl,kG (by rw[jD];rfl)⟩
        |false=>
         cbv;rw[e4];cases t4 with
         |true=>
          cbv;rw[e5];cases t5 with
          |true=>cbv;exact⟨Le.refl _,false,rfl,(bad (by rw[jD];rfl)).symm⟩
          |false=>cbv;exact⟨s.size-(i+1),_,by omega,⟨by cbv,by cbv,by cbv⟩,i+1,hz.succ (A:=A) (by omega),rfl,by omega,rfl,kG (by rw[jD];rfl)⟩
         |false=>cbv;exact⟨s.size-(i+1),_,by omega,⟨by cbv,by cbv,by cbv⟩,i+1,hz.succ (A:=A) (by omega),rfl,by omega,rfl,kG (by rw[jD];rfl)⟩
       |false=>
        cbv;rw[e2];cases t2 with
        |true=>
         cbv;rw[e3];cases t3 with
         |true=>
          cbv;rw[e5];cases t5 with
          |true=>cbv;exact⟨Le.refl _,false,rfl,(bad (by rw[jD];rfl)).symm⟩
          |false=>cbv;exact⟨s.size-(i+1),_,by omega,⟨by cbv,by cbv,by cbv⟩,i+1,hz.succ (A:=A) (by omega),rfl,by omega,rfl,kG (by rw[jD];rfl)⟩
         |false=>
          cbv;rw[e4];cases t4 with
          |true=>
           cbv;rw[e5];cases t5 with
           |true=>cbv;exact⟨Le.refl _,false,rfl,(bad (by rw[jD];rfl)).symm⟩
           |false=>cbv;exact⟨s.size-(i+1),_,by omega,⟨by cbv,by cbv,by cbv⟩,i+1,hz.succ (A:=A) (by omega),rfl,by omega,rfl,kG (by rw[jD];rfl)⟩
          |false=>cbv;exact⟨s.size-(i+1),_,by omega,⟨by cbv,by cbv,by cbv⟩,i+1,hz.succ (A:=A) (by omega),rfl,by omega,rfl,kG (by rw[jD];rfl)⟩
        |false=>cbv;exact⟨s.size-(i+1),_,by omega,⟨by cbv,by cbv,by cbv⟩,i+1,hz.succ (A:=A) (by omega),rfl,by omega,rfl,kG (by rw[jD];rfl)⟩
      ·rw[hz.gE (A:=A) sA]at hc;have iW:=of_decide_eq_false hc;cbv;have Jr:qC s=true:=by unfold qC;rw[List.all_eq_true];intro j hj;rw[List.mem_range]at hj;exact aM j (by omega)
       refine(Mt h').mono (fun v h2 hR=>?_);obtain⟨l2,nb,rfl,ql⟩:=hR;cbv;refine aZ.go (G:=Int) (fun z=>[(6,.v (.int .i64 z))]) (fun _=>[]) (fun n z h3=>∃i:Nat,aP z i/\n=41-i/\i<=41/\h3=h2/\∀j,j<i->∀y,eG[j]? =some y->y≠s) 41 0 ⟨?_,?_,?_⟩ ⟨0,⟨rfl⟩,by omega,by omega,rfl,fun j hj=>(by omega)⟩ ?_
       ·cbv
       ·cbv
       ·cbv
       ·intro n2 z2 h3 cU;cbv;obtain⟨i2,jT,ng,hi2,rfl,Pk⟩:=cU;refine aN (fun hc=>?_) (fun hc=>?_)
        ·have jN:=jT.lt hc;clear hc;cbv;obtain⟨x,hx⟩:=aD (xs:=eG) (i:=i2) jN;refine⟨⟨rfl,jT.ix jN⟩,?_⟩;cbv;refine ql.load hx jT.eq (fun cs aJ=>?_);have aJ:cs=[.string x]:=aJ;subst aJ;cbv;rw[bN A];by_cases yL:x=s
         ·rw[decide_eq_true yL];have fI:mH s=true:=mG.2 (by rw[<-yL];exact List.mem_of_getElem? hx);cbv;exact⟨l2,false,rfl,by rw[aj,fI];simp⟩
         ·rw[decide_eq_false yL];cbv;refine⟨41-(i2+1),_,by omega,⟨?_,?_,?_⟩,i2+1,jT.succ (A:=A) (by omega),rfl,by omega,rfl,?_⟩
          ·cbv
          ·cbv
          ·cbv
          ·intro j hj y hy;rcases Nat.lt_or_ge j i2 with h|h
           ·exact Pk j h y hy
           ·have:j=i2:=by omega
            subst this;rw[hx]at hy;cases hy;exact yL
        ·have hge2:=jT.ge hc;have fI:mH s=false:=by
          cases hi:mH s with
          |false=>rfl
          |true=>have hm:=mG.1 hi;obtain⟨j,hj⟩:=List.getElem?_of_mem hm;have rO:j<41:=(List.getElem?_eq_some_iff.1 hj).1;exact absurd rfl (Pk j (by omega) s hj)
         cbv;exact⟨l2,true,rfl,by rw[aj,WJ,Jr,fI];rfl⟩
theorem NC{cols:List bM}{h:ad}{b:Option Addr}{n c:Nat}(q:Sl 165 aT h (.slice b n c) cols){nm s:ByteArray}{k:Int}{only:Bool}:
 Ct 57 [.agg #[.string nm,.slice b n c,.int .i64 k,.bool only],.string s] h (fun v h'=>Le h h'/\∃z t z',v=.tuple #[.int .i64 z,.bool t]/\oV cols (fun x=>decide (x.name=s)) z'/\z=max z' 0/\t=decide (z'>=0)):=by
 obtain⟨A,hA⟩:=Ar.ex;have hlen:=q.len;obtain⟨ju,iu⟩:=q.bound;refine ah A (aq T57.ax T57.bm) Tryz.func57 rfl (by kernel_rfl) ?_;cbv;refine aZ.go (G:=Int) (fun z=>[(6,.v (.int .i64 z))]) (fun _=>[(2,[.string nm,.slice b n c,.int .i64 k,.bool only])]) (fun m z h'=>∃i:Nat,aP z i/\m=n-i/\i<=n/\h'=h/\∀j,j<i->∀y,cols[j]? =some y->decide (y.name=s)=false) n 0 ⟨?_,?_,?_⟩ ⟨0,⟨rfl⟩,by omega,by omega,rfl,fun j hj=>(by omega)⟩ ?_
 ·cbv
 ·cbv
 ·cbv
 ·intro m z h' hI;cbv;obtain⟨i,hz,hm,hi,rfl,aM⟩:=hI;refine aN (fun hc=>?_) (fun hc=>?_)
  ·have aI:=hz.lt hc;clear hc;cbv;obtain⟨x,hx⟩:=aD (xs:=cols) (i:=i) (by omega);refine⟨⟨q.bF (by omega),hz.ix aI⟩,?_⟩;cbv;refine q.js hx hz.eq (o:=0) (m:=1) (by decide) (fun cs aJ=>?_);have aJ:cs=[.string x.name,.int .i64 x.kind,.bool x.null]:=aJ;subst aJ;cbv;rw[bN A];by_cases yL:x.name=s
   ·rw[decide_eq_true yL];have hR:oV cols (fun x=>decide (x.name=s)) z:=⟨.inr ⟨i,x,hz,hx,by simpa using yL,aM⟩⟩;have Ao:=hz.eq;have e1:z=max z 0:=by omega
    have e2:true=decide (z>=0):=by rw[decide_eq_true (by omega)]
    cbv;exact⟨Le.refl _,z,true,z,rfl,hR,e1,e2⟩
   ·rw[decide_eq_false yL];cbv;refine⟨n-(i+1),_,by omega,⟨?_,?_,?_⟩,i+1,hz.succ (A:=A) (by omega),rfl,by omega,rfl,?_⟩
    ·cbv
    ·cbv
    ·cbv
    ·intro j hj y hy;rcases Nat.lt_or_ge j i with jE|jE
     ·exact aM j jE y hy
     ·have:j=i:=by omega
      subst this;rw[hx]at hy;cases hy;exact decide_eq_false yL
  ·have iW:=hz.ge hc;have hR:oV cols (fun x=>decide (x.name=s)) (-1):=⟨.inl ⟨rfl,fun x hx=>by
    obtain⟨j,hj⟩:=List.getElem?_of_mem hx;have:=(List.getElem?_eq_some_iff.1 hj).1;exact aM j (by omega) x hj⟩⟩
   cbv;exact⟨Le.refl _,0,false,-1,rfl,hR,rfl,rfl⟩
theorem Q8{cols:List bM}{i:Nat}{c:bM}(hc:cols[i]? =some c){z':Int}(hr:oV cols (fun x=>decide (x.name=c.name)) z'):
 decide (max z' 0≠(i:Int))=(cols.take i).any fun x=>decide (x.name=c.name):=by
 have h1:=IP hc hr;rw[<-h1,decide_eq_decide];rcases hr.out with ⟨-,h⟩ | ⟨k,x,hk,hx,hp,aM⟩
 ·have:=h c (List.mem_of_getElem? hc);simp at this
 ·have hz:=hk.eq;have hki:¬i<k:=fun h=>by have:=aM i h c hc;simp at this
  omega
theorem J6{nm:ByteArray}{cols:List bM}{key:Int}{only:Bool}{h:ad}{b:Option Addr}{n c:Nat}(q:Sl 165 aT h (.slice b n c) cols):
 Ct 108 [.agg #[.string nm,.slice b n c,.int .i64 key,.bool only]] h (fun v h'=>Le h h'/\∃z,v=.int .i64 z/\z=fR ⟨nm,cols,key,only⟩):=by
 obtain⟨A,hA⟩:=Ar.ex;have hlen:=q.len;obtain⟨ju,iu⟩:=q.bound;have qY:A .not true=false:=by rw[hA.not];rfl
 have vf:A .not false=true:=by rw[hA.not];rfl
 generalize e1:A .aF .lss (A .nat n) 1=u1;generalize e2:A .aF .gtr (A .nat n) 6=u2;generalize e3:A .aF .lss key 0=u3;generalize e4:A .aF .geq key (A .nat n)=u4;have f1:=e1;have f2:=e2;have f3:=e3;have f4:=e4;rw[bC A,hA.nat]at e1;rw[bH A,hA.nat]at e2;rw[bC A]at e3;rw[bO A,hA.nat]at e4;simp only[Int.ofNat_eq_natCast]at e1 e2 e4;rw[hlen]at e1 e2 e4;obtain⟨E,hE⟩:∃E,E=fR ⟨nm,cols,key,only⟩:=⟨_,rfl⟩;have hS:E=if(!aj nm)=true then 12 else if(u1||u2)=true then 4 else if gA cols≠0 then gA cols else if(u3||u4)=true then 1 else if((cols[key.toNat]?).map (·.null)).getD false=true then 13 else 0:=by rw[hE,<-e1,<-e2,<-e3,<-e4];rfl
 rw[<-hE];refine ah A (aq Z4.ax Z4.bm) Tryz.func108 rfl (by kernel_rfl) ?_;cbv;refine yA.mono (fun v h1 hR=>?_);obtain⟨l1,t,rfl,ht⟩:=hR;rw[<-ht]at hS;cases t with
 |false=>cbv;rw[vf];cbv;exact⟨l1,12,rfl,hS.symm⟩
 |true=>
  cbv;rw[qY];cbv;rw[f1];cases u1 with
  |true=>cbv;exact⟨l1,4,rfl,hS.symm⟩
  |false=>
   cbv;rw[f2];cases u2 with
   |true=>cbv;exact⟨l1,4,rfl,hS.symm⟩
   |false=>
    have hS:E=if gA cols≠0 then gA cols else if(u3||u4)=true then 1 else if((cols[key.toNat]?).map (·.null)).getD false=true then 13 else 0:=hS
    cbv;refine aZ.go (G:=Int) (fun z=>[(3,.v (.int .i64 z))]) (fun _=>[(1,[.string nm,.slice b n c,.int .i64 key,.bool only])]) (fun m z h'=>∃i:Nat,aP z i/\m=n-i/\i<=n/\Le h h'/\∀j,j<i->∀y,cols[j]? =some y->dA cols j y=0) n 0 ⟨?_,?_,?_⟩ ⟨0,⟨rfl⟩,by omega,by omega,l1,fun j hj=>(by omega)⟩ ?_
    ·cbv
    ·cbv
    ·cbv
    ·intro m z h' hI;cbv;obtain⟨i,hz,hm,hi,hle,aM⟩:=hI;refine aN (fun hc=>?_) (fun hc=>?_)
     ·have aI:=hz.lt hc;clear hc;obtain⟨x,hx⟩:=aD (xs:=cols) (i:=i) (by omega);have cy:b.isSome=true/\0<=z/\z<(n:Int):=⟨q.bF (by omega),hz.ix aI⟩;have bad:∀ {hh:ad} (w:Int),Le h hh->dA cols i x=w->w≠0->Le h hh/\∃z,Value.int .i64 w=.int .i64 z/\z=E:=fun w l ew hw=>by
       refine⟨l,w,rfl,?_⟩;have:=vM hx aM (by rw[ew];exact hw);rw[hS,this,ew,if_pos hw]
      have kG:∀(h2:ad),Le h h2->dA cols i x=0->∃j:Nat,aP (A .bA .add .i64 z 1) j/\n-(i+1)=n-j/\j<=n/\Le h h2/\∀j',j'<j->∀y,cols[j']? =some y->dA cols j' y=0:=fun h2 l e0=>
       ⟨i+1,hz.succ (A:=A) (by omega),rfl,by omega,l,fun j hj y hy=>by
        rcases Nat.lt_or_ge j i with jE|jE
        ·exact aM j jE y hy
        ·have:j=i:=by omega
         subst this;rw[hx]at hy;cases hy;exact e0⟩
      obtain⟨xn,xk,xo⟩:=x;cbv;refine⟨cy,?_⟩;cbv;refine(q.mono (hle.t _)).js hx hz.eq (o:=0) (m:=1) (by decide) (fun cs aJ=>?_);have aJ:cs=[.string xn,.int .i64 xk,.bool xo]:=aJ;subst aJ;cbv;refine(NC (q.mono (hle.t _))).mono (fun v h2 hR=>?_);obtain⟨l2,zk,tk,zk',rfl,RS,hzk,TY⟩:=hR;have Mr:=hle.trans l2;have bG:=Q8 hx RS;rw[<-hzk]at bG;generalize g1:A .aF .neq zk z=w1;have k1:=g1;rw[ay A,hz.eq]at g1;rw[g1]at bG;generalize g2:A .aF .lss xk 1=w2;generalize g3:A .aF .gtr xk 3=w3;have k2:=g2;have k3:=g3;rw[bC A]at g2;rw[bH A]at g3;cbv;refine⟨cy,?_⟩;cbv;refine(q.mono (Mr.t _)).js hx hz.eq (o:=0) (m:=1) (by decide) (fun cs aJ=>?_);have aJ:cs=[.string xn,.int .i64 xk,.bool xo]:=aJ;subst aJ;cbv;refine yA.mono (fun v h3 hR=>?_);obtain⟨l3,tn,rfl,MM⟩:=hR;have Gm:=Mr.trans l3;have key:dA cols i ⟨xn,xk,xo⟩=if(!tn||w1)=true then 12 else if(w2||w3)=true then 3 else 0:=by rw[MM,bG,<-g2,<-g3];rfl
      cases tn with
      |false=>have key:dA cols i ⟨xn,xk,xo⟩=12:=key;cbv;rw[vf];cbv;exact bad 12 Gm key (by omega)
      |true=>
       cbv;rw[qY];cbv;rw[k1];cases w1 with
       |true=>have key:dA cols i ⟨xn,xk,xo⟩=12:=key;cbv;exact bad 12 Gm key (by omega)
       |false=>
        cbv;refine⟨cy,?_⟩;cbv;refine(q.mono (Gm.t _)).js hx hz.eq (o:=1) (m:=1) (by decide) (fun cs aJ=>?_);have aJ:cs=[.string xn,.int .i64 xk,.bool xo]:=aJ;subst aJ;cbv;rw[k2];cases w2 with
        |true=>have key:dA cols i ⟨xn,xk,xo⟩=3:=key;cbv;exact bad 3 Gm key (by omega)
        |false=>
         cbv;refine⟨cy,?_⟩;cbv;refine(q.mono (Gm.t _)).js hx hz.eq (o:=1) (m:=1) (by decide) (fun cs aJ=>?_);have aJ:cs=[.string xn,.int .i64 xk,.bool xo]:=aJ;subst aJ;cbv;rw[k3];cases w3 with
         |true=>have key:dA cols i ⟨xn,xk,xo⟩=3:=key;cbv;exact bad 3 Gm key (by omega)
         |false=>
          have key:dA cols i ⟨xn,xk,xo⟩=0:=key;have g:=kG h3 Gm key;cbv;refine⟨n-(i+1),_,by omega,⟨?_,?_,?_⟩,g⟩
          ·cbv
          ·cbv
          ·cbv
     ·have iW:=hz.ge hc;have R4:gA cols=0:=rC (fun j hj y hy=>aM j (by omega) y hy);rw[R4,if_neg (by simp)]at hS;cbv;rw[f3];cases u3 with
      |true=>cbv;exact⟨hle,1,rfl,hS.symm⟩
      |false=>
       cbv;rw[f4];cases u4 with
       |true=>cbv;exact⟨hle,1,rfl,hS.symm⟩
       |false=>
        obtain⟨pd,pT⟩:=Cb A f3 f4;obtain⟨x,hx⟩:=aD (xs:=cols) (i:=key.toNat) (by omega);have cy:b.isSome=true/\0<=key/\key<(n:Int):=⟨q.bF (by omega),pd.ix pT⟩;rw[hx]at hS;obtain⟨xn,xk,xo⟩:=x;cbv;refine⟨cy,?_⟩;cbv;refine(q.mono (hle.t _)).js hx pd.eq (o:=2) (m:=1) (by decide) (fun cs aJ=>?_);have aJ:cs=[.string xn,.int .i64 xk,.bool xo]:=aJ;subst aJ;cases xo with
        |true=>cbv;exact⟨hle,13,rfl,hS.symm⟩
        |false=>cbv;exact⟨hle,0,rfl,hS.symm⟩
def P4:Sh dw where
 n:=3
 R h cs t:=∃b1 n1 c1 b2 n2 c2,cs=[.int .i64 t.s,.slice b1 n1 c1,.slice b2 n2 c2]/\Sl 148 fO h (.slice b1 n1 c1) t.log/\Sl 162 fN h (.slice b2 n2 c2) t.marks
 len:=by rintro h cs x ⟨_,_,_,_,_,_,rfl,-⟩;rfl
 one:=by rintro h cs x ⟨_,_,_,_,_,_,rfl,-⟩;rfl
 tys:=[148,61,162]
 mono:=by rintro h h' cs x hl ⟨b1,n1,c1,b2,n2,c2,rfl,q1,q2⟩;exact⟨b1,n1,c1,b2,n2,c2,rfl,q1.mono (hl.sub (by decide)),q2.mono (hl.sub (by decide))⟩
structure RP(h:ad)(b1:Option Addr)(n1 c1:Nat)(b2:Option Addr)(n2 c2:Nat)(b3:Option Addr)(n3 c3:Nat)(b4:Option Addr)(n4 c4:Nat)(d:DB):Prop where
 aK:Sl 156 cL h (.slice b1 n1 c1) d.aK
 au:Sl 145 P4 h (.slice b2 n2 c2) d.au
 holds:Sl 235 bD h (.slice b3 n3 c3) d.holds
 waits:Sl 235 bD h (.slice b4 n4 c4) d.waits
theorem RP.lt{h h':ad}{b1 b2 b3 b4:Option Addr}{n1 c1 n2 c2 n3 c3 n4 c4:Nat}{d:DB}(q:RP h b1 n1 c1 b2 n2 c2 b3 n3 c3 b4 n4 c4 d)(l:bE [156,165,59,61,145,148,162,235] h h'):RP h' b1 n1 c1 b2 n2 c2 b3 n3 c3 b4 n4 c4 d:=
 ⟨q.aK.mono (l.sub (by decide)),q.au.mono (l.sub (by decide)),q.holds.mono (l.sub (by decide)),q.waits.mono (l.sub (by decide))⟩
theorem RP.mono{h h':ad}{b1 b2 b3 b4:Option Addr}{n1 c1 n2 c2 n3 c3 n4 c4:Nat}{d:DB}(q:RP h b1 n1 c1 b2 n2 c2 b3 n3 c3 b4 n4 c4 d)(l:Le h h'):RP h' b1 n1 c1 b2 n2 c2 b3 n3 c3 b4 n4 c4 d:=q.lt (l.t _)
theorem AZ{a b:List UInt8}:∀ {i:Nat},i<=a.length->i<=b.length->(∀j,j<i->a[j]? =b[j]?)->Lib.compareBytes a b=Lib.compareBytes (a.drop i) (b.drop i)
 |0,_,_,_=>rfl
 |i+1,ha,hb,aM=>by
  cases a with
  |nil=>simp at ha
  |cons x a=>
   cases b with
   |nil=>simp at hb
   |cons y b=>
    have h0:x=y:=by have:=aM 0 (by omega);simpa using this
    subst h0;have:Lib.compareBytes (x::a) (x::b)=Lib.compareBytes a b:=by simp[Lib.compareBytes]
    rw[this,List.drop_succ_cons,List.drop_succ_cons];exact AZ (by simpa using ha) (by simpa using hb) (fun j hj=>by have:=aM (j+1) (by omega);simpa using this)
theorem Kc{h:ad}{a b:ByteArray}(ha60:a.size<=2^60):Ct 110 [.string a,.string b] h (fun v h'=>Le h h'/\∃t,v=.bool t/\t=decide (eI a b<0)):=by
 obtain⟨A,hA⟩:=Ar.ex;have hna:aP (A .iH a) a.size:=⟨by rw[hA.iH]⟩;have eK:aP (A .iH b) b.size:=⟨by rw[hA.iH]⟩;have hsa:a.data.toList.length=a.size:=by rw[Array.length_toList];rfl
 have Bo:b.data.toList.length=b.size:=by rw[Array.length_toList];rfl
 have Pb:∀(s:ByteArray) (i:Nat),i<s.size->∃x:UInt8,s.data.toList[i]? =some x/\fF s i=(x.toNat:Int):=fun s i hi=>by
  have ta:i<s.data.size:=hi;refine⟨s.data[i],by simp[ta],?_⟩;simp[fF,Array.getElem?_eq_getElem ta]
 have nU:∀s z i,aP z i->A .byte s z=fF s i:=fun s z i hz=>by
  rw[hA.byte];simp only[fF];rw[hz.eq];rfl
 refine ah A (aq Z2.ax Z2.bm) Tryz.func110 rfl (by kernel_rfl) ?_;cbv;refine aZ.go (G:=Int) (fun z=>[(5,.v (.int .i64 z))]) (fun _=>[]) (fun m z h'=>∃i:Nat,aP z i/\m=a.size-i/\i<=a.size/\i<=b.size/\h'=h/\∀j,j<i->a.data.toList[j]? =b.data.toList[j]?) a.size 0 ⟨?_,?_,?_⟩ ⟨0,⟨rfl⟩,by omega,by omega,by omega,rfl,fun j hj=>(by omega)⟩ ?_
 ·cbv
 ·cbv
 ·cbv
 ·intro m z h' hI;cbv;obtain⟨i,hz,hm,hia,hib,rfl,aM⟩:=hI;have R5:=AZ (a:=a.data.toList) (b:=b.data.toList) (i:=i) (by omega) (by omega) aM;have f1:A .aF .lss z (A .iH a)=decide (i<a.size):=hz.gE hna;have f2:A .aF .lss z (A .iH b)=decide (i<b.size):=hz.gE eK;have f3:A .aF .lss (A .iH a) (A .iH b)=decide (a.size<b.size):=hna.gE eK;by_cases h1:i<a.size
  ·rw[decide_eq_true h1]at f1;rw[f1];cbv;by_cases h2:i<b.size
   ·rw[decide_eq_true h2]at f2;rw[f2];obtain⟨x,hx,hxb⟩:=Pb a i h1;obtain⟨y,hy,OU⟩:=Pb b i h2;have hda:a.data.toList.drop i=x::a.data.toList.drop (i+1):=by rw[List.drop_eq_getElem_cons (by omega)];rw[(List.getElem?_eq_some_iff.1 hx).2]
    have Cy:b.data.toList.drop i=y::b.data.toList.drop (i+1):=by rw[List.drop_eq_getElem_cons (by omega)];rw[(List.getElem?_eq_some_iff.1 hy).2]
    rw[hda,Cy]at R5;have c1:(0:Int)<=z/\z<(a.size:Int):=hz.ix h1;have c2:(0:Int)<=z/\z<(b.size:Int):=hz.ix h2;have g1:A .aF .neq (A .byte a z) (A .byte b z)=decide (x≠y):=by
     rw[nU a z i hz,nU b z i hz,ay A,hxb,OU,decide_eq_decide];refine not_congr ?_;constructor
     ·intro e;exact UInt8.toNat_inj.1 (Int.ofNat_inj.1 e)
     ·rintro rfl;rfl
    have g2:A .aF .lss (A .byte a z) (A .byte b z)=decide (x<y):=by rw[nU a z i hz,nU b z i hz,bC A,hxb,OU,decide_eq_decide,UInt8.lt_iff_toNat_lt];exact Int.ofNat_lt
    cbv;refine⟨c1,?_⟩;cbv;refine⟨c2,?_⟩;cbv;rw[g1];by_cases KN:x=y
    ·rw[decide_eq_false (by simp[KN])];cbv;refine⟨a.size-(i+1),_,by omega,⟨?_,?_,?_⟩,i+1,hz.succ (A:=A) (by omega),rfl,by omega,by omega,rfl,?_⟩
     ·cbv
     ·cbv
     ·cbv
     ·intro j hj;rcases Nat.lt_or_ge j i with h|h
      ·exact aM j h
      ·have:j=i:=by omega
       rw[this,hx,hy,KN]
    ·rw[decide_eq_true (by simpa using KN)];have af:decide (x<y)=decide (eI a b<0):=by
      unfold eI;rw[R5];simp only[Lib.compareBytes];by_cases aI:x<y
      ·simp[aI]
      ·have:y<x:=by rw[UInt8.lt_iff_toNat_lt]at aI |-;have:x.toNat≠y.toNat:=fun e=>KN (UInt8.toNat_inj.1 e);omega
       simp[aI,this]
     cbv;refine⟨c1,?_⟩;cbv;refine⟨c2,?_⟩;cbv;rw[g2];exact⟨Le.refl _,_,rfl,af⟩
   ·rw[decide_eq_false h2]at f2;rw[f2];have W2:b.data.toList.drop i=[]:=List.drop_eq_nil_of_le (by omega);have af:decide (a.size<b.size)=decide (eI a b<0):=by
     unfold eI;rw[R5,W2];have:a.data.toList.drop i≠[]:=by intro e;have:=congrArg List.length e;rw[List.length_drop]at this;simp at this;omega
     cases hd:a.data.toList.drop i with
     |nil=>exact absurd hd this
     |cons x r=>simp only[Lib.compareBytes];rw[decide_eq_false (by omega)];rfl
    cbv;rw[f3];exact⟨Le.refl _,_,rfl,af⟩
  ·rw[decide_eq_false h1]at f1;rw[f1];have ha0:a.data.toList.drop i=[]:=List.drop_eq_nil_of_le (by omega);have af:decide (a.size<b.size)=decide (eI a b<0):=by
    unfold eI;rw[R5,ha0];cases hd:b.data.toList.drop i with
    |nil=>have:=congrArg List.length hd;rw[List.length_drop]at this;simp at this;simp only[Lib.compareBytes];rw[decide_eq_false (by omega)];rfl
    |cons y r=>have:=congrArg List.length hd;rw[List.length_drop]at this;simp at this;simp only[Lib.compareBytes];rw[decide_eq_true (by omega)];rfl
   cbv;rw[f3];exact⟨Le.refl _,_,rfl,af⟩
theorem SN{d:DB}{h:ad}{b1 b2 b3 b4:Option Addr}{n1 c1 n2 c2 n3 c3 n4 c4:Nat}(q:RP h b1 n1 c1 b2 n2 c2 b3 n3 c3 b4 n4 c4 d){nm:ByteArray}:
 Ct 109 [.agg #[.slice b1 n1 c1,.slice b2 n2 c2,.slice b3 n3 c3,.slice b4 n4 c4],.string nm] h (fun v h'=>Le h h'/\∃z,v=.int .i64 z/\oV d.aK (fun t=>decide (t.S.name=nm)) z):=by
 obtain⟨A,hA⟩:=Ar.ex;have hlen:=q.aK.len;have wv:=q.aK.bound;refine ah A (aq Z3.ax Z3.bm) Tryz.func109 rfl (by kernel_rfl) ?_;cbv;refine aZ.go (G:=Int) (fun z=>[(5,.v (.int .i64 z))]) (fun _=>[(2,[.slice b1 n1 c1,.slice b2 n2 c2,.slice b3 n3 c3,.slice b4 n4 c4])]) (fun m z h'=>∃i:Nat,aP z i/\m=n1-i/\i<=n1/\h'=h/\∀j,j<i->∀y,d.aK[j]? =some y->decide (y.S.name=nm)=false) n1 0 ⟨?_,?_,?_⟩ ⟨0,⟨rfl⟩,by omega,by omega,rfl,fun j hj=>(by omega)⟩ ?_
 ·cbv
 ·cbv
 ·cbv
 ·intro m z h' hI;cbv;obtain⟨i,hz,hm,hi,rfl,aM⟩:=hI;refine aN (fun hc=>?_) (fun hc=>?_)
  ·have aI:=hz.lt hc;clear hc;cbv;obtain⟨x,hx⟩:=aD (xs:=d.aK) (i:=i) (by omega);refine⟨⟨q.aK.bF (by omega),hz.ix aI⟩,?_⟩;cbv;refine q.aK.uS hx hz.eq (o1:=0) (o2:=0) (m:=1) (by decide) (fun cs aJ=>?_);obtain⟨_,_,_,_,_,_,rfl,-,-⟩:=aJ;cbv;rw[bN A];by_cases yL:x.S.name=nm
   ·rw[decide_eq_true yL];have hR:oV d.aK (fun t=>decide (t.S.name=nm)) z:=⟨.inr ⟨i,x,hz,hx,by simpa using yL,aM⟩⟩;cbv;exact⟨Le.refl _,z,rfl,hR⟩
   ·rw[decide_eq_false yL];cbv;refine⟨n1-(i+1),_,by omega,⟨?_,?_,?_⟩,i+1,hz.succ (A:=A) (by omega),rfl,by omega,rfl,?_⟩
    ·cbv
    ·cbv
    ·cbv
    ·intro j hj y hy;rcases Nat.lt_or_ge j i with jE|jE
     ·exact aM j jE y hy
     ·have:j=i:=by omega
      subst this;rw[hx]at hy;cases hy;exact decide_eq_false yL
  ·have iW:=hz.ge hc;have hR:oV d.aK (fun t=>decide (t.S.name=nm)) (-1):=⟨.inl ⟨rfl,fun x hx=>by
    obtain⟨j,hj⟩:=List.getElem?_of_mem hx;have:=(List.getElem?_eq_some_iff.1 hj).1;exact aM j (by omega) x hj⟩⟩
   cbv;exact⟨Le.refl _,-1,rfl,hR⟩
theorem ME{α:Type}{xs:List α}{p:α->Bool}{z:Int}(q:oV xs p z):decide (z>=0)=xs.any p:=by
 rcases q.out with ⟨rfl,h⟩ | ⟨i,x,hz,hx,hp,-⟩
 ·rw[eq_comm];simpa using h
 ·have:=hz.eq;rw[decide_eq_true (by omega),eq_comm,List.any_eq_true];exact⟨x,List.mem_of_getElem? hx,hp⟩
def nB(T:List cg)(nm:ByteArray):Nat:=(T.takeWhile fun t=>decide (eI t.S.name nm<0)).length
def lR(d:DB)(s:Bh):DB×Int:=
 if decide (fR s≠0)=true then(d,fR s)
 else if d.aK.any (fun t=>decide (t.S.name=s.name))=true then(d,7)
 else if decide ((d.aK.length:Int)>=8)=true then(d,4)
 else if decide ((d.au.length:Int)>0)=true then(d,18)
 else(kZ d (d.aK.take (nB d.aK s.name)++[⟨s,[]⟩]++d.aK.drop (nB d.aK s.name)),0)
abbrev RK(h:ad)(d':DB)(e:Int)(k:Value->ad->Prop):Prop:=
 ∀h' b1 n1 c1 b2 n2 c2 b3 n3 c3 b4 n4 c4,Le h h'->RP h' b1 n1 c1 b2 n2 c2 b3 n3 c3 b4 n4 c4 d'->k (.tuple #[.agg #[.slice b1 n1 c1,.slice b2 n2 c2,.slice b3 n3 c3,.slice b4 n4 c4],.int .i64 e]) h'
theorem BH{α:Type}{p:α->Bool}:∀ {xs:List α} {i:Nat},(∀j,j<i->∀y,xs[j]? =some y->p y=true)->i<=xs.length->(i<xs.length->∃y,xs[i]? =some y/\p y=false)->(xs.takeWhile p).length=i
 | [],i,_,hi,_=>by simp at hi;simp[hi]
 |x::r,0,_,_,hs=>by
  obtain⟨y,hy,hp⟩:=hs (by simp);simp at hy;subst hy;simp[hp]
 |x::r,i+1,aM,hi,hs=>by
  have hx:=aM 0 (by omega) x rfl;rw[List.takeWhile_cons_of_pos hx,List.length_cons];rw[BH (xs:=r) (i:=i) (fun j hj y hy=>aM (j+1) (by omega) y (by simpa using hy)) (by simpa using hi) (fun h=>by simpa using hs (by simpa using h))]
theorem EI{d:DB}{h:ad}{b1 b2 b3 b4:Option Addr}{n1 c1 n2 c2 n3 c3 n4 c4:Nat}(q:RP h b1 n1 c1 b2 n2 c2 b3 n3 c3 b4 n4 c4 d){nm:ByteArray}{cols:List bM}{key:Int}{only:Bool}{sb:Option Addr}{sn sc:Nat}(qs:Sl 165 aT h (.slice sb sn sc) cols)
 (hl:d.aK.length<=2^37) (hns:∀t∈d.aK,t.S.name.size<=2^60) {D:DB×Int} (hD:lR d ⟨nm,cols,key,only⟩=D) {k:Value->ad->Prop} (hk:RK h D.1 D.2 k):
 Ct 47 [.agg #[.slice b1 n1 c1,.slice b2 n2 c2,.slice b3 n3 c3,.slice b4 n4 c4],.agg #[.string nm,.slice sb sn sc,.int .i64 key,.bool only]] h k:=by
 obtain⟨A,hA⟩:=Ar.ex;have hlen:=q.aK.len;have wv:=q.aK.bound;have OV:=q.au.len;unfold lR at hD;generalize e8:A .aF .geq (A .nat n1) 8=u8;generalize PA:A .aF .gtr (A .nat n2) 0=u18;have f8:=e8;have f18:=PA;rw[bO A,hA.nat]at e8;rw[bH A,hA.nat]at PA;simp only[Int.ofNat_eq_natCast]at e8 PA;rw[hlen]at e8;rw[OV]at PA;rw[e8,PA]at hD;refine ah A (aq T47.ax T47.bm) Tryz.func47 rfl (by kernel_rfl) ?_;cbv;refine(J6 (nm:=nm) (key:=key) (only:=only) qs).mono (fun v h1 hR=>?_);obtain⟨l1,ze,hv,eze⟩:=hR;rw[hv];rw[<-eze]at hD;generalize e0:A .aF .neq ze 0=u0;have f0:=e0;rw[ay A]at e0;rw[e0]at hD;cbv;rw[f0];cases u0 with
 |true=>have hD:(d,ze)=D:=hD;have af:=hk h1 b1 n1 c1 b2 n2 c2 b3 n3 c3 b4 n4 c4 l1 (by rw[<-hD];exact q.mono l1);rw[<-hD]at af;cbv;exact af
 |false=>
  cbv;refine(SN (q.mono l1)).mono (fun v h2 hR=>?_);obtain⟨l2,zf,hv,RS⟩:=hR;rw[hv];have fH:=l1.trans l2;have Jq:=ME RS;generalize e7:A .aF .geq zf 0=u7;have f7:=e7;rw[bO A]at e7;rw[e7]at Jq;have hD:(if d.aK.any (fun t=>decide (t.S.name=nm))=true then(d,7)else if u8=true then(d,4)else if u18=true then(d,18)
   else(kZ d (d.aK.take (nB d.aK nm)++[⟨⟨nm,cols,key,only⟩,[]⟩]++d.aK.drop (nB d.aK nm)),0))=D:=hD
  rw[<-Jq]at hD;cbv;rw[f7];cases u7 with
  |true=>have hD:(d,7)=D:=hD;have af:=hk h2 b1 n1 c1 b2 n2 c2 b3 n3 c3 b4 n4 c4 fH (by rw[<-hD];exact q.mono fH);rw[<-hD]at af;cbv;exact af
  |false=>
   cbv;rw[f8];cases u8 with
   |true=>have hD:(d,4)=D:=hD;have af:=hk h2 b1 n1 c1 b2 n2 c2 b3 n3 c3 b4 n4 c4 fH (by rw[<-hD];exact q.mono fH);rw[<-hD]at af;cbv;exact af
   |false=>
    cbv;rw[f18];cases u18 with
    |true=>have hD:(d,18)=D:=hD;have af:=hk h2 b1 n1 c1 b2 n2 c2 b3 n3 c3 b4 n4 c4 fH (by rw[<-hD];exact q.mono fH);rw[<-hD]at af;cbv;exact af
    |false=>
     have hD:(kZ d (d.aK.take (nB d.aK nm)++[⟨⟨nm,cols,key,only⟩,[]⟩]++d.aK.drop (nB d.aK nm)),0)=D:=hD;cbv;refine aZ.go (G:=Int) (fun z=>[(7,.v (.int .i64 z))]) (fun _=>[(2,[.slice b1 n1 c1,.slice b2 n2 c2,.slice b3 n3 c3,.slice b4 n4 c4]),(3,[.string nm,.slice sb sn sc,.int .i64 key,.bool only]),(4,[.slice none 0 0,.slice none 0 0,.slice none 0 0,.slice none 0 0])])
      (fun m z h'=>∃i:Nat,aP z i/\m=n1-i/\i<=n1/\Le h h'/\∀j,j<i->∀y,d.aK[j]? =some y->decide (eI y.S.name nm<0)=true) n1 0 ⟨?_,?_,?_⟩ ⟨0,⟨rfl⟩,by omega,by omega,fH,fun j hj=>(by omega)⟩ ?_
     ·cbv
     ·cbv
     ·cbv
     ·intro m z h' hI;cbv;obtain⟨i,hz,hm,hi,hle,aM⟩:=hI;have g1:A .aF .lss z (A .nat n1)=decide (i<n1):=hz.gE (aP.nat n1);rw[g1];rcases Nat.lt_or_ge i n1 with aI|iW
      ·rw[decide_eq_true aI];have Gw:=hz.ix aI;obtain⟨x,hx⟩:=aD (xs:=d.aK) (i:=i) (by omega);have qh:=q.mono hle;cbv;refine⟨⟨qh.aK.bF (by omega),Gw⟩,?_⟩;cbv;refine qh.aK.uS hx hz.eq (o1:=0) (o2:=0) (m:=1) (by decide) (fun cs aJ=>?_);obtain⟨_,_,_,_,_,_,rfl,-,-⟩:=aJ;cbv;refine(Kc (hns x (List.mem_of_getElem? hx))).mono (fun v h3 hR=>?_);obtain⟨l3,t,hv,ht⟩:=hR;rw[hv];have zy:=hle.trans l3;cbv;cases t with
       |true=>
        cbv;refine⟨n1-(i+1),_,by omega,⟨?_,?_,?_⟩,i+1,hz.succ (A:=A) (by omega),rfl,by omega,zy,?_⟩
        ·cbv
        ·cbv
        ·cbv
        ·intro j hj y hy;rcases Nat.lt_or_ge j i with jE|jE
         ·exact aM j jE y hy
         ·have:j=i:=by omega
          subst this;rw[hx]at hy;cases hy;exact ht.symm
       |false=>
        have I5:nB d.aK nm=i:=BH aM (by omega) (fun _=>⟨x,hx,ht.symm⟩);have qa:=q.mono zy;have M0:A .rR z 0=i:=dv (A:=A) hz;obtain⟨hcb1,hcb2⟩:=wv;have pR:0<=z/\z<=(c1:Int):=by have:=hz.eq;omega
        have E6:0<=z/\z<=(n1:Int):=by have:=hz.eq;omega
        have DL:i<=n1:=hi;cbv;intro n6 h6 g6 e6;have l6:Le h3 h6:=by rw[e6];exact Le.set g6
        have q6:=qa.mono l6;cbv;refine⟨pR,?_⟩;cbv;have Fc:cK 156 cL h3 h6 (.slice (some ⟨n6,0,none⟩) 0 0) ([]:List cg):=cK.nil;refine Fc.append (q6.aK.sN (A:=A) (s:=cL) (z:=A .nat c1) DL M0 M0) (by decide) rfl (by decide) (by rw[M0];omega) l6 (fun m7 b7 c7 h7 em7 l7 t7 k7 Bs=>?_);cbv;intro n8 h8 g8 e8;have l8:Le h7 h8:=by rw[e8];exact Le.set g8
        have f8:=(congrFun e8 n8).trans ae;have r8:cL.R h8 [.string nm,.slice sb sn sc,.int .i64 key,.bool only,.slice none 0 0] ⟨⟨nm,cols,key,only⟩,[]⟩:=⟨_,_,_,_,_,_,rfl,qs.mono ((zy.trans (l7.trans l8)).t _),Sl.nil⟩;have v8:=bp (s:=cL) f8 r8;cbv;refine(Bs.mono (l8.t _)).append v8 (by decide) rfl (by decide) (by omega) (l7.trans l8) (fun m9 b9 c9 h9 em9 l9 t9 k9 KX=>?_);have q9:=qa.mono l9;have M4:=ei (A:=A) hz (n:=n1);cbv;refine⟨E6,?_⟩;cbv;refine KX.append (q9.aK.tu (A:=A) (s:=cL) hz DL M4 (c':=c1-i) rfl) (by decide) rfl (by decide) (by rw[M4];omega) l9 (fun TO eQ eP fh S3 mE t10 IE yW=>?_);have I1:=yW.sl;rw[List.nil_append]at I1;rw[I5]at hD;have EL:=qa.mono mE;have hL:=zy.trans mE;have af:=hk fh eQ TO eP b2 n2 c2 b3 n3 c3 b4 n4 c4 hL (by rw[<-hD];exact⟨I1,EL.au,EL.holds,EL.waits⟩);rw[<-hD]at af;cbv;exact af
      ·rw[decide_eq_false (by omega)];have I5:nB d.aK nm=i:=BH aM (by omega) (fun h=>by omega);have qa:=q.mono hle;have M0:A .rR z 0=i:=dv (A:=A) hz;obtain⟨hcb1,hcb2⟩:=wv;have pR:0<=z/\z<=(c1:Int):=by have:=hz.eq;omega
       have E6:0<=z/\z<=(n1:Int):=by have:=hz.eq;omega
       have DL:i<=n1:=hi;cbv;intro n6 h6 g6 e6;have l6:Le h' h6:=by rw[e6];exact Le.set g6
       have q6:=qa.mono l6;cbv;refine⟨pR,?_⟩;cbv;have Fc:cK 156 cL h' h6 (.slice (some ⟨n6,0,none⟩) 0 0) ([]:List cg):=cK.nil;refine Fc.append (q6.aK.sN (A:=A) (s:=cL) (z:=A .nat c1) DL M0 M0) (by decide) rfl (by decide) (by rw[M0];omega) l6 (fun m7 b7 c7 h7 em7 l7 t7 k7 Bs=>?_);cbv;intro n8 h8 g8 e8;have l8:Le h7 h8:=by rw[e8];exact Le.set g8
       have f8:=(congrFun e8 n8).trans ae;have r8:cL.R h8 [.string nm,.slice sb sn sc,.int .i64 key,.bool only,.slice none 0 0] ⟨⟨nm,cols,key,only⟩,[]⟩:=⟨_,_,_,_,_,_,rfl,qs.mono ((hle.trans (l7.trans l8)).t _),Sl.nil⟩;have v8:=bp (s:=cL) f8 r8;cbv;refine(Bs.mono (l8.t _)).append v8 (by decide) rfl (by decide) (by omega) (l7.trans l8) (fun m9 b9 c9 h9 em9 l9 t9 k9 KX=>?_);have q9:=qa.mono l9;have M4:=ei (A:=A) hz (n:=n1);cbv;refine⟨E6,?_⟩;cbv;refine KX.append (q9.aK.tu (A:=A) (s:=cL) hz DL M4 (c':=c1-i) rfl) (by decide) rfl (by decide) (by rw[M4];omega) l9 (fun TO eQ eP fh S3 mE t10 IE yW=>?_);have I1:=yW.sl;rw[List.nil_append]at I1;rw[I5]at hD;have EL:=qa.mono mE;have hL:=hle.trans mE;have af:=hk fh eQ TO eP b2 n2 c2 b3 n3 c3 b4 n4 c4 hL (by rw[<-hD];exact⟨I1,EL.au,EL.holds,EL.waits⟩);rw[<-hD]at af;cbv;exact af
def jG:Nat->DB
 |0=>⟨[],[],[],[]⟩
 |i+1=>(rz (jG i) (cV i)).1
def iP:Nat->DB
 |0=>⟨[],[],[],[]⟩
 |i+1=>(lR (iP i) (cV i)).1
def dR(i:Nat):cg:=⟨cV i,[]⟩
def dS:DB:=⟨[dR 0,dR 1,dR 2],[],[],[]⟩
theorem LM:jG 1=⟨[dR 0],[],[],[]⟩:=by cbv
theorem LL:jG 2=⟨[dR 0,dR 1],[],[],[]⟩:=by cbv
theorem Dg:jG 3=dS:=by cbv
theorem LK:iP 1=⟨[dR 0],[],[],[]⟩:=by cbv
theorem LJ:iP 2=⟨[dR 0,dR 1],[],[],[]⟩:=by cbv
theorem Dd:iP 3=dS:=by cbv
theorem yp:∀i,i<=3->Small (jG i)
 |0,_=>⟨by decide,by decide,by simp[jG],by decide,by decide⟩
 |1,_=>by rw[LM];exact⟨by simp,by simp,by simp[dR],by simp,by simp⟩
 |2,_=>by rw[LL];exact⟨by simp,by simp,by simp[dR],by simp,by simp⟩
 |3,_=>by rw[Dg];exact⟨by simp[dS],by simp[dS],by simp[dS,dR],by simp[dS],by simp[dS]⟩
 |n+4,h=>by omega
theorem kf:∀i,i<3->(dR i).S.name.size<=2^60
 |0,_=>by decide
 |1,_=>by decide
 |2,_=>by decide
 |n+3,h=>by omega
theorem pY:∀i,i<=3->(iP i).aK.length<=2^37/\∀t∈(iP i).aK,t.S.name.size<=2^60
 |0,_=>by simp[iP]
 |1,_=>by rw[LK];simp[kf 0]
 |2,_=>by rw[LJ];simp[kf 0,kf 1]
 |3,_=>by rw[Dd];simp[dS,kf 0,kf 1,kf 2]
 |n+4,h=>by omega
structure PI where
 b1:Option Addr
 n1:Nat
 c1:Nat
 b2:Option Addr
 n2:Nat
 c2:Nat
 b3:Option Addr
 n3:Nat
 c3:Nat
 b4:Option Addr
 n4:Nat
 c4:Nat
theorem Dh{h:ad}{k:Value->ad->Prop}(hk:∀h' b1 n1 c1 b2 n2 c2 b3 n3 c3 b4 n4 c4 d1 m1 e1 d2 m2 e2 d3 m3 e3 d4 m4 e4,Le h h'->
 fP h' (.agg #[.slice b1 n1 c1,.slice b2 n2 c2,.slice b3 n3 c3,.slice b4 n4 c4]) dS->RP h' d1 m1 e1 d2 m2 e2 d3 m3 e3 d4 m4 e4 dS->
 k (.tuple #[.agg #[.slice b1 n1 c1,.slice b2 n2 c2,.slice b3 n3 c3,.slice b4 n4 c4],.agg #[.slice d1 m1 e1,.slice d2 m2 e2,.slice d3 m3 e3,.slice d4 m4 e4]]) h'):
 Ct 24 [] h k:=by
 obtain⟨A,hA⟩:=Ar.ex;refine ah A (aq T24.ax T24.bm) Tryz.func24 rfl (by kernel_rfl) ?_;cbv;refine aZ.go (G:=Int×PI×PI) (fun g=>[(4,.v (.int .i64 g.1))]) (fun g=>[(0,[.slice none 0 0,.slice none 0 0,.slice none 0 0,.slice none 0 0]),(1,[.slice none 0 0,.slice none 0 0,.slice none 0 0,.slice none 0 0]),(2,[.slice g.2.1.b1 g.2.1.n1 g.2.1.c1,.slice g.2.1.b2 g.2.1.n2 g.2.1.c2,.slice g.2.1.b3 g.2.1.n3 g.2.1.c3,.slice g.2.1.b4 g.2.1.n4 g.2.1.c4]),(3,[.slice g.2.2.b1 g.2.2.n1 g.2.2.c1,.slice g.2.2.b2 g.2.2.n2 g.2.2.c2,.slice g.2.2.b3 g.2.2.n3 g.2.2.c3,.slice g.2.2.b4 g.2.2.n4 g.2.2.c4])])
  (fun m g h'=>∃i,aP g.1 i/\m=3-i/\i<=3/\Le h h'/\fP h' (.agg #[.slice g.2.1.b1 g.2.1.n1 g.2.1.c1,.slice g.2.1.b2 g.2.1.n2 g.2.1.c2,.slice g.2.1.b3 g.2.1.n3 g.2.1.c3,.slice g.2.1.b4 g.2.1.n4 g.2.1.c4]) (jG i)/\RP h' g.2.2.b1 g.2.2.n1 g.2.2.c1 g.2.2.b2 g.2.2.n2 g.2.2.c2 g.2.2.b3 g.2.2.n3 g.2.2.c3 g.2.2.b4 g.2.2.n4 g.2.2.c4 (iP i)) 3
  (0,⟨none,0,0,none,0,0,none,0,0,none,0,0⟩,⟨none,0,0,none,0,0,none,0,0,none,0,0⟩) ⟨?_,?_,?_⟩ ⟨0,⟨rfl⟩,by omega,by omega,Le.refl _,rdb0 h,⟨Sl.nil,Sl.nil,Sl.nil,Sl.nil⟩⟩ ?_
 ·cbv
 ·cbv
 ·cbv
 ·intro m g h' hI;cbv;obtain⟨i,hz,hm,hi3,hle,qD,qR⟩:=hI;obtain⟨z,⟨b1,n1,c1,b2,n2,c2,b3,n3,c3,b4,n4,c4⟩,⟨d1,m1,e1,d2,m2,e2,d3,m3,e3,d4,m4,e4⟩⟩:=g;have hz:aP z i:=hz;have qD:fP h' (.agg #[.slice b1 n1 c1,.slice b2 n2 c2,.slice b3 n3 c3,.slice b4 n4 c4]) (jG i):=qD;have qR:RP h' d1 m1 e1 d2 m2 e2 d3 m3 e3 d4 m4 e4 (iP i):=qR;refine aN (fun hc=>?_) (fun hc=>?_)
  ·have aI:i<3:=by rw[bC A,decide_eq_true_eq]at hc;have hc:z<3:=hc;have:=hz.eq;omega
   clear hc;cbv;refine Di hz aI h' (fun h2 sb sn sc nm o l2 vg ho qs=>?_);obtain⟨D,pK⟩:∃D,D=rz (jG i) (cV i):=⟨_,rfl⟩;have hD:rz (jG i) ⟨nm,cJ,0,o⟩=D:=by rw[vg,ho,pK];rfl
   have hD1:D.1=jG (i+1):=by rw[pK];rfl
   clear pK;obtain⟨R,hRR⟩:∃R,R=lR (iP i) (cV i):=⟨_,rfl⟩;have hR1:R.1=iP (i+1):=by rw[hRR];rfl
   obtain⟨T,hT⟩:∃T,T=jG (i+1):=⟨_,rfl⟩;obtain⟨U,hU⟩:∃U,U=iP (i+1):=⟨_,rfl⟩;rw[<-hT]at hD1;rw[<-hU]at hR1;cbv;refine FH (qD.mono l2) (nm:=nm) (key:=0) (only:=o) qs (yp i hi3) hD (fun h3 f1 p1 g1 f2 p2 g2 f3 p3 g3 f4 p4 g4 l3 qD3=>?_);cbv;refine Di hz aI h3 (fun h4 sb4 sn4 sc4 nm4 o4 l4 hnm4 ho4 qs4=>?_);have hR:lR (iP i) ⟨nm4,cJ,0,o4⟩=R:=by rw[hnm4,ho4,hRR];rfl
   have nN:=(l2.trans l3).trans l4;cbv;refine EI (qR.mono nN) (nm:=nm4) (key:=0) (only:=o4) qs4 (pY i hi3).1 (pY i hi3).2 hR (fun h5 r1 s1 t1 r2 s2 t2 r3 s3 t3 r4 s4 t4 l5 qR5=>?_);cbv;refine⟨3-(i+1),(_,⟨f1,p1,g1,f2,p2,g2,f3,p3,g3,f4,p4,g4⟩,⟨r1,s1,t1,r2,s2,t2,r3,s3,t3,r4,s4,t4⟩),by omega,⟨?_,?_,?_⟩,i+1,hz.succ (A:=A) (by omega),rfl,by omega,hle.trans (nN.trans l5),by rw[<-hT,<-hD1];exact qD3.mono (l4.trans l5),by rw[<-hU,<-hR1];exact qR5⟩
   ·cbv
   ·cbv
   ·cbv
  ·have iW:i=3:=by rw[bC A,decide_eq_false_iff_not]at hc;have hc:¬z<3:=hc;have:=hz.eq;omega
   clear hc;subst iW;rw[Dg]at qD;rw[Dd]at qR;have af:=hk _ _ _ _ _ _ _ _ _ _ _ _ _ _ _ _ _ _ _ _ _ _ _ _ _ hle qD qR;cbv;refine⟨⟨_,rfl,rfl⟩,?_⟩;cbv;exact af
def kh:ByteArray:=⟨#[]⟩
def SL(i:Nat)(a:Int):Int:=(a.tdiv (1+3*(i:Int))) % 40-5
def SM:ByteArray:=⟨#[97,98,99,100,101,102,103,104,105,106,107,108,109,110,111,112,113,114,115,116,117,118,119,120,121,122]⟩
def fitV(c:bM)(i:Nat)(a:Int):dc:=
 if c.null=true/\a % 5=0 then⟨0,0,kh⟩else if c.kind=1 then⟨c.kind,SL i a % 2,kh⟩else if c.kind=2 then⟨c.kind,SL i a,kh⟩else if c.kind=3 then⟨c.kind,0,SM.extract 0 (SL i a % 9).toNat⟩else⟨c.kind,0,kh⟩
def fitL(cols:List bM)(a:Int)(m:Nat):List dc:=(List.range m).map fun i=>fitV (cols.getD i ⟨kh,0,false⟩) i a
end Go.S
