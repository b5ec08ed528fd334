import Derived.Test.YtekoaiendgjkdaaGreatEB
import Derived.Test.YtekoaiendgjkdaaGreatRd
set_option linter.unusedVariables false
set_option linter.unusedSimpArgs false
set_option linter.unusedSectionVars false
set_option maxRecDepth 100000
set_option maxHeartbeats 8000000
namespace Go.S
open Go.Sx Go.Proofs
def cm(W:List dr)(s:Int):List Int:=W.map fun x=>IntKind.i64.wrap (x.s-s)
def B7(d:DB)(hd:bK):Bool:=kE (cm d.aq hd.s)&&kE (aM d.aB hd.table)
def tU(d:DB)(hd:bK):DB×Int:=
 if B7 d hd=true then(⟨d.aB,d.aq,bR d.holds hd,cN d.holds d.waits hd⟩,if bq d.holds hd=true then 0 else 16)else(d,2)
def Calm(d:DB)(hd:bK):Prop:=bq d.holds hd=false->(cZ (ch (bR d.holds hd) (cN d.holds d.waits hd)) hd.s).2=false
def CS(d:DB)(hd:bK)(act:cA->cA×lD×Int):DB×Int:=
 if decide ((tU d hd).2≠0)=true then tU d hd
 else match d.aB[dm (aM d.aB hd.table)]?,d.aq[dm (cm d.aq hd.s)]? with
  |some t,some w=>
   if decide ((act t).2.2≠19)&&decide ((w.log.length:Int)>=60)then((tU d hd).1,4)
   else if decide ((act t).2.2=0)=true then
    (⟨d.aB.set (dm (aM d.aB hd.table)) (act t).1,d.aq.set (dm (cm d.aq hd.s)) ⟨w.s,w.log++[⟨hd.table,(act t).2.1.op,(act t).2.1.row⟩],w.marks⟩,(tU d hd).1.holds,(tU d hd).1.waits⟩,0)
   else((tU d hd).1,(act t).2.2)
  |_,_=>tU d hd
structure Small(d:DB):Prop where
 aB:d.aB.length<=2^37
 aq:d.aq.length<=2^37
 rows:∀t∈d.aB,t.rows.length<=2^37
 holds:d.holds.length<2^18
 waits:d.waits.length<2^18
def SF(d:DB)(s:Int)(name:ByteArray)(r:Row):DB×Int:=CS d ⟨s,name,true⟩ (cU r)
def takeD(d:DB)(s:Int)(name:ByteArray)(k:cR):DB×Int:=CS d ⟨s,name,true⟩ (Ib k)
def qk(d:DB)(s:Ao):DB×Int:=iX d s (dm (aM d.aB s.name)) (kE (aM d.aB s.name))
def ed(d:DB)(s:Int):DB×Int:=gj d s (dm (cm d.aq s)) (kE (cm d.aq s))
abbrev Rq(h:ad)(d':DB)(e:Int)(k:Value->ad->Prop):Prop:=
 ∀h' b1 n1 c1 b2 n2 c2 b3 n3 c3 b4 n4 c4,Le h h'->gA h' (.agg #[.slice b1 n1 c1,.slice b2 n2 c2,.slice b3 n3 c3,.slice b4 n4 c4]) d'->k (.tuple #[.agg #[.slice b1 n1 c1,.slice b2 n2 c2,.slice b3 n3 c3,.slice b4 n4 c4],.int .i64 e]) h'
theorem Ck{z:Int}{i j:Nat}(a:aO z i)(b:aO z j):i=j:=by have:=a.eq;have:=b.eq;omega
theorem En{d:DB}{h:ad}{v:Value}(q:gA h v d){nm:ByteArray}{cols:List bS}{key:Int}{only:Bool}{sb:Option Addr}{sn sc:Nat}(qs:Sl 165 bp h (.slice sb sn sc) cols)(sm:Small d){D:DB×Int}(hD:qk d ⟨nm,cols,key,only⟩=D)
 {k:Value->ad->Prop} (hk:Rq h D.1 D.2 k):Ct 45 [v,.agg #[.string nm,.slice sb sn sc,.int .i64 key,.bool only]] h k:=
 (Ip q qs sm.aB sm.aq).mono (fun v h' hR=>by
  obtain⟨v1,e,z,i,is,hv,l,hd,he,hz,hb⟩:=hR;obtain⟨h1,h2⟩:=hb.at_;have hi:=Ck hz h1;have hR2:iX d ⟨nm,cols,key,only⟩ i is=D:=by rw[<-hD,hi,h2];rfl
  rw[hR2]at hd he;obtain⟨b1,n1,c1,b2,n2,c2,b3,n3,c3,b4,n4,c4,hf⟩:=hd.form;rw[hv,hf,he];exact hk h' _ _ _ _ _ _ _ _ _ _ _ _ l (by rw[<-hf];exact hd))
theorem qC{d:DB}{h:ad}{v:Value}(q:gA h v d)(s:Int)(sm:Small d){D:DB×Int}(hD:ed d s=D){k:Value->ad->Prop}(hk:Rq h D.1 D.2 k):Ct 25 [v,.int .i64 s] h k:=
 (Mh q s sm.aq).mono (fun v h' hR=>by
  obtain⟨v1,e,z,i,is,hv,l,hd,he,hz,hb⟩:=hR;obtain⟨h1,h2⟩:=hb.at_;have hi:=Ck hz h1;have hR2:gj d s i is=D:=by rw[<-hD,hi,h2];rfl
  rw[hR2]at hd he;obtain⟨b1,n1,c1,b2,n2,c2,b3,n3,c3,b4,n4,c4,hf⟩:=hd.form;rw[hv,hf,he];exact hk h' _ _ _ _ _ _ _ _ _ _ _ _ l (by rw[<-hf];exact hd))
def db0:DB:=⟨[],[],[],[]⟩
def nX:ByteArray:=⟨#[120]⟩
def nA:ByteArray:=⟨#[97]⟩
def kS:Ao:=⟨nX,[⟨nA,2,false⟩],0,false⟩
def kd1:DB:=(qk db0 kS).1
def kd2:DB:=(ed kd1 1).1
def kd3:DB:=(ed kd2 2).1
def kd4:DB:=(SF kd3 1 nX [⟨2,5,jS⟩]).1
def kd5:DB:=(SF kd4 2 nX [⟨2,6,jS⟩]).1
def smallB(d:DB):Bool:=decide (d.aB.length<=1000)&&decide (d.aq.length<=1000)&&d.aB.all (fun t=>decide (t.rows.length<=1000))&&decide (d.holds.length<=1000)&&decide (d.waits.length<=1000)
def calmB(d:DB)(hd:bK):Bool:=bq d.holds hd|| !(cZ (ch (bR d.holds hd) (cN d.holds d.waits hd)) hd.s).2
theorem rdb0(h:ad):gA h (.agg #[.slice none 0 0,.slice none 0 0,.slice none 0 0,.slice none 0 0]) db0:=
 ⟨_,_,_,_,_,_,_,_,_,_,_,_,[],rfl,Sl.nil,Sl.nil,Sl.nil,Sl.nil,rfl⟩
def xh:List ByteArray:=[⟨#[116,97]⟩,⟨#[116,98]⟩,⟨#[116,99]⟩]
def bl:List bS:=[⟨nA,2,false⟩,⟨⟨#[98]⟩,3,true⟩]
def bN(t:Nat):Ao:=⟨(xh[t]?).getD jS,bl,0,decide (t=2)⟩
theorem BY{z:Int}{t:Nat}(hz:aO z t)(ht:t<3)(h:ad){k:Value->ad->Prop}
 (hk:∀h' b n c nm o,Le h h'->nm=(bN t).name->o=(bN t).only->Sl 165 bp h' (.slice b n c) bl->k (.agg #[.string nm,.slice b n c,.int .i64 0,.bool o]) h'):Ct 46 [.int .i64 z] h k:=by
 obtain⟨A,hA⟩:=Ar.ex;obtain⟨x,hx⟩:=aE (xs:=xh) (i:=t) ht;have KT:x=(bN t).name:=by unfold bN;rw[hx];rfl
 have he:A .aD .eql z 2=decide (t=2):=by rw[av A,decide_eq_decide];have:=hz.eq;omega
 have cT:(0:Int)<=z/\z<((3:Nat):Int):=hz.ix ht;refine af A (ar T46.aw T46.aZ) Tryz.func46 rfl (by kernel_rfl) ?_;cbv;intro n1 h1 nh e1;have l1:Le h h1:=by rw[e1];exact Le.set nh
 have g1:=(congrFun e1 n1).trans ah;have s1:Sl 165 bp h1 (.slice (some ⟨n1,0,none⟩) 2 2) bl:=by
  refine Sl.fresh (xs:=bl) g1 ⟨by simp[bl,bp],fun j y hj=>?_⟩ (by simp[bl]) (by simp[bl])
  match j,hj with
  |0,hj=>simp[bl]at hj;subst hj;rfl
  |1,hj=>simp[bl]at hj;subst hj;rfl
  |j+2,hj=>simp[bl]at hj
 cbv;intro n2 h2 mK e2;have l2:Le h1 h2:=by rw[e2];exact Le.set mK
 have g2:=(congrFun e2 n2).trans ah;have s2:Sl 9 cK h2 (.slice (some ⟨n2,0,none⟩) 3 3) xh:=sP (s:=cK) rfl g2 (x:=⟨#[116,97]⟩) (y:=⟨#[116,98]⟩) (w:=⟨#[116,99]⟩) rfl rfl rfl;cbv;refine⟨⟨rfl,cT⟩,?_⟩;cbv;refine s2.load hx hz.eq (fun cs aF=>?_);have aF:cs=[.string x]:=aF;subst aF;have ae:=hk h2 _ _ _ x (decide (t=2)) (l1.trans l2) KT rfl (s1.mono (l2.t _));cbv;rw[he];exact ae
theorem Kx(h:ad):Ct 226 [] h (fun v h'=>Le h h'/\∃nb,v=.slice (some ⟨nb,0,none⟩) 41 41/\Sl 9 cK h' v eC):=by
 obtain⟨A,hA⟩:=Ar.ex;refine af A (ar WG.aw WG.aZ) Tryz.func226 rfl (by kernel_rfl) ?_;cbv;intro n h1 hn e1;have g:h1 n=some (.cells (List.toArray (eC.map Value.string)) 9 (0,0)):=by rw[e1];exact ah
 have hr:Sx.Rows cK h1 (eC.map Value.string) 0 eC:=by refine⟨by decide,fun i x hx=>?_⟩;have aG:=(List.getElem?_eq_some_iff.1 hx).1;show List.take 1 (List.drop (0+i*1) _)=_;rw[Nat.zero_add,Nat.mul_one,List.drop_eq_getElem_cons (by simpa using aG)];rw[List.getElem?_eq_some_iff]at hx;simp[hx.2]
 have hs:Sl 9 cK h1 (.slice (some ⟨n,0,none⟩) 41 41) eC:=Sl.fresh (xs:=eC) g hr (by decide) (by decide);have hl:Le h h1:=by rw[e1];exact Le.set hn
 clear g hr e1;cbv;exact⟨hl,n,rfl,hs⟩
theorem xz{h:ad}{s:ByteArray}:Ct 133 [.string s] h (fun v h'=>Le h h'/\∃t,v=.bool t/\t=ai s):=by
 obtain⟨A,hA⟩:=Ar.ex;refine af A (ar Xx.aw Xx.aZ) Tryz.func133 rfl (by kernel_rfl) ?_;have hn:A .gD s=(s.size:Int):=by rw[hA.gD]
 have pN:aO (A .gD s) s.size:=⟨hn⟩;have oe:∀z i,aO z i->A .byte s z=eZ s i:=fun z i hz=>by
  rw[hA.byte];simp only[eZ];rw[hz.eq];rfl
 generalize e1:A .aD .lss (A .gD s) 1=t1;generalize e2:A .aD .gtr (A .gD s) 12=t2;generalize e3:A .aD .lss (A .byte s 0) 97=t3;generalize e4:A .aD .gtr (A .byte s 0) 122=t4;have vq:t2=false->s.size<=12:=fun e=>by
  rw[e,hA.aD,hn]at e2;have:=of_decide_eq_false e2;omega
 have hf:rv s= !(t1||t2||t3||t4):=by rw[<-e1,<-e2,<-e3,<-e4,oe 0 0 ⟨rfl⟩,hn,hA.aD];rfl
 have UK:t1=false->(0:Int)<=0/\0<(s.size:Int):=fun e=>by
  rw[e,hA.aD,hn]at e1;have:=of_decide_eq_false e1;omega
 have tH:∀(t:Bool) (b:Bool),t=false->rv s=false->t=ai s:=fun t b ht hq=>by rw[ht,ai,hq];rfl
 have Be:∀(t:Bool),t=true->t=t:=fun _ _=>rfl;cbv;rw[e1];cases t1 with
 |true=>cbv;exact⟨Le.refl _,false,rfl,tH _ true rfl hf⟩
 |false=>
  have h1:=UK rfl;cbv;rw[e2];cases t2 with
  |true=>cbv;exact⟨Le.refl _,false,rfl,tH _ true rfl hf⟩
  |false=>
   cbv;refine⟨h1,?_⟩;cbv;rw[e3];cases t3 with
   |true=>cbv;exact⟨Le.refl _,false,rfl,tH _ true rfl hf⟩
   |false=>
    cbv;refine⟨h1,?_⟩;cbv;rw[e4];cases t4 with
    |true=>cbv;exact⟨Le.refl _,false,rfl,tH _ true rfl hf⟩
    |false=>
     cbv;have Ui:rv s=true:=hf;have vq:=vq rfl;clear hf e1 e2 e3 e4 UK tH Be;refine aX.go (G:=Int) (fun z=>[(3,.v (.int .i64 z))]) (fun _=>[]) (fun n z h'=>∃i:Nat,aO z i/\n=s.size-i/\i<=s.size/\h'=h/\∀j,j<i->tF (eZ s j)=true) s.size 0 ⟨?_,?_,?_⟩ ⟨0,⟨rfl⟩,rfl,by omega,rfl,fun j hj=>(by omega)⟩ ?_
     ·cbv
     ·cbv
     ·cbv
     ·intro n z h' hI;cbv;obtain⟨i,hz,D4,hi,rfl,aJ⟩:=hI;refine aL (fun hc=>?_) (fun hc=>?_)
      ·rw[hz.gK (A:=A) pN]at hc;have aG:=of_decide_eq_true hc;clear hc;cbv;refine⟨hz.ix aG,?_⟩;cbv;rw[oe z i hz];generalize hw:eZ s i=w;generalize e1:A .aD .lss w 97=t1;generalize e2:A .aD .gtr w 122=t2;generalize e3:A .aD .lss w 48=t3;generalize e4:A .aD .gtr w 57=t4;generalize e5:A .aD .neq w 95=t5;have jh:tF w= !((t1||t2)&&(t3||t4)&&t5):=by rw[<-e1,<-e2,<-e3,<-e4,<-e5,hA.aD];rfl
       have bad:tF w=false->ai s=false:=fun e=>by
        have:pA s=false:=by unfold pA;rw[List.all_eq_false];exact⟨i,by simp[aG],by rw[hw,e];simp⟩
        rw[ai,this];simp
       have jZ:tF w=true->∀j,j<i+1->tF (eZ s j)=true:=fun e j hj=>by
        rcases Nat.lt_or_ge j i with h|h
        ·exact aJ j h
        ·have:j=i:=by omega
         rw[this,hw,e]
       cbv;cases t1 with
       |true=>
        cbv;rw[e3];cases t3 with
        |true=>
         cbv;rw[e5];cases t5 with
         |true=>cbv;exact⟨Le.refl _,false,rfl,(bad (by rw[jh];rfl)).symm⟩
         |false=>cbv;exact⟨s.size-(i+1),_,by omega,⟨by cbv,by cbv,by cbv⟩,i+1,hz.succ (A:=A) (by omega),rfl,by omega,rfl,jZ (by rw[jh];rfl)⟩
        |false=>
         cbv;rw[e4];cases t4 with
         |true=>
          cbv;rw[e5];cases t5 with
          |true=>cbv;exact⟨Le.refl _,false,rfl,(bad (by rw[jh];rfl)).symm⟩
          |false=>cbv;exact⟨s.size-(i+1),_,by omega,⟨by cbv,by cbv,by cbv⟩,i+1,hz.succ (A:=A) (by omega),rfl,by omega,rfl,jZ (by rw[jh];rfl)⟩
         |false=>cbv;exact⟨s.size-(i+1),_,by omega,⟨by cbv,by cbv,by cbv⟩,i+1,hz.succ (A:=A) (by omega),rfl,by omega,rfl,jZ (by rw[jh];rfl)⟩
       |false=>
        cbv;rw[e2];cases t2 with
        |true=>
         cbv;rw[e3];cases t3 with
         |true=>
          cbv;rw[e5];cases t5 with
          |true=>cbv;exact⟨Le.refl _,false,rfl,(bad (by rw[jh];rfl)).symm⟩
          |false=>cbv;exact⟨s.size-(i+1),_,by omega,⟨by cbv,by cbv,by cbv⟩,i+1,hz.succ (A:=A) (by omega),rfl,by omega,rfl,jZ (by rw[jh];rfl)⟩
         |false=>
          cbv;rw[e4];cases t4 with
          |true=>
           cbv;rw[e5];cases t5 with
           |true=>cbv;exact⟨Le.refl _,false,rfl,(bad (by rw[jh];rfl)).symm⟩
           |false=>cbv;exact⟨s.size-(i+1),_,by omega,⟨by cbv,by cbv,by cbv⟩,i+1,hz.succ (A:=A) (by omega),rfl,by omega,rfl,jZ (by rw[jh];rfl)⟩
          |false=>cbv;exact⟨s.size-(i+1),_,by omega,⟨by cbv,by cbv,by cbv⟩,i+1,hz.succ (A:=A) (by omega),rfl,by omega,rfl,jZ (by rw[jh];rfl)⟩
        |false=>cbv;exact⟨s.size-(i+1),_,by omega,⟨by cbv,by cbv,by cbv⟩,i+1,hz.succ (A:=A) (by omega),rfl,by omega,rfl,jZ (by rw[jh];rfl)⟩
      ·rw[hz.gK (A:=A) pN]at hc;have iu:=of_decide_eq_false hc;cbv;have HM:pA s=true:=by unfold pA;rw[List.all_eq_true];intro j hj;rw[List.mem_range]at hj;exact aJ j (by omega)
       refine(Kx h').mono (fun v h2 hR=>?_);obtain⟨l2,nb,rfl,ql⟩:=hR;cbv;refine aX.go (G:=Int) (fun z=>[(6,.v (.int .i64 z))]) (fun _=>[]) (fun n z h3=>∃i:Nat,aO z i/\n=41-i/\i<=41/\h3=h2/\∀j,j<i->∀y,eC[j]? =some y->y≠s) 41 0 ⟨?_,?_,?_⟩ ⟨0,⟨rfl⟩,by omega,by omega,rfl,fun j hj=>(by omega)⟩ ?_
       ·cbv
       ·cbv
       ·cbv
       ·intro n2 z2 h3 dc;cbv;obtain⟨i2,gL,mK,hi2,rfl,NF⟩:=dc;refine aL (fun hc=>?_) (fun hc=>?_)
        ·have gM:=gL.lt hc;clear hc;cbv;obtain⟨x,hx⟩:=aE (xs:=eC) (i:=i2) gM;refine⟨⟨rfl,gL.ix gM⟩,?_⟩;cbv;refine ql.load hx gL.eq (fun cs aF=>?_);have aF:cs=[.string x]:=aF;subst aF;cbv;rw[bL A];by_cases xJ:x=s
         ·rw[decide_eq_true xJ];have fR:lX s=true:=lW.2 (by rw[<-xJ];exact List.mem_of_getElem? hx);cbv;exact⟨l2,false,rfl,by rw[ai,fR];simp⟩
         ·rw[decide_eq_false xJ];cbv;refine⟨41-(i2+1),_,by omega,⟨?_,?_,?_⟩,i2+1,gL.succ (A:=A) (by omega),rfl,by omega,rfl,?_⟩
          ·cbv
          ·cbv
          ·cbv
          ·intro j hj y hy;rcases Nat.lt_or_ge j i2 with h|h
           ·exact NF j h y hy
           ·have:j=i2:=by omega
            subst this;rw[hx]at hy;cases hy;exact xJ
        ·have hge2:=gL.ge hc;have fR:lX s=false:=by
          cases hi:lX s with
          |false=>rfl
          |true=>have hm:=lW.1 hi;obtain⟨j,hj⟩:=List.getElem?_of_mem hm;have re:j<41:=(List.getElem?_eq_some_iff.1 hj).1;exact absurd rfl (NF j (by omega) s hj)
         cbv;exact⟨l2,true,rfl,by rw[ai,Ui,HM,fR];rfl⟩
theorem LM{cols:List bS}{h:ad}{b:Option Addr}{n c:Nat}(q:Sl 165 bp h (.slice b n c) cols){nm s:ByteArray}{k:Int}{only:Bool}:
 Ct 57 [.agg #[.string nm,.slice b n c,.int .i64 k,.bool only],.string s] h (fun v h'=>Le h h'/\∃z t z',v=.tuple #[.int .i64 z,.bool t]/\pa cols (fun x=>decide (x.name=s)) z'/\z=max z' 0/\t=decide (z'>=0)):=by
 obtain⟨A,hA⟩:=Ar.ex;have hlen:=q.len;obtain⟨ke,jt⟩:=q.bound;refine af A (ar T57.aw T57.aZ) Tryz.func57 rfl (by kernel_rfl) ?_;cbv;refine aX.go (G:=Int) (fun z=>[(6,.v (.int .i64 z))]) (fun _=>[(2,[.string nm,.slice b n c,.int .i64 k,.bool only])]) (fun m z h'=>∃i:Nat,aO z i/\m=n-i/\i<=n/\h'=h/\∀j,j<i->∀y,cols[j]? =some y->decide (y.name=s)=false) n 0 ⟨?_,?_,?_⟩ ⟨0,⟨rfl⟩,by omega,by omega,rfl,fun j hj=>(by omega)⟩ ?_
 ·cbv
 ·cbv
 ·cbv
 ·intro m z h' hI;cbv;obtain⟨i,hz,hm,hi,rfl,aJ⟩:=hI;refine aL (fun hc=>?_) (fun hc=>?_)
  ·have aG:=hz.lt hc;clear hc;cbv;obtain⟨x,hx⟩:=aE (xs:=cols) (i:=i) (by omega);refine⟨⟨q.bF (by omega),hz.ix aG⟩,?_⟩;cbv;refine q.fF hx hz.eq (o:=0) (m:=1) (by decide) (fun cs aF=>?_);have aF:cs=[.string x.name,.int .i64 x.kind,.bool x.null]:=aF;subst aF;cbv;rw[bL A];by_cases xJ:x.name=s
   ·rw[decide_eq_true xJ];have hR:pa cols (fun x=>decide (x.name=s)) z:=⟨.inr ⟨i,x,hz,hx,by simpa using xJ,aJ⟩⟩;have zn:=hz.eq;have e1:z=max z 0:=by omega
    have e2:true=decide (z>=0):=by rw[decide_eq_true (by omega)]
    cbv;exact⟨Le.refl _,z,true,z,rfl,hR,e1,e2⟩
   ·rw[decide_eq_false xJ];cbv;refine⟨n-(i+1),_,by omega,⟨?_,?_,?_⟩,i+1,hz.succ (A:=A) (by omega),rfl,by omega,rfl,?_⟩
    ·cbv
    ·cbv
    ·cbv
    ·intro j hj y hy;rcases Nat.lt_or_ge j i with ji|ji
     ·exact aJ j ji y hy
     ·have:j=i:=by omega
      subst this;rw[hx]at hy;cases hy;exact decide_eq_false xJ
  ·have iu:=hz.ge hc;have hR:pa cols (fun x=>decide (x.name=s)) (-1):=⟨.inl ⟨rfl,fun x hx=>by
    obtain⟨j,hj⟩:=List.getElem?_of_mem hx;have:=(List.getElem?_eq_some_iff.1 hj).1;exact aJ j (by omega) x hj⟩⟩
   cbv;exact⟨Le.refl _,0,false,-1,rfl,hR,rfl,rfl⟩
theorem Ph{cols:List bS}{i:Nat}{c:bS}(hc:cols[i]? =some c){z':Int}(hr:pa cols (fun x=>decide (x.name=c.name)) z'):
 decide (max z' 0≠(i:Int))=(cols.take i).any fun x=>decide (x.name=c.name):=by
 have h1:=Hd hc hr;rw[<-h1,decide_eq_decide];rcases hr.out with ⟨-,h⟩ | ⟨k,x,hk,hx,hp,aJ⟩
 ·have:=h c (List.mem_of_getElem? hc);simp at this
 ·have hz:=hk.eq;have hki:¬i<k:=fun h=>by have:=aJ i h c hc;simp at this
  omega
theorem Ix{nm:ByteArray}{cols:List bS}{key:Int}{only:Bool}{h:ad}{b:Option Addr}{n c:Nat}(q:Sl 165 bp h (.slice b n c) cols):
 Ct 108 [.agg #[.string nm,.slice b n c,.int .i64 key,.bool only]] h (fun v h'=>Le h h'/\∃z,v=.int .i64 z/\z=fx ⟨nm,cols,key,only⟩):=by
 obtain⟨A,hA⟩:=Ar.ex;have hlen:=q.len;obtain⟨ke,jt⟩:=q.bound;have pL:A .not true=false:=by rw[hA.not];rfl
 have tV:A .not false=true:=by rw[hA.not];rfl
 generalize e1:A .aD .lss (A .nat n) 1=u1;generalize e2:A .aD .gtr (A .nat n) 6=u2;generalize e3:A .aD .lss key 0=u3;generalize e4:A .aD .geq key (A .nat n)=u4;have f1:=e1;have f2:=e2;have f3:=e3;have f4:=e4;rw[bt A,hA.nat]at e1;rw[bB A,hA.nat]at e2;rw[bt A]at e3;rw[bQ A,hA.nat]at e4;simp only[Int.ofNat_eq_natCast]at e1 e2 e4;rw[hlen]at e1 e2 e4;obtain⟨E,hE⟩:∃E,E=fx ⟨nm,cols,key,only⟩:=⟨_,rfl⟩;have hS:E=if(!ai nm)=true then 12 else if(u1||u2)=true then 4 else if fT cols≠0 then fT cols else if(u3||u4)=true then 1 else if((cols[key.toNat]?).map (·.null)).getD false=true then 13 else 0:=by rw[hE,<-e1,<-e2,<-e3,<-e4];rfl
 rw[<-hE];refine af A (ar XP.aw XP.aZ) Tryz.func108 rfl (by kernel_rfl) ?_;cbv;refine xz.mono (fun v h1 hR=>?_);obtain⟨l1,t,rfl,ht⟩:=hR;rw[<-ht]at hS;cases t with
 |false=>cbv;rw[tV];cbv;exact⟨l1,12,rfl,hS.symm⟩
 |true=>
  cbv;rw[pL];cbv;rw[f1];cases u1 with
  |true=>cbv;exact⟨l1,4,rfl,hS.symm⟩
  |false=>
   cbv;rw[f2];cases u2 with
   |true=>cbv;exact⟨l1,4,rfl,hS.symm⟩
   |false=>
    have hS:E=if fT cols≠0 then fT cols else if(u3||u4)=true then 1 else if((cols[key.toNat]?).map (·.null)).getD false=true then 13 else 0:=hS
    cbv;refine aX.go (G:=Int) (fun z=>[(3,.v (.int .i64 z))]) (fun _=>[(1,[.string nm,.slice b n c,.int .i64 key,.bool only])]) (fun m z h'=>∃i:Nat,aO z i/\m=n-i/\i<=n/\Le h h'/\∀j,j<i->∀y,cols[j]? =some y->dw cols j y=0) n 0 ⟨?_,?_,?_⟩ ⟨0,⟨rfl⟩,by omega,by omega,l1,fun j hj=>(by omega)⟩ ?_
    ·cbv
    ·cbv
    ·cbv
    ·intro m z h' hI;cbv;obtain⟨i,hz,hm,hi,hle,aJ⟩:=hI;refine aL (fun hc=>?_) (fun hc=>?_)
     ·have aG:=hz.lt hc;clear hc;obtain⟨x,hx⟩:=aE (xs:=cols) (i:=i) (by omega);have cT:b.isSome=true/\0<=z/\z<(n:Int):=⟨q.bF (by omega),hz.ix aG⟩;have bad:∀ {hh:ad} (w:Int),Le h hh->dw cols i x=w->w≠0->Le h hh/\∃z,Value.int .i64 w=.int .i64 z/\z=E:=fun w l ew hw=>by
       refine⟨l,w,rfl,?_⟩;have:=uE hx aJ (by rw[ew];exact hw);rw[hS,this,ew,if_pos hw]
      have jZ:∀(h2:ad),Le h h2->dw cols i x=0->∃j:Nat,aO (A .bu .add .i64 z 1) j/\n-(i+1)=n-j/\j<=n/\Le h h2/\∀j',j'<j->∀y,cols[j']? =some y->dw cols j' y=0:=fun h2 l e0=>
       ⟨i+1,hz.succ (A:=A) (by omega),rfl,by omega,l,fun j hj y hy=>by
        rcases Nat.lt_or_ge j i with ji|ji
        ·exact aJ j ji y hy
        ·have:j=i:=by omega
         subst this;rw[hx]at hy;cases hy;exact e0⟩
      obtain⟨xn,xk,xo⟩:=x;cbv;refine⟨cT,?_⟩;cbv;refine(q.mono (hle.t _)).fF hx hz.eq (o:=0) (m:=1) (by decide) (fun cs aF=>?_);have aF:cs=[.string xn,.int .i64 xk,.bool xo]:=aF;subst aF;cbv;refine(LM (q.mono (hle.t _))).mono (fun v h2 hR=>?_);obtain⟨l2,zk,tk,zk',rfl,P4,hzk,RM⟩:=hR;have Kv:=hle.trans l2;have bU:=Ph hx P4;rw[<-hzk]at bU;generalize g1:A .aD .neq zk z=w1;have k1:=g1;rw[aC A,hz.eq]at g1;rw[g1]at bU;generalize g2:A .aD .lss xk 1=w2;generalize g3:A .aD .gtr xk 3=w3;have k2:=g2;have k3:=g3;rw[bt A]at g2;rw[bB A]at g3;cbv;refine⟨cT,?_⟩;cbv;refine(q.mono (Kv.t _)).fF hx hz.eq (o:=0) (m:=1) (by decide) (fun cs aF=>?_);have aF:cs=[.string xn,.int .i64 xk,.bool xo]:=aF;subst aF;cbv;refine xz.mono (fun v h3 hR=>?_);obtain⟨l3,tn,rfl,htn⟩:=hR;have EK:=Kv.trans l3;have key:dw cols i ⟨xn,xk,xo⟩=if(!tn||w1)=true then 12 else if(w2||w3)=true then 3 else 0:=by rw[htn,bU,<-g2,<-g3];rfl
      cases tn with
      |false=>have key:dw cols i ⟨xn,xk,xo⟩=12:=key;cbv;rw[tV];cbv;exact bad 12 EK key (by omega)
      |true=>
       cbv;rw[pL];cbv;rw[k1];cases w1 with
       |true=>have key:dw cols i ⟨xn,xk,xo⟩=12:=key;cbv;exact bad 12 EK key (by omega)
       |false=>
        cbv;refine⟨cT,?_⟩;cbv;refine(q.mono (EK.t _)).fF hx hz.eq (o:=1) (m:=1) (by decide) (fun cs aF=>?_);have aF:cs=[.string xn,.int .i64 xk,.bool xo]:=aF;subst aF;cbv;rw[k2];cases w2 with
        |true=>have key:dw cols i ⟨xn,xk,xo⟩=3:=key;cbv;exact bad 3 EK key (by omega)
        |false=>
         cbv;refine⟨cT,?_⟩;cbv;refine(q.mono (EK.t _)).fF hx hz.eq (o:=1) (m:=1) (by decide) (fun cs aF=>?_);have aF:cs=[.string xn,.int .i64 xk,.bool xo]:=aF;subst aF;cbv;rw[k3];cases w3 with
         |true=>have key:dw cols i ⟨xn,xk,xo⟩=3:=key;cbv;exact bad 3 EK key (by omega)
         |false=>
          have key:dw cols i ⟨xn,xk,xo⟩=0:=key;have g:=jZ h3 EK key;cbv;refine⟨n-(i+1),_,by omega,⟨?_,?_,?_⟩,g⟩
          ·cbv
          ·cbv
          ·cbv
     ·have iu:=hz.ge hc;have Qg:fT cols=0:=qy (fun j hj y hy=>aJ j (by omega) y hy);rw[Qg,if_neg (by simp)]at hS;cbv;rw[f3];cases u3 with
      |true=>cbv;exact⟨hle,1,rfl,hS.symm⟩
      |false=>
       cbv;rw[f4];cases u4 with
       |true=>cbv;exact⟨hle,1,rfl,hS.symm⟩
       |false=>
        obtain⟨mD,ni⟩:=A7 A f3 f4;obtain⟨x,hx⟩:=aE (xs:=cols) (i:=key.toNat) (by omega);have cT:b.isSome=true/\0<=key/\key<(n:Int):=⟨q.bF (by omega),mD.ix ni⟩;rw[hx]at hS;obtain⟨xn,xk,xo⟩:=x;cbv;refine⟨cT,?_⟩;cbv;refine(q.mono (hle.t _)).fF hx mD.eq (o:=2) (m:=1) (by decide) (fun cs aF=>?_);have aF:cs=[.string xn,.int .i64 xk,.bool xo]:=aF;subst aF;cases xo with
        |true=>cbv;exact⟨hle,13,rfl,hS.symm⟩
        |false=>cbv;exact⟨hle,0,rfl,hS.symm⟩
def Og:Sh dr where
 n:=3
 R h cs t:=∃b1 n1 c1 b2 n2 c2,cs=[.int .i64 t.s,.slice b1 n1 c1,.slice b2 n2 c2]/\Sl 148 fE h (.slice b1 n1 c1) t.log/\Sl 162 fv h (.slice b2 n2 c2) t.marks
 len:=by rintro h cs x ⟨_,_,_,_,_,_,rfl,-⟩;rfl
 one:=by rintro h cs x ⟨_,_,_,_,_,_,rfl,-⟩;rfl
 tys:=[148,61,162]
 mono:=by rintro h h' cs x hl ⟨b1,n1,c1,b2,n2,c2,rfl,q1,q2⟩;exact⟨b1,n1,c1,b2,n2,c2,rfl,q1.mono (hl.sub (by decide)),q2.mono (hl.sub (by decide))⟩
structure RP(h:ad)(b1:Option Addr)(n1 c1:Nat)(b2:Option Addr)(n2 c2:Nat)(b3:Option Addr)(n3 c3:Nat)(b4:Option Addr)(n4 c4:Nat)(d:DB):Prop where
 aB:Sl 156 cJ h (.slice b1 n1 c1) d.aB
 aq:Sl 145 Og h (.slice b2 n2 c2) d.aq
 holds:Sl 235 bA h (.slice b3 n3 c3) d.holds
 waits:Sl 235 bA h (.slice b4 n4 c4) d.waits
theorem RP.lt{h h':ad}{b1 b2 b3 b4:Option Addr}{n1 c1 n2 c2 n3 c3 n4 c4:Nat}{d:DB}(q:RP h b1 n1 c1 b2 n2 c2 b3 n3 c3 b4 n4 c4 d)(l:cG [156,165,59,61,145,148,162,235] h h'):RP h' b1 n1 c1 b2 n2 c2 b3 n3 c3 b4 n4 c4 d:=
 ⟨q.aB.mono (l.sub (by decide)),q.aq.mono (l.sub (by decide)),q.holds.mono (l.sub (by decide)),q.waits.mono (l.sub (by decide))⟩
theorem RP.mono{h h':ad}{b1 b2 b3 b4:Option Addr}{n1 c1 n2 c2 n3 c3 n4 c4:Nat}{d:DB}(q:RP h b1 n1 c1 b2 n2 c2 b3 n3 c3 b4 n4 c4 d)(l:Le h h'):RP h' b1 n1 c1 b2 n2 c2 b3 n3 c3 b4 n4 c4 d:=q.lt (l.t _)
theorem zZ{a b:List UInt8}:∀ {i:Nat},i<=a.length->i<=b.length->(∀j,j<i->a[j]? =b[j]?)->Lib.compareBytes a b=Lib.compareBytes (a.drop i) (b.drop i)
 |0,_,_,_=>rfl
 |i+1,ha,hb,aJ=>by
  cases a with
  |nil=>simp at ha
  |cons x a=>
   cases b with
   |nil=>simp at hb
   |cons y b=>
    have h0:x=y:=by have:=aJ 0 (by omega);simpa using this
    subst h0;have:Lib.compareBytes (x::a) (x::b)=Lib.compareBytes a b:=by simp[Lib.compareBytes]
    rw[this,List.drop_succ_cons,List.drop_succ_cons];exact zZ (by simpa using ha) (by simpa using hb) (fun j hj=>by have:=aJ (j+1) (by omega);simpa using this)
theorem IE{h:ad}{a b:ByteArray}(ha60:a.size<=2^60):Ct 110 [.string a,.string b] h (fun v h'=>Le h h'/\∃t,v=.bool t/\t=decide (eG a b<0)):=by
 obtain⟨A,hA⟩:=Ar.ex;have hna:aO (A .gD a) a.size:=⟨by rw[hA.gD]⟩;have eJ:aO (A .gD b) b.size:=⟨by rw[hA.gD]⟩;have hsa:a.data.toList.length=a.size:=by rw[Array.length_toList];rfl
 have zu:b.data.toList.length=b.size:=by rw[Array.length_toList];rfl
 have Nu:∀(s:ByteArray) (i:Nat),i<s.size->∃x:UInt8,s.data.toList[i]? =some x/\eZ s i=(x.toNat:Int):=fun s i hi=>by
  have rG:i<s.data.size:=hi;refine⟨s.data[i],by simp[rG],?_⟩;simp[eZ,Array.getElem?_eq_getElem rG]
 have oe:∀s z i,aO z i->A .byte s z=eZ s i:=fun s z i hz=>by
  rw[hA.byte];simp only[eZ];rw[hz.eq];rfl
 refine af A (ar XN.aw XN.aZ) Tryz.func110 rfl (by kernel_rfl) ?_;cbv;refine aX.go (G:=Int) (fun z=>[(5,.v (.int .i64 z))]) (fun _=>[]) (fun m z h'=>∃i:Nat,aO z i/\m=a.size-i/\i<=a.size/\i<=b.size/\h'=h/\∀j,j<i->a.data.toList[j]? =b.data.toList[j]?) a.size 0 ⟨?_,?_,?_⟩ ⟨0,⟨rfl⟩,by omega,by omega,by omega,rfl,fun j hj=>(by omega)⟩ ?_
 ·cbv
 ·cbv
 ·cbv
 ·intro m z h' hI;cbv;obtain⟨i,hz,hm,hia,hib,rfl,aJ⟩:=hI;have Qh:=zZ (a:=a.data.toList) (b:=b.data.toList) (i:=i) (by omega) (by omega) aJ;have f1:A .aD .lss z (A .gD a)=decide (i<a.size):=hz.gK hna;have f2:A .aD .lss z (A .gD b)=decide (i<b.size):=hz.gK eJ;have f3:A .aD .lss (A .gD a) (A .gD b)=decide (a.size<b.size):=hna.gK eJ;by_cases h1:i<a.size
  ·rw[decide_eq_true h1]at f1;rw[f1];cbv;by_cases h2:i<b.size
   ·rw[decide_eq_true h2]at f2;rw[f2];obtain⟨x,hx,hxb⟩:=Nu a i h1;obtain⟨y,hy,M7⟩:=Nu b i h2;have hda:a.data.toList.drop i=x::a.data.toList.drop (i+1):=by rw[List.drop_eq_getElem_cons (by omega)];rw[(List.getElem?_eq_some_iff.1 hx).2]
    have D8:b.data.toList.drop i=y::b.data.toList.drop (i+1):=by rw[List.drop_eq_getElem_cons (by omega)];rw[(List.getElem?_eq_some_iff.1 hy).2]
    rw[hda,D8]at Qh;have c1:(0:Int)<=z/\z<(a.size:Int):=hz.ix h1;have c2:(0:Int)<=z/\z<(b.size:Int):=hz.ix h2;have g1:A .aD .neq (A .byte a z) (A .byte b z)=decide (x≠y):=by
     rw[oe a z i hz,oe b z i hz,aC A,hxb,M7,decide_eq_decide];refine not_congr ?_;constructor
     ·intro e;exact UInt8.toNat_inj.1 (Int.ofNat_inj.1 e)
     ·rintro rfl;rfl
    have g2:A .aD .lss (A .byte a z) (A .byte b z)=decide (x<y):=by rw[oe a z i hz,oe b z i hz,bt A,hxb,M7,decide_eq_decide,UInt8.lt_iff_toNat_lt];exact Int.ofNat_lt
    cbv;refine⟨c1,?_⟩;cbv;refine⟨c2,?_⟩;cbv;rw[g1];by_cases M8:x=y
    ·rw[decide_eq_false (by simp[M8])];cbv;refine⟨a.size-(i+1),_,by omega,⟨?_,?_,?_⟩,i+1,hz.succ (A:=A) (by omega),rfl,by omega,by omega,rfl,?_⟩
     ·cbv
     ·cbv
     ·cbv
     ·intro j hj;rcases Nat.lt_or_ge j i with h|h
      ·exact aJ j h
      ·have:j=i:=by omega
       rw[this,hx,hy,M8]
    ·rw[decide_eq_true (by simpa using M8)];have ae:decide (x<y)=decide (eG a b<0):=by
      unfold eG;rw[Qh];simp only[Lib.compareBytes];by_cases aG:x<y
      ·simp[aG]
      ·have:y<x:=by rw[UInt8.lt_iff_toNat_lt]at aG |-;have:x.toNat≠y.toNat:=fun e=>M8 (UInt8.toNat_inj.1 e);omega
       simp[aG,this]
     cbv;refine⟨c1,?_⟩;cbv;refine⟨c2,?_⟩;cbv;rw[g2];exact⟨Le.refl _,_,rfl,ae⟩
   ·rw[decide_eq_false h2]at f2;rw[f2];have UB:b.data.toList.drop i=[]:=List.drop_eq_nil_of_le (by omega);have ae:decide (a.size<b.size)=decide (eG a b<0):=by
     unfold eG;rw[Qh,UB];have:a.data.toList.drop i≠[]:=by intro e;have:=congrArg List.length e;rw[List.length_drop]at this;simp at this;omega
     cases hd:a.data.toList.drop i with
     |nil=>exact absurd hd this
     |cons x r=>simp only[Lib.compareBytes];rw[decide_eq_false (by omega)];rfl
    cbv;rw[f3];exact⟨Le.refl _,_,rfl,ae⟩
  ·rw[decide_eq_false h1]at f1;rw[f1];have ha0:a.data.toList.drop i=[]:=List.drop_eq_nil_of_le (by omega);have ae:decide (a.size<b.size)=decide (eG a b<0):=by
    unfold eG;rw[Qh,ha0];cases hd:b.data.toList.drop i with
    |nil=>have:=congrArg List.length hd;rw[List.length_drop]at this;simp at this;simp only[Lib.compareBytes];rw[decide_eq_false (by omega)];rfl
    |cons y r=>have:=congrArg List.length hd;rw[List.length_drop]at this;simp at this;simp only[Lib.compareBytes];rw[decide_eq_true (by omega)];rfl
   cbv;rw[f3];exact⟨Le.refl _,_,rfl,ae⟩
theorem QJ{d:DB}{h:ad}{b1 b2 b3 b4:Option Addr}{n1 c1 n2 c2 n3 c3 n4 c4:Nat}(q:RP h b1 n1 c1 b2 n2 c2 b3 n3 c3 b4 n4 c4 d){nm:ByteArray}:
 Ct 109 [.agg #[.slice b1 n1 c1,.slice b2 n2 c2,.slice b3 n3 c3,.slice b4 n4 c4],.string nm] h (fun v h'=>Le h h'/\∃z,v=.int .i64 z/\pa d.aB (fun t=>decide (t.S.name=nm)) z):=by
 obtain⟨A,hA⟩:=Ar.ex;have hlen:=q.aB.len;have vp:=q.aB.bound;refine af A (ar XO.aw XO.aZ) Tryz.func109 rfl (by kernel_rfl) ?_;cbv;refine aX.go (G:=Int) (fun z=>[(5,.v (.int .i64 z))]) (fun _=>[(2,[.slice b1 n1 c1,.slice b2 n2 c2,.slice b3 n3 c3,.slice b4 n4 c4])]) (fun m z h'=>∃i:Nat,aO z i/\m=n1-i/\i<=n1/\h'=h/\∀j,j<i->∀y,d.aB[j]? =some y->decide (y.S.name=nm)=false) n1 0 ⟨?_,?_,?_⟩ ⟨0,⟨rfl⟩,by omega,by omega,rfl,fun j hj=>(by omega)⟩ ?_
 ·cbv
 ·cbv
 ·cbv
 ·intro m z h' hI;cbv;obtain⟨i,hz,hm,hi,rfl,aJ⟩:=hI;refine aL (fun hc=>?_) (fun hc=>?_)
  ·have aG:=hz.lt hc;clear hc;cbv;obtain⟨x,hx⟩:=aE (xs:=d.aB) (i:=i) (by omega);refine⟨⟨q.aB.bF (by omega),hz.ix aG⟩,?_⟩;cbv;refine q.aB.tM hx hz.eq (o1:=0) (o2:=0) (m:=1) (by decide) (fun cs aF=>?_);obtain⟨_,_,_,_,_,_,rfl,-,-⟩:=aF;cbv;rw[bL A];by_cases xJ:x.S.name=nm
   ·rw[decide_eq_true xJ];have hR:pa d.aB (fun t=>decide (t.S.name=nm)) z:=⟨.inr ⟨i,x,hz,hx,by simpa using xJ,aJ⟩⟩;cbv;exact⟨Le.refl _,z,rfl,hR⟩
   ·rw[decide_eq_false xJ];cbv;refine⟨n1-(i+1),_,by omega,⟨?_,?_,?_⟩,i+1,hz.succ (A:=A) (by omega),rfl,by omega,rfl,?_⟩
    ·cbv
    ·cbv
    ·cbv
    ·intro j hj y hy;rcases Nat.lt_or_ge j i with ji|ji
     ·exact aJ j ji y hy
     ·have:j=i:=by omega
      subst this;rw[hx]at hy;cases hy;exact decide_eq_false xJ
  ·have iu:=hz.ge hc;have hR:pa d.aB (fun t=>decide (t.S.name=nm)) (-1):=⟨.inl ⟨rfl,fun x hx=>by
    obtain⟨j,hj⟩:=List.getElem?_of_mem hx;have:=(List.getElem?_eq_some_iff.1 hj).1;exact aJ j (by omega) x hj⟩⟩
   cbv;exact⟨Le.refl _,-1,rfl,hR⟩
theorem KN{α:Type}{xs:List α}{p:α->Bool}{z:Int}(q:pa xs p z):decide (z>=0)=xs.any p:=by
 rcases q.out with ⟨rfl,h⟩ | ⟨i,x,hz,hx,hp,-⟩
 ·rw[eq_comm];simpa using h
 ·have:=hz.eq;rw[decide_eq_true (by omega),eq_comm,List.any_eq_true];exact⟨x,List.mem_of_getElem? hx,hp⟩
def mR(T:List cA)(nm:ByteArray):Nat:=(T.takeWhile fun t=>decide (eG t.S.name nm<0)).length
def lp(d:DB)(s:Ao):DB×Int:=
 if decide (fx s≠0)=true then(d,fx s)
 else if d.aB.any (fun t=>decide (t.S.name=s.name))=true then(d,7)
 else if decide ((d.aB.length:Int)>=8)=true then(d,4)
 else if decide ((d.aq.length:Int)>0)=true then(d,18)
 else(kj d (d.aB.take (mR d.aB s.name)++[⟨s,[]⟩]++d.aB.drop (mR d.aB s.name)),0)
abbrev RK(h:ad)(d':DB)(e:Int)(k:Value->ad->Prop):Prop:=
 ∀h' b1 n1 c1 b2 n2 c2 b3 n3 c3 b4 n4 c4,Le h h'->RP h' b1 n1 c1 b2 n2 c2 b3 n3 c3 b4 n4 c4 d'->k (.tuple #[.agg #[.slice b1 n1 c1,.slice b2 n2 c2,.slice b3 n3 c3,.slice b4 n4 c4],.int .i64 e]) h'
theorem AJ{α:Type}{p:α->Bool}:∀ {xs:List α} {i:Nat},(∀j,j<i->∀y,xs[j]? =some y->p y=true)->i<=xs.length->(i<xs.length->∃y,xs[i]? =some y/\p y=false)->(xs.takeWhile p).length=i
 | [],i,_,hi,_=>by simp at hi;simp[hi]
 |x::r,0,_,_,hs=>by
  obtain⟨y,hy,hp⟩:=hs (by simp);simp at hy;subst hy;simp[hp]
 |x::r,i+1,aJ,hi,hs=>by
  have hx:=aJ 0 (by omega) x rfl;rw[List.takeWhile_cons_of_pos hx,List.length_cons];rw[AJ (xs:=r) (i:=i) (fun j hj y hy=>aJ (j+1) (by omega) y (by simpa using hy)) (by simpa using hi) (fun h=>by simpa using hs (by simpa using h))]
theorem Dw{d:DB}{h:ad}{b1 b2 b3 b4:Option Addr}{n1 c1 n2 c2 n3 c3 n4 c4:Nat}(q:RP h b1 n1 c1 b2 n2 c2 b3 n3 c3 b4 n4 c4 d){nm:ByteArray}{cols:List bS}{key:Int}{only:Bool}{sb:Option Addr}{sn sc:Nat}(qs:Sl 165 bp h (.slice sb sn sc) cols)
 (hl:d.aB.length<=2^37) (hns:∀t∈d.aB,t.S.name.size<=2^60) {D:DB×Int} (hD:lp d ⟨nm,cols,key,only⟩=D) {k:Value->ad->Prop} (hk:RK h D.1 D.2 k):
 Ct 47 [.agg #[.slice b1 n1 c1,.slice b2 n2 c2,.slice b3 n3 c3,.slice b4 n4 c4],.agg #[.string nm,.slice sb sn sc,.int .i64 key,.bool only]] h k:=by
 obtain⟨A,hA⟩:=Ar.ex;have hlen:=q.aB.len;have vp:=q.aB.bound;have M9:=q.aq.len;unfold lp at hD;generalize e8:A .aD .geq (A .nat n1) 8=u8;generalize NP:A .aD .gtr (A .nat n2) 0=u18;have f8:=e8;have f18:=NP;rw[bQ A,hA.nat]at e8;rw[bB A,hA.nat]at NP;simp only[Int.ofNat_eq_natCast]at e8 NP;rw[hlen]at e8;rw[M9]at NP;rw[e8,NP]at hD;refine af A (ar T47.aw T47.aZ) Tryz.func47 rfl (by kernel_rfl) ?_;cbv;refine(Ix (nm:=nm) (key:=key) (only:=only) qs).mono (fun v h1 hR=>?_);obtain⟨l1,ze,hv,eze⟩:=hR;rw[hv];rw[<-eze]at hD;generalize e0:A .aD .neq ze 0=u0;have f0:=e0;rw[aC A]at e0;rw[e0]at hD;cbv;rw[f0];cases u0 with
 |true=>have hD:(d,ze)=D:=hD;have ae:=hk h1 b1 n1 c1 b2 n2 c2 b3 n3 c3 b4 n4 c4 l1 (by rw[<-hD];exact q.mono l1);rw[<-hD]at ae;cbv;exact ae
 |false=>
  cbv;refine(QJ (q.mono l1)).mono (fun v h2 hR=>?_);obtain⟨l2,zf,hv,P4⟩:=hR;rw[hv];have fO:=l1.trans l2;have HL:=KN P4;generalize e7:A .aD .geq zf 0=u7;have f7:=e7;rw[bQ A]at e7;rw[e7]at HL;have hD:(if d.aB.any (fun t=>decide (t.S.name=nm))=true then(d,7)else if u8=true then(d,4)else if u18=true then(d,18)
   else(kj d (d.aB.take (mR d.aB nm)++[⟨⟨nm,cols,key,only⟩,[]⟩]++d.aB.drop (mR d.aB nm)),0))=D:=hD
  rw[<-HL]at hD;cbv;rw[f7];cases u7 with
  |true=>have hD:(d,7)=D:=hD;have ae:=hk h2 b1 n1 c1 b2 n2 c2 b3 n3 c3 b4 n4 c4 fO (by rw[<-hD];exact q.mono fO);rw[<-hD]at ae;cbv;exact ae
  |false=>
   cbv;rw[f8];cases u8 with
   |true=>have hD:(d,4)=D:=hD;have ae:=hk h2 b1 n1 c1 b2 n2 c2 b3 n3 c3 b4 n4 c4 fO (by rw[<-hD];exact q.mono fO);rw[<-hD]at ae;cbv;exact ae
   |false=>
    cbv;rw[f18];cases u18 with
    |true=>have hD:(d,18)=D:=hD;have ae:=hk h2 b1 n1 c1 b2 n2 c2 b3 n3 c3 b4 n4 c4 fO (by rw[<-hD];exact q.mono fO);rw[<-hD]at ae;cbv;exact ae
    |false=>
     have hD:(kj d (d.aB.take (mR d.aB nm)++[⟨⟨nm,cols,key,only⟩,[]⟩]++d.aB.drop (mR d.aB nm)),0)=D:=hD;cbv;refine aX.go (G:=Int) (fun z=>[(7,.v (.int .i64 z))]) (fun _=>[(2,[.slice b1 n1 c1,.slice b2 n2 c2,.slice b3 n3 c3,.slice b4 n4 c4]),(3,[.string nm,.slice sb sn sc,.int .i64 key,.bool only]),(4,[.slice none 0 0,.slice none 0 0,.slice none 0 0,.slice none 0 0])])
      (fun m z h'=>∃i:Nat,aO z i/\m=n1-i/\i<=n1/\Le h h'/\∀j,j<i->∀y,d.aB[j]? =some y->decide (eG y.S.name nm<0)=true) n1 0 ⟨?_,?_,?_⟩ ⟨0,⟨rfl⟩,by omega,by omega,fO,fun j hj=>(by omega)⟩ ?_
     ·cbv
     ·cbv
     ·cbv
     ·intro m z h' hI;cbv;obtain⟨i,hz,hm,hi,hle,aJ⟩:=hI;have g1:A .aD .lss z (A .nat n1)=decide (i<n1):=hz.gK (aO.nat n1);rw[g1];rcases Nat.lt_or_ge i n1 with aG|iu
      ·rw[decide_eq_true aG];have Lb:=hz.ix aG;obtain⟨x,hx⟩:=aE (xs:=d.aB) (i:=i) (by omega);have qh:=q.mono hle;cbv;refine⟨⟨qh.aB.bF (by omega),Lb⟩,?_⟩;cbv;refine qh.aB.tM hx hz.eq (o1:=0) (o2:=0) (m:=1) (by decide) (fun cs aF=>?_);obtain⟨_,_,_,_,_,_,rfl,-,-⟩:=aF;cbv;refine(IE (hns x (List.mem_of_getElem? hx))).mono (fun v h3 hR=>?_);obtain⟨l3,t,hv,ht⟩:=hR;rw[hv];have yp:=hle.trans l3;cbv;cases t with
       |true=>
        cbv;refine⟨n1-(i+1),_,by omega,⟨?_,?_,?_⟩,i+1,hz.succ (A:=A) (by omega),rfl,by omega,yp,?_⟩
        ·cbv
        ·cbv
        ·cbv
        ·intro j hj y hy;rcases Nat.lt_or_ge j i with ji|ji
         ·exact aJ j ji y hy
         ·have:j=i:=by omega
          subst this;rw[hx]at hy;cases hy;exact ht.symm
       |false=>
        have Hw:mR d.aB nm=i:=AJ aJ (by omega) (fun _=>⟨x,hx,ht.symm⟩);have qa:=q.mono yp;have Lf:A .qI z 0=i:=dI (A:=A) hz;obtain⟨hcb1,hcb2⟩:=vp;have nf:0<=z/\z<=(c1:Int):=by have:=hz.eq;omega
        have DW:0<=z/\z<=(n1:Int):=by have:=hz.eq;omega
        have ES:i<=n1:=hi;cbv;intro n6 h6 g6 e6;have l6:Le h3 h6:=by rw[e6];exact Le.set g6
        have q6:=qa.mono l6;cbv;refine⟨nf,?_⟩;cbv;have D3:cS 156 cJ h3 h6 (.slice (some ⟨n6,0,none⟩) 0 0) ([]:List cA):=cS.nil;refine D3.append (q6.aB.vK (A:=A) (s:=cJ) (z:=A .nat c1) ES Lf Lf) (by decide) rfl (by decide) (by rw[Lf];omega) l6 (fun m7 b7 c7 h7 em7 l7 t7 k7 Cw=>?_);cbv;intro n8 h8 g8 e8;have l8:Le h7 h8:=by rw[e8];exact Le.set g8
        have f8:=(congrFun e8 n8).trans ah;have r8:cJ.R h8 [.string nm,.slice sb sn sc,.int .i64 key,.bool only,.slice none 0 0] ⟨⟨nm,cols,key,only⟩,[]⟩:=⟨_,_,_,_,_,_,rfl,qs.mono ((yp.trans (l7.trans l8)).t _),Sl.nil⟩;have v8:=bX (s:=cJ) f8 r8;cbv;refine(Cw.mono (l8.t _)).append v8 (by decide) rfl (by decide) (by omega) (l7.trans l8) (fun m9 b9 c9 h9 em9 l9 t9 k9 Ll=>?_);have q9:=qa.mono l9;have Lh:=dZ (A:=A) hz (n:=n1);cbv;refine⟨DW,?_⟩;cbv;refine Ll.append (q9.aB.rK (A:=A) (s:=cJ) hz ES Lh (c':=c1-i) rfl) (by decide) rfl (by decide) (by rw[Lh];omega) l9 (fun RA fJ fI lz QV lS t10 Pc xS=>?_);have Hs:=xS.sl;rw[List.nil_append]at Hs;rw[Hw]at hD;have Ja:=qa.mono lS;have hL:=yp.trans lS;have ae:=hk lz fJ RA fI b2 n2 c2 b3 n3 c3 b4 n4 c4 hL (by rw[<-hD];exact⟨Hs,Ja.aq,Ja.holds,Ja.waits⟩);rw[<-hD]at ae;cbv;exact ae
      ·rw[decide_eq_false (by omega)];have Hw:mR d.aB nm=i:=AJ aJ (by omega) (fun h=>by omega);have qa:=q.mono hle;have Lf:A .qI z 0=i:=dI (A:=A) hz;obtain⟨hcb1,hcb2⟩:=vp;have nf:0<=z/\z<=(c1:Int):=by have:=hz.eq;omega
       have DW:0<=z/\z<=(n1:Int):=by have:=hz.eq;omega
       have ES:i<=n1:=hi;cbv;intro n6 h6 g6 e6;have l6:Le h' h6:=by rw[e6];exact Le.set g6
       have q6:=qa.mono l6;cbv;refine⟨nf,?_⟩;cbv;have D3:cS 156 cJ h' h6 (.slice (some ⟨n6,0,none⟩) 0 0) ([]:List cA):=cS.nil;refine D3.append (q6.aB.vK (A:=A) (s:=cJ) (z:=A .nat c1) ES Lf Lf) (by decide) rfl (by decide) (by rw[Lf];omega) l6 (fun m7 b7 c7 h7 em7 l7 t7 k7 Cw=>?_);cbv;intro n8 h8 g8 e8;have l8:Le h7 h8:=by rw[e8];exact Le.set g8
       have f8:=(congrFun e8 n8).trans ah;have r8:cJ.R h8 [.string nm,.slice sb sn sc,.int .i64 key,.bool only,.slice none 0 0] ⟨⟨nm,cols,key,only⟩,[]⟩:=⟨_,_,_,_,_,_,rfl,qs.mono ((hle.trans (l7.trans l8)).t _),Sl.nil⟩;have v8:=bX (s:=cJ) f8 r8;cbv;refine(Cw.mono (l8.t _)).append v8 (by decide) rfl (by decide) (by omega) (l7.trans l8) (fun m9 b9 c9 h9 em9 l9 t9 k9 Ll=>?_);have q9:=qa.mono l9;have Lh:=dZ (A:=A) hz (n:=n1);cbv;refine⟨DW,?_⟩;cbv;refine Ll.append (q9.aB.rK (A:=A) (s:=cJ) hz ES Lh (c':=c1-i) rfl) (by decide) rfl (by decide) (by rw[Lh];omega) l9 (fun RA fJ fI lz QV lS t10 Pc xS=>?_);have Hs:=xS.sl;rw[List.nil_append]at Hs;rw[Hw]at hD;have Ja:=qa.mono lS;have hL:=hle.trans lS;have ae:=hk lz fJ RA fI b2 n2 c2 b3 n3 c3 b4 n4 c4 hL (by rw[<-hD];exact⟨Hs,Ja.aq,Ja.holds,Ja.waits⟩);rw[<-hD]at ae;cbv;exact ae
def jk:Nat->DB
 |0=>⟨[],[],[],[]⟩
 |i+1=>(qk (jk i) (bN i)).1
def iI:Nat->DB
 |0=>⟨[],[],[],[]⟩
 |i+1=>(lp (iI i) (bN i)).1
def cI(i:Nat):cA:=⟨bN i,[]⟩
def dY:DB:=⟨[cI 0,cI 1,cI 2],[],[],[]⟩
theorem JW:jk 1=⟨[cI 0],[],[],[]⟩:=by cbv
theorem JV:jk 2=⟨[cI 0,cI 1],[],[],[]⟩:=by cbv
theorem BW:jk 3=dY:=by cbv
theorem JU:iI 1=⟨[cI 0],[],[],[]⟩:=by cbv
theorem JT:iI 2=⟨[cI 0,cI 1],[],[],[]⟩:=by cbv
theorem BV:iI 3=dY:=by cbv
theorem xg:∀i,i<=3->Small (jk i)
 |0,_=>⟨by decide,by decide,by simp[jk],by decide,by decide⟩
 |1,_=>by rw[JW];exact⟨by simp,by simp,by simp[cI],by simp,by simp⟩
 |2,_=>by rw[JV];exact⟨by simp,by simp,by simp[cI],by simp,by simp⟩
 |3,_=>by rw[BW];exact⟨by simp[dY],by simp[dY],by simp[dY,cI],by simp[dY],by simp[dY]⟩
 |n+4,h=>by omega
theorem jK:∀i,i<3->(cI i).S.name.size<=2^60
 |0,_=>by decide
 |1,_=>by decide
 |2,_=>by decide
 |n+3,h=>by omega
theorem po:∀i,i<=3->(iI i).aB.length<=2^37/\∀t∈(iI i).aB,t.S.name.size<=2^60
 |0,_=>by simp[iI]
 |1,_=>by rw[JU];simp[jK 0]
 |2,_=>by rw[JT];simp[jK 0,jK 1]
 |3,_=>by rw[BV];simp[dY,jK 0,jK 1,jK 2]
 |n+4,h=>by omega
structure NX where
 b1:Option Addr
 n1:Nat
 c1:Nat
 b2:Option Addr
 n2:Nat
 c2:Nat
 b3:Option Addr
 n3:Nat
 c3:Nat
 b4:Option Addr
 n4:Nat
 c4:Nat
theorem BX{h:ad}{k:Value->ad->Prop}(hk:∀h' b1 n1 c1 b2 n2 c2 b3 n3 c3 b4 n4 c4 d1 m1 e1 d2 m2 e2 d3 m3 e3 d4 m4 e4,Le h h'->
 gA h' (.agg #[.slice b1 n1 c1,.slice b2 n2 c2,.slice b3 n3 c3,.slice b4 n4 c4]) dY->RP h' d1 m1 e1 d2 m2 e2 d3 m3 e3 d4 m4 e4 dY->
 k (.tuple #[.agg #[.slice b1 n1 c1,.slice b2 n2 c2,.slice b3 n3 c3,.slice b4 n4 c4],.agg #[.slice d1 m1 e1,.slice d2 m2 e2,.slice d3 m3 e3,.slice d4 m4 e4]]) h'):
 Ct 24 [] h k:=by
 obtain⟨A,hA⟩:=Ar.ex;refine af A (ar T24.aw T24.aZ) Tryz.func24 rfl (by kernel_rfl) ?_;cbv;refine aX.go (G:=Int×NX×NX) (fun g=>[(4,.v (.int .i64 g.1))]) (fun g=>[(0,[.slice none 0 0,.slice none 0 0,.slice none 0 0,.slice none 0 0]),(1,[.slice none 0 0,.slice none 0 0,.slice none 0 0,.slice none 0 0]),(2,[.slice g.2.1.b1 g.2.1.n1 g.2.1.c1,.slice g.2.1.b2 g.2.1.n2 g.2.1.c2,.slice g.2.1.b3 g.2.1.n3 g.2.1.c3,.slice g.2.1.b4 g.2.1.n4 g.2.1.c4]),(3,[.slice g.2.2.b1 g.2.2.n1 g.2.2.c1,.slice g.2.2.b2 g.2.2.n2 g.2.2.c2,.slice g.2.2.b3 g.2.2.n3 g.2.2.c3,.slice g.2.2.b4 g.2.2.n4 g.2.2.c4])])
  (fun m g h'=>∃i,aO g.1 i/\m=3-i/\i<=3/\Le h h'/\gA h' (.agg #[.slice g.2.1.b1 g.2.1.n1 g.2.1.c1,.slice g.2.1.b2 g.2.1.n2 g.2.1.c2,.slice g.2.1.b3 g.2.1.n3 g.2.1.c3,.slice g.2.1.b4 g.2.1.n4 g.2.1.c4]) (jk i)/\RP h' g.2.2.b1 g.2.2.n1 g.2.2.c1 g.2.2.b2 g.2.2.n2 g.2.2.c2 g.2.2.b3 g.2.2.n3 g.2.2.c3 g.2.2.b4 g.2.2.n4 g.2.2.c4 (iI i)) 3
  (0,⟨none,0,0,none,0,0,none,0,0,none,0,0⟩,⟨none,0,0,none,0,0,none,0,0,none,0,0⟩) ⟨?_,?_,?_⟩ ⟨0,⟨rfl⟩,by omega,by omega,Le.refl _,rdb0 h,⟨Sl.nil,Sl.nil,Sl.nil,Sl.nil⟩⟩ ?_
 ·cbv
 ·cbv
 ·cbv
 ·intro m g h' hI;cbv;obtain⟨i,hz,hm,hi3,hle,qD,qR⟩:=hI;obtain⟨z,⟨b1,n1,c1,b2,n2,c2,b3,n3,c3,b4,n4,c4⟩,⟨d1,m1,e1,d2,m2,e2,d3,m3,e3,d4,m4,e4⟩⟩:=g;have hz:aO z i:=hz;have qD:gA h' (.agg #[.slice b1 n1 c1,.slice b2 n2 c2,.slice b3 n3 c3,.slice b4 n4 c4]) (jk i):=qD;have qR:RP h' d1 m1 e1 d2 m2 e2 d3 m3 e3 d4 m4 e4 (iI i):=qR;refine aL (fun hc=>?_) (fun hc=>?_)
  ·have aG:i<3:=by rw[bt A,decide_eq_true_eq]at hc;have hc:z<3:=hc;have:=hz.eq;omega
   clear hc;cbv;refine BY hz aG h' (fun h2 sb sn sc nm o l2 Av ho qs=>?_);obtain⟨D,hDD⟩:∃D,D=qk (jk i) (bN i):=⟨_,rfl⟩;have hD:qk (jk i) ⟨nm,bl,0,o⟩=D:=by rw[Av,ho,hDD];rfl
   have YR:D.1=jk (i+1):=by rw[hDD];rfl
   clear hDD;obtain⟨R,hRR⟩:∃R,R=lp (iI i) (bN i):=⟨_,rfl⟩;have hR1:R.1=iI (i+1):=by rw[hRR];rfl
   obtain⟨T,hT⟩:∃T,T=jk (i+1):=⟨_,rfl⟩;obtain⟨U,hU⟩:∃U,U=iI (i+1):=⟨_,rfl⟩;rw[<-hT]at YR;rw[<-hU]at hR1;cbv;refine En (qD.mono l2) (nm:=nm) (key:=0) (only:=o) qs (xg i hi3) hD (fun h3 f1 p1 g1 f2 p2 g2 f3 p3 g3 f4 p4 g4 l3 qD3=>?_);cbv;refine BY hz aG h3 (fun h4 sb4 sn4 sc4 nm4 o4 l4 hnm4 ho4 qs4=>?_);have hR:lp (iI i) ⟨nm4,bl,0,o4⟩=R:=by rw[hnm4,ho4,hRR];rfl
   have mZ:=(l2.trans l3).trans l4;cbv;refine Dw (qR.mono mZ) (nm:=nm4) (key:=0) (only:=o4) qs4 (po i hi3).1 (po i hi3).2 hR (fun h5 r1 s1 t1 r2 s2 t2 r3 s3 t3 r4 s4 t4 l5 qR5=>?_);cbv;refine⟨3-(i+1),(_,⟨f1,p1,g1,f2,p2,g2,f3,p3,g3,f4,p4,g4⟩,⟨r1,s1,t1,r2,s2,t2,r3,s3,t3,r4,s4,t4⟩),by omega,⟨?_,?_,?_⟩,i+1,hz.succ (A:=A) (by omega),rfl,by omega,hle.trans (mZ.trans l5),by rw[<-hT,<-YR];exact qD3.mono (l4.trans l5),by rw[<-hU,<-hR1];exact qR5⟩
   ·cbv
   ·cbv
   ·cbv
  ·have iu:i=3:=by rw[bt A,decide_eq_false_iff_not]at hc;have hc:¬z<3:=hc;have:=hz.eq;omega
   clear hc;subst iu;rw[BW]at qD;rw[BV]at qR;have ae:=hk _ _ _ _ _ _ _ _ _ _ _ _ _ _ _ _ _ _ _ _ _ _ _ _ _ hle qD qR;cbv;refine⟨⟨_,rfl,rfl⟩,?_⟩;cbv;exact ae
def oy:ByteArray:=⟨#[]⟩
def QG(i:Nat)(a:Int):Int:=(a.tdiv (1+3*(i:Int))) % 40-5
def QH:ByteArray:=⟨#[97,98,99,100,101,102,103,104,105,106,107,108,109,110,111,112,113,114,115,116,117,118,119,120,121,122]⟩
def fitV(c:bS)(i:Nat)(a:Int):cR:=
 if c.null=true/\a % 5=0 then⟨0,0,oy⟩else if c.kind=1 then⟨c.kind,QG i a % 2,oy⟩else if c.kind=2 then⟨c.kind,QG i a,oy⟩else if c.kind=3 then⟨c.kind,0,QH.extract 0 (QG i a % 9).toNat⟩else⟨c.kind,0,oy⟩
def fitL(cols:List bS)(a:Int)(m:Nat):List cR:=(List.range m).map fun i=>fitV (cols.getD i ⟨oy,0,false⟩) i a
end Go.S
