import Derived.Test.YtekoaiendgjkdaaGreatEB
import Derived.Test.YtekoaiendgjkdaaGreatRd
set_option linter.unusedVariables false
set_option linter.unusedSimpArgs false
set_option linter.unusedSectionVars false
set_option maxRecDepth 100000
set_option maxHeartbeats 8000000
namespace Go.S
open Go.Sx Go.Proofs
def cA(W:List dO)(s:Int):List Int:=W.map fun x=>IntKind.i64.wrap (x.s-s)
def Dv(d:DB)(hd:bZ):Bool:=lK (cA d.au hd.s)&&lK (aR d.aE hd.table)
def vN(d:DB)(hd:bZ):DB×Int:=
 if Dv d hd=true then(⟨d.aE,d.au,cd d.holds hd,cV d.holds d.waits hd⟩,if bF d.holds hd=true then 0 else 16)else(d,2)
def Calm(d:DB)(hd:bZ):Prop:=bF d.holds hd=false->(dt (cI (cd d.holds hd) (cV d.holds d.waits hd)) hd.s).2=false
def FN(d:DB)(hd:bZ)(act:cE->cE×iX×Int):DB×Int:=
 if decide ((vN d hd).2≠0)=true then vN d hd
 else match d.aE[dr (aR d.aE hd.table)]?,d.au[dr (cA d.au hd.s)]? with
  |some t,some w=>
   if decide ((act t).2.2≠19)&&decide ((w.log.length:Int)>=60)then((vN d hd).1,4)
   else if decide ((act t).2.2=0)=true then
    (⟨d.aE.set (dr (aR d.aE hd.table)) (act t).1,d.au.set (dr (cA d.au hd.s)) ⟨w.s,w.log++[⟨hd.table,(act t).2.1.op,(act t).2.1.row⟩],w.marks⟩,(vN d hd).1.holds,(vN d hd).1.waits⟩,0)
   else((vN d hd).1,(act t).2.2)
  |_,_=>vN d hd
structure Small(d:DB):Prop where
 aE:d.aE.length<=2^37
 au:d.au.length<=2^37
 rows:∀t∈d.aE,t.rows.length<=2^37
 holds:d.holds.length<2^18
 waits:d.waits.length<2^18
def Yo(d:DB)(s:Int)(name:ByteArray)(r:Row):DB×Int:=FN d ⟨s,name,true⟩ (cJ r)
def takeD(d:DB)(s:Int)(name:ByteArray)(k:dg):DB×Int:=FN d ⟨s,name,true⟩ (LG k)
def rW(d:DB)(s:AU):DB×Int:=jE d s (dr (aR d.aE s.name)) (lK (aR d.aE s.name))
def ey(d:DB)(s:Int):DB×Int:=ij d s (dr (cA d.au s)) (lK (cA d.au s))
abbrev W4(h:ad)(d':DB)(e:Int)(k:Value->ad->Prop):Prop:=
 ∀h' b1 n1 c1 b2 n2 c2 b3 n3 c3 b4 n4 c4,Le h h'->gj h' (.agg #[.slice b1 n1 c1,.slice b2 n2 c2,.slice b3 n3 c3,.slice b4 n4 c4]) d'->k (.tuple #[.agg #[.slice b1 n1 c1,.slice b2 n2 c2,.slice b3 n3 c3,.slice b4 n4 c4],.int .i64 e]) h'
theorem Fe{z:Int}{i j:Nat}(a:aS z i)(b:aS z j):i=j:=by have:=a.eq;have:=b.eq;omega
theorem HJ{d:DB}{h:ad}{v:Value}(q:gj h v d){nm:ByteArray}{cols:List bT}{key:Int}{only:Bool}{sb:Option Addr}{sn sc:Nat}(qs:Sl 165 bt h (.slice sb sn sc) cols)(sm:Small d){D:DB×Int}(hD:rW d ⟨nm,cols,key,only⟩=D)
 {k:Value->ad->Prop} (hk:W4 h D.1 D.2 k):Ct 45 [v,.agg #[.string nm,.slice sb sn sc,.int .i64 key,.bool only]] h k:=
 (LP q qs sm.aE sm.au).mono (fun v h' hR=>by
  obtain⟨v1,e,z,i,is,hv,l,hd,he,hz,hb⟩:=hR;obtain⟨h1,h2⟩:=hb.at_;have hi:=Fe hz h1;have hR2:jE d ⟨nm,cols,key,only⟩ i is=D:=by rw[<-hD,hi,h2];rfl
  rw[hR2]at hd he;obtain⟨b1,n1,c1,b2,n2,c2,b3,n3,c3,b4,n4,c4,hf⟩:=hd.form;rw[hv,hf,he];exact hk h' _ _ _ _ _ _ _ _ _ _ _ _ l (by rw[<-hf];exact hd))
theorem oV{d:DB}{h:ad}{v:Value}(q:gj h v d)(s:Int)(sm:Small d){D:DB×Int}(hD:ey d s=D){k:Value->ad->Prop}(hk:W4 h D.1 D.2 k):Ct 25 [v,.int .i64 s] h k:=
 (P7 q s sm.au).mono (fun v h' hR=>by
  obtain⟨v1,e,z,i,is,hv,l,hd,he,hz,hb⟩:=hR;obtain⟨h1,h2⟩:=hb.at_;have hi:=Fe hz h1;have hR2:ij d s i is=D:=by rw[<-hD,hi,h2];rfl
  rw[hR2]at hd he;obtain⟨b1,n1,c1,b2,n2,c2,b3,n3,c3,b4,n4,c4,hf⟩:=hd.form;rw[hv,hf,he];exact hk h' _ _ _ _ _ _ _ _ _ _ _ _ l (by rw[<-hf];exact hd))
def db0:DB:=⟨[],[],[],[]⟩
def nX:ByteArray:=⟨#[120]⟩
def nA:ByteArray:=⟨#[97]⟩
def kS:AU:=⟨nX,[⟨nA,2,false⟩],0,false⟩
def kd1:DB:=(rW db0 kS).1
def kd2:DB:=(ey kd1 1).1
def kd3:DB:=(ey kd2 2).1
def kd4:DB:=(Yo kd3 1 nX [⟨2,5,jX⟩]).1
def kd5:DB:=(Yo kd4 2 nX [⟨2,6,jX⟩]).1
def smallB(d:DB):Bool:=decide (d.aE.length<=1000)&&decide (d.au.length<=1000)&&d.aE.all (fun t=>decide (t.rows.length<=1000))&&decide (d.holds.length<=1000)&&decide (d.waits.length<=1000)
def calmB(d:DB)(hd:bZ):Bool:=bF d.holds hd|| !(dt (cI (cd d.holds hd) (cV d.holds d.waits hd)) hd.s).2
theorem rdb0(h:ad):gj h (.agg #[.slice none 0 0,.slice none 0 0,.slice none 0 0,.slice none 0 0]) db0:=
 ⟨_,_,_,_,_,_,_,_,_,_,_,_,[],rfl,Sl.nil,Sl.nil,Sl.nil,Sl.nil,rfl⟩
def zB:List ByteArray:=[⟨#[116,97]⟩,⟨#[116,98]⟩,⟨#[116,99]⟩]
def bB:List bT:=[⟨nA,2,false⟩,⟨⟨#[98]⟩,3,true⟩]
def aT(t:Nat):AU:=⟨(zB[t]?).getD jX,bB,0,decide (t=2)⟩
theorem EO{z:Int}{t:Nat}(hz:aS z t)(ht:t<3)(h:ad){k:Value->ad->Prop}
 (hk:∀h' b n c nm o,Le h h'->nm=(aT t).name->o=(aT t).only->Sl 165 bt h' (.slice b n c) bB->k (.agg #[.string nm,.slice b n c,.int .i64 0,.bool o]) h'):Ct 46 [.int .i64 z] h k:=by
 obtain⟨A,hA⟩:=Ar.ex;obtain⟨x,hx⟩:=aI (xs:=zB) (i:=t) ht;have KF:x=(aT t).name:=by unfold aT;rw[hx];rfl
 have he:A .aG .eql z 2=decide (t=2):=by rw[aw A,decide_eq_decide];have:=hz.eq;omega
 have cU:(0:Int)<=z/\z<((3:Nat):Int):=hz.ix ht;refine ah A (ar T46.aA T46.bm) Tryz.func46 rfl (by kernel_rfl) ?_;cbv;intro n1 h1 ma e1;have l1:Le h h1:=by rw[e1];exact Le.set ma
 have g1:=(congrFun e1 n1).trans af;have s1:Sl 165 bt h1 (.slice (some ⟨n1,0,none⟩) 2 2) bB:=by
  refine Sl.fresh (xs:=bB) g1 ⟨by simp[bB,bt],fun j y hj=>?_⟩ (by simp[bB]) (by simp[bB])
  match j,hj with
  |0,hj=>simp[bB]at hj;subst hj;rfl
  |1,hj=>simp[bB]at hj;subst hj;rfl
  |j+2,hj=>simp[bB]at hj
 cbv;intro n2 h2 nN e2;have l2:Le h1 h2:=by rw[e2];exact Le.set nN
 have g2:=(congrFun e2 n2).trans af;have s2:Sl 9 cB h2 (.slice (some ⟨n2,0,none⟩) 3 3) zB:=uT (s:=cB) rfl g2 (x:=⟨#[116,97]⟩) (y:=⟨#[116,98]⟩) (w:=⟨#[116,99]⟩) rfl rfl rfl;cbv;refine⟨⟨rfl,cU⟩,?_⟩;cbv;refine s2.load hx hz.eq (fun cs aC=>?_);have aC:cs=[.string x]:=aC;subst aC;have ae:=hk h2 _ _ _ x (decide (t=2)) (l1.trans l2) KF rfl (s1.mono (l2.t _));cbv;rw[he];exact ae
theorem Oq(h:ad):Ct 226 [] h (fun v h'=>Le h h'/\∃nb,v=.slice (some ⟨nb,0,none⟩) 41 41/\Sl 9 cB h' v eZ):=by
 obtain⟨A,hA⟩:=Ar.ex;refine ah A (ar T226.aA T226.bm) Tryz.func226 rfl (by kernel_rfl) ?_;cbv;intro n h1 hn e1;have g:h1 n=some (.cells (List.toArray (eZ.map Value.string)) 9 (0,0)):=by rw[e1];exact af
 have hr:Sx.Rows cB h1 (eZ.map Value.string) 0 eZ:=by refine⟨by decide,fun i x hx=>?_⟩;have aK:=(List.getElem?_eq_some_iff.1 hx).1;show List.take 1 (List.drop (0+i*1) _)=_;rw[Nat.zero_add,Nat.mul_one,List.drop_eq_getElem_cons (by simpa using aK)];rw[List.getElem?_eq_some_iff]at hx;simp[hx.2]
 have hs:Sl 9 cB h1 (.slice (some ⟨n,0,none⟩) 41 41) eZ:=Sl.fresh (xs:=eZ) g hr (by decide) (by decide);have hl:Le h h1:=by rw[e1];exact Le.set hn
 clear g hr e1;cbv;exact⟨hl,n,rfl,hs⟩
theorem zL{h:ad}{s:ByteArray}:Ct 133 [.string s] h (fun v h'=>Le h h'/\∃t,v=.bool t/\t=ao s):=by
 obtain⟨A,hA⟩:=Ar.ex;refine ah A (ar T133.aA T133.bm) Tryz.func133 rfl (by kernel_rfl) ?_;have hn:A .iq s=(s.size:Int):=by rw[hA.iq]
 have rE:aS (A .iq s) s.size:=⟨hn⟩;have pE:∀z i,aS z i->A .byte s z=fW s i:=fun z i hz=>by
  rw[hA.byte];simp only[fW];rw[hz.eq];rfl
 generalize e1:A .aG .lss (A .iq s) 1=t1;generalize e2:A .aG .gtr (A .iq s) 12=t2;generalize e3:A .aG .lss (A .byte s 0) 97=t3;generalize e4:A .aG .gtr (A .byte s 0) 122=t4;have uu:t2=false->s.size<=12:=fun e=>by
  rw[e,hA.aG,hn]at e2;have:=of_decide_eq_false e2;omega
 have hf:tF s= !(t1||t2||t3||t4):=by rw[<-e1,<-e2,<-e3,<-e4,pE 0 0 ⟨rfl⟩,hn,hA.aG];rfl
 have h1s:t1=false->(0:Int)<=0/\0<(s.size:Int):=fun e=>by
  rw[e,hA.aG,hn]at e1;have:=of_decide_eq_false e1;omega
 have vC:∀(t:Bool) (b:Bool),t=false->tF s=false->t=ao s:=fun t b ht hq=>by rw[ht,ao,hq];rfl
 have DT:∀(t:Bool),t=true->t=t:=fun _ _=>rfl;cbv;rw[e1];cases t1 with
 |true=>cbv;exact⟨Le.refl _,false,rfl,vC _ true rfl hf⟩
 |false=>
  have h1:=h1s rfl;cbv;rw[e2];cases t2 with
  |true=>cbv;exact⟨Le.refl _,false,rfl,vC _ true rfl hf⟩
  |false=>
   cbv;refine⟨h1,?_⟩;cbv;rw[e3];cases t3 with
   |true=>cbv;exact⟨Le.refl _,false,rfl,vC _ true rfl hf⟩
   |false=>
    cbv;refine⟨h1,?_⟩;cbv;rw[e4];cases t4 with
    |true=>cbv;exact⟨Le.refl _,false,rfl,vC _ true rfl hf⟩
    |false=>
     cbv;have ZP:tF s=true:=hf;have uu:=uu rfl;clear hf e1 e2 e3 e4 h1s vC DT;refine aX.go (G:=Int) (fun z=>[(3,.v (.int .i64 z))]) (fun _=>[]) (fun n z h'=>∃i:Nat,aS z i/\n=s.size-i/\i<=s.size/\h'=h/\∀j,j<i->vA (fW s j)=true) s.size 0 ⟨?_,?_,?_⟩ ⟨0,⟨rfl⟩,rfl,by omega,rfl,fun j hj=>(by omega)⟩ ?_
     ·cbv
     ·cbv
     ·cbv
     ·intro n z h' hI;cbv;obtain⟨i,hz,Hh,hi,rfl,aO⟩:=hI;refine aQ (fun hc=>?_) (fun hc=>?_)
      ·rw[hz.gy (A:=A) rE]at hc;have aK:=of_decide_eq_true hc;clear hc;cbv;refine⟨hz.ix aK,?_⟩;cbv;rw[pE z i hz];generalize hw:fW s i=w;generalize e1:A .aG .lss w 97=t1;generalize e2:A .aG .gtr w 122=t2;generalize e3:A .aG .lss w 48=t3;generalize e4:A .aG .gtr w 57=t4;generalize e5:A .aG .neq w 95=t5;have jC:vA w= !((t1||t2)&&(t3||t4)&&t5):=by rw[<-e1,<-e2,<-e3,<-e4,<-e5,hA.aG];rfl
       have bad:vA w=false->ao s=false:=fun e=>by
        have:re s=false:=by unfold re;rw[List.all_eq_false];exact⟨i,by simp[aK],by rw[hw,e];simp⟩
        rw[ao,this];simp
       have kX:vA w=true->∀j,j<i+1->vA (fW s j)=true:=fun e j hj=>by
        rcases Nat.lt_or_ge j i with h|h
        ·exact aO j h
        ·have:j=i:=by omega
         rw[this,hw,e]
       cbv;cases t1 with
       |true=>
        cbv;rw[e3];cases t3 with
        |true=>
         cbv;rw[e5];cases t5 with
         |true=>cbv;exact⟨Le.refl _,false,rfl,(bad (by rw[jC];rfl)).symm⟩
         |false=>cbv;exact⟨s.size-(i+1),_,by omega,⟨by cbv,by cbv,by cbv⟩,i+1,hz.succ (A:=A) (by omega),rfl,by omega,rfl,kX (by rw[jC];rfl)⟩
        |false=>
         cbv;rw[e4];cases t4 with
         |true=>
          cbv;rw[e5];cases t5 with
          |true=>cbv;exact⟨Le.refl _,false,rfl,(bad (by rw[jC];rfl)).symm⟩
          |false=>cbv;exact⟨s.size-(i+1),_,by omega,⟨by cbv,by cbv,by cbv⟩,i+1,hz.succ (A:=A) (by omega),rfl,by omega,rfl,kX (by rw[jC];rfl)⟩
         |false=>cbv;exact⟨s.size-(i+1),_,by omega,⟨by cbv,by cbv,by cbv⟩,i+1,hz.succ (A:=A) (by omega),rfl,by omega,rfl,kX (by rw[jC];rfl)⟩
       |false=>
        cbv;rw[e2];cases t2 with
        |true=>
         cbv;rw[e3];cases t3 with
         |true=>
          cbv;rw[e5];cases t5 with
          |true=>cbv;exact⟨Le.refl _,false,rfl,(bad (by rw[jC];rfl)).symm⟩
          |false=>cbv;exact⟨s.size-(i+1),_,by omega,⟨by cbv,by cbv,by cbv⟩,i+1,hz.succ (A:=A) (by omega),rfl,by omega,rfl,kX (by rw[jC];rfl)⟩
         |false=>
          cbv;rw[e4];cases t4 with
          |true=>
           cbv;rw[e5];cases t5 with
           |true=>cbv;exact⟨Le.refl _,false,rfl,(bad (by rw[jC];rfl)).symm⟩
           |false=>cbv;exact⟨s.size-(i+1),_,by omega,⟨by cbv,by cbv,by cbv⟩,i+1,hz.succ (A:=A) (by omega),rfl,by omega,rfl,kX (by rw[jC];rfl)⟩
          |false=>cbv;exact⟨s.size-(i+1),_,by omega,⟨by cbv,by cbv,by cbv⟩,i+1,hz.succ (A:=A) (by omega),rfl,by omega,rfl,kX (by rw[jC];rfl)⟩
        |false=>cbv;exact⟨s.size-(i+1),_,by omega,⟨by cbv,by cbv,by cbv⟩,i+1,hz.succ (A:=A) (by omega),rfl,by omega,rfl,kX (by rw[jC];rfl)⟩
      ·rw[hz.gy (A:=A) rE]at hc;have iR:=of_decide_eq_false hc;cbv;have Li:re s=true:=by unfold re;rw[List.all_eq_true];intro j hj;rw[List.mem_range]at hj;exact aO j (by omega)
       refine(Oq h').mono (fun v h2 hR=>?_);obtain⟨l2,nb,rfl,ql⟩:=hR;cbv;refine aX.go (G:=Int) (fun z=>[(6,.v (.int .i64 z))]) (fun _=>[]) (fun n z h3=>∃i:Nat,aS z i/\n=41-i/\i<=41/\h3=h2/\∀j,j<i->∀y,eZ[j]? =some y->y≠s) 41 0 ⟨?_,?_,?_⟩ ⟨0,⟨rfl⟩,by omega,by omega,rfl,fun j hj=>(by omega)⟩ ?_
       ·cbv
       ·cbv
       ·cbv
       ·intro n2 z2 h3 di;cbv;obtain⟨i2,fN,nN,hi2,rfl,Rx⟩:=di;refine aQ (fun hc=>?_) (fun hc=>?_)
        ·have gQ:=fN.lt hc;clear hc;cbv;obtain⟨x,hx⟩:=aI (xs:=eZ) (i:=i2) gQ;refine⟨⟨rfl,fN.ix gQ⟩,?_⟩;cbv;refine ql.load hx fN.eq (fun cs aC=>?_);have aC:cs=[.string x]:=aC;subst aC;cbv;rw[bR A];by_cases uK:x=s
         ·rw[decide_eq_true uK];have eW:ng s=true:=nf.2 (by rw[<-uK];exact List.mem_of_getElem? hx);cbv;exact⟨l2,false,rfl,by rw[ao,eW];simp⟩
         ·rw[decide_eq_false uK];cbv;refine⟨41-(i2+1),_,by omega,⟨?_,?_,?_⟩,i2+1,fN.succ (A:=A) (by omega),rfl,by omega,rfl,?_⟩
          ·cbv
          ·cbv
          ·cbv
          ·intro j hj y hy;rcases Nat.lt_or_ge j i2 with h|h
           ·exact Rx j h y hy
           ·have:j=i2:=by omega
            subst this;rw[hx]at hy;cases hy;exact uK
        ·have hge2:=fN.ge hc;have eW:ng s=false:=by
          cases hi:ng s with
          |false=>rfl
          |true=>have hm:=nf.1 hi;obtain⟨j,hj⟩:=List.getElem?_of_mem hm;have sw:j<41:=(List.getElem?_eq_some_iff.1 hj).1;exact absurd rfl (Rx j (by omega) s hj)
         cbv;exact⟨l2,true,rfl,by rw[ao,ZP,Li,eW];rfl⟩
theorem PC{cols:List bT}{h:ad}{b:Option Addr}{n c:Nat}(q:Sl 165 bt h (.slice b n c) cols){nm s:ByteArray}{k:Int}{only:Bool}:
 Ct 57 [.agg #[.string nm,.slice b n c,.int .i64 k,.bool only],.string s] h (fun v h'=>Le h h'/\∃z t z',v=.tuple #[.int .i64 z,.bool t]/\pG cols (fun x=>decide (x.name=s)) z'/\z=max z' 0/\t=decide (z'>=0)):=by
 obtain⟨A,hA⟩:=Ar.ex;have hlen:=q.len;obtain⟨ll,jS⟩:=q.bound;refine ah A (ar T57.aA T57.bm) Tryz.func57 rfl (by kernel_rfl) ?_;cbv;refine aX.go (G:=Int) (fun z=>[(6,.v (.int .i64 z))]) (fun _=>[(2,[.string nm,.slice b n c,.int .i64 k,.bool only])]) (fun m z h'=>∃i:Nat,aS z i/\m=n-i/\i<=n/\h'=h/\∀j,j<i->∀y,cols[j]? =some y->decide (y.name=s)=false) n 0 ⟨?_,?_,?_⟩ ⟨0,⟨rfl⟩,by omega,by omega,rfl,fun j hj=>(by omega)⟩ ?_
 ·cbv
 ·cbv
 ·cbv
 ·intro m z h' hI;cbv;obtain⟨i,hz,hm,hi,rfl,aO⟩:=hI;refine aQ (fun hc=>?_) (fun hc=>?_)
  ·have aK:=hz.lt hc;clear hc;cbv;obtain⟨x,hx⟩:=aI (xs:=cols) (i:=i) (by omega);refine⟨⟨q.bu (by omega),hz.ix aK⟩,?_⟩;cbv;refine q.eE hx hz.eq (o:=0) (m:=1) (by decide) (fun cs aC=>?_);have aC:cs=[.string x.name,.int .i64 x.kind,.bool x.null]:=aC;subst aC;cbv;rw[bR A];by_cases uK:x.name=s
   ·rw[decide_eq_true uK];have hR:pG cols (fun x=>decide (x.name=s)) z:=⟨.inr ⟨i,x,hz,hx,by simpa using uK,aO⟩⟩;have BJ:=hz.eq;have e1:z=max z 0:=by omega
    have e2:true=decide (z>=0):=by rw[decide_eq_true (by omega)]
    cbv;exact⟨Le.refl _,z,true,z,rfl,hR,e1,e2⟩
   ·rw[decide_eq_false uK];cbv;refine⟨n-(i+1),_,by omega,⟨?_,?_,?_⟩,i+1,hz.succ (A:=A) (by omega),rfl,by omega,rfl,?_⟩
    ·cbv
    ·cbv
    ·cbv
    ·intro j hj y hy;rcases Nat.lt_or_ge j i with jQ|jQ
     ·exact aO j jQ y hy
     ·have:j=i:=by omega
      subst this;rw[hx]at hy;cases hy;exact decide_eq_false uK
  ·have iR:=hz.ge hc;have hR:pG cols (fun x=>decide (x.name=s)) (-1):=⟨.inl ⟨rfl,fun x hx=>by
    obtain⟨j,hj⟩:=List.getElem?_of_mem hx;have:=(List.getElem?_eq_some_iff.1 hj).1;exact aO j (by omega) x hj⟩⟩
   cbv;exact⟨Le.refl _,0,false,-1,rfl,hR,rfl,rfl⟩
theorem Um{cols:List bT}{i:Nat}{c:bT}(hc:cols[i]? =some c){z':Int}(hr:pG cols (fun x=>decide (x.name=c.name)) z'):
 decide (max z' 0≠(i:Int))=(cols.take i).any fun x=>decide (x.name=c.name):=by
 have h1:=KB hc hr;rw[<-h1,decide_eq_decide];rcases hr.out with ⟨-,h⟩ | ⟨k,x,hk,hx,hp,aO⟩
 ·have:=h c (List.mem_of_getElem? hc);simp at this
 ·have hz:=hk.eq;have hki:¬i<k:=fun h=>by have:=aO i h c hc;simp at this
  omega
theorem LZ{nm:ByteArray}{cols:List bT}{key:Int}{only:Bool}{h:ad}{b:Option Addr}{n c:Nat}(q:Sl 165 bt h (.slice b n c) cols):
 Ct 108 [.agg #[.string nm,.slice b n c,.int .i64 key,.bool only]] h (fun v h'=>Le h h'/\∃z,v=.int .i64 z/\z=gJ ⟨nm,cols,key,only⟩):=by
 obtain⟨A,hA⟩:=Ar.ex;have hlen:=q.len;obtain⟨ll,jS⟩:=q.bound;have rB:A .not true=false:=by rw[hA.not];rfl
 have vO:A .not false=true:=by rw[hA.not];rfl
 generalize e1:A .aG .lss (A .nat n) 1=u1;generalize e2:A .aG .gtr (A .nat n) 6=u2;generalize e3:A .aG .lss key 0=u3;generalize e4:A .aG .geq key (A .nat n)=u4;have f1:=e1;have f2:=e2;have f3:=e3;have f4:=e4;rw[bE A,hA.nat]at e1;rw[bJ A,hA.nat]at e2;rw[bE A]at e3;rw[bS A,hA.nat]at e4;simp only[Int.ofNat_eq_natCast]at e1 e2 e4;rw[hlen]at e1 e2 e4;obtain⟨E,hE⟩:∃E,E=gJ ⟨nm,cols,key,only⟩:=⟨_,rfl⟩;have hS:E=if(!ao nm)=true then 12 else if(u1||u2)=true then 4 else if gV cols≠0 then gV cols else if(u3||u4)=true then 1 else if((cols[key.toNat]?).map (·.null)).getD false=true then 13 else 0:=by rw[hE,<-e1,<-e2,<-e3,<-e4];rfl
 rw[<-hE];refine ah A (ar T108.aA T108.bm) Tryz.func108 rfl (by kernel_rfl) ?_;cbv;refine zL.mono (fun v h1 hR=>?_);obtain⟨l1,t,rfl,ht⟩:=hR;rw[<-ht]at hS;cases t with
 |false=>cbv;rw[vO];cbv;exact⟨l1,12,rfl,hS.symm⟩
 |true=>
  cbv;rw[rB];cbv;rw[f1];cases u1 with
  |true=>cbv;exact⟨l1,4,rfl,hS.symm⟩
  |false=>
   cbv;rw[f2];cases u2 with
   |true=>cbv;exact⟨l1,4,rfl,hS.symm⟩
   |false=>
    have hS:E=if gV cols≠0 then gV cols else if(u3||u4)=true then 1 else if((cols[key.toNat]?).map (·.null)).getD false=true then 13 else 0:=hS
    cbv;refine aX.go (G:=Int) (fun z=>[(3,.v (.int .i64 z))]) (fun _=>[(1,[.string nm,.slice b n c,.int .i64 key,.bool only])]) (fun m z h'=>∃i:Nat,aS z i/\m=n-i/\i<=n/\Le h h'/\∀j,j<i->∀y,cols[j]? =some y->dQ cols j y=0) n 0 ⟨?_,?_,?_⟩ ⟨0,⟨rfl⟩,by omega,by omega,l1,fun j hj=>(by omega)⟩ ?_
    ·cbv
    ·cbv
    ·cbv
    ·intro m z h' hI;cbv;obtain⟨i,hz,hm,hi,hle,aO⟩:=hI;refine aQ (fun hc=>?_) (fun hc=>?_)
     ·have aK:=hz.lt hc;clear hc;obtain⟨x,hx⟩:=aI (xs:=cols) (i:=i) (by omega);have cU:b.isSome=true/\0<=z/\z<(n:Int):=⟨q.bu (by omega),hz.ix aK⟩;have bad:∀ {hh:ad} (w:Int),Le h hh->dQ cols i x=w->w≠0->Le h hh/\∃z,Value.int .i64 w=.int .i64 z/\z=E:=fun w l ew hw=>by
       refine⟨l,w,rfl,?_⟩;have:=wI hx aO (by rw[ew];exact hw);rw[hS,this,ew,if_pos hw]
      have kX:∀(h2:ad),Le h h2->dQ cols i x=0->∃j:Nat,aS (A .bA .add .i64 z 1) j/\n-(i+1)=n-j/\j<=n/\Le h h2/\∀j',j'<j->∀y,cols[j']? =some y->dQ cols j' y=0:=fun h2 l e0=>
       ⟨i+1,hz.succ (A:=A) (by omega),rfl,by omega,l,fun j hj y hy=>by
        rcases Nat.lt_or_ge j i with jQ|jQ
        ·exact aO j jQ y hy
        ·have:j=i:=by omega
         subst this;rw[hx]at hy;cases hy;exact e0⟩
      obtain⟨xn,xk,xo⟩:=x;cbv;refine⟨cU,?_⟩;cbv;refine(q.mono (hle.t _)).eE hx hz.eq (o:=0) (m:=1) (by decide) (fun cs aC=>?_);have aC:cs=[.string xn,.int .i64 xk,.bool xo]:=aC;subst aC;cbv;refine(PC (q.mono (hle.t _))).mono (fun v h2 hR=>?_);obtain⟨l2,zk,tk,zk',rfl,Vj,hzk,Xp⟩:=hR;have On:=hle.trans l2;have bW:=Um hx Vj;rw[<-hzk]at bW;generalize g1:A .aG .neq zk z=w1;have k1:=g1;rw[aB A,hz.eq]at g1;rw[g1]at bW;generalize g2:A .aG .lss xk 1=w2;generalize g3:A .aG .gtr xk 3=w3;have k2:=g2;have k3:=g3;rw[bE A]at g2;rw[bJ A]at g3;cbv;refine⟨cU,?_⟩;cbv;refine(q.mono (On.t _)).eE hx hz.eq (o:=0) (m:=1) (by decide) (fun cs aC=>?_);have aC:cs=[.string xn,.int .i64 xk,.bool xo]:=aC;subst aC;cbv;refine zL.mono (fun v h3 hR=>?_);obtain⟨l3,tn,rfl,htn⟩:=hR;have H8:=On.trans l3;have key:dQ cols i ⟨xn,xk,xo⟩=if(!tn||w1)=true then 12 else if(w2||w3)=true then 3 else 0:=by rw[htn,bW,<-g2,<-g3];rfl
      cases tn with
      |false=>have key:dQ cols i ⟨xn,xk,xo⟩=12:=key;cbv;rw[vO];cbv;exact bad 12 H8 key (by omega)
      |true=>
       cbv;rw[rB];cbv;rw[k1];cases w1 with
       |true=>have key:dQ cols i ⟨xn,xk,xo⟩=12:=key;cbv;exact bad 12 H8 key (by omega)
       |false=>
        cbv;refine⟨cU,?_⟩;cbv;refine(q.mono (H8.t _)).eE hx hz.eq (o:=1) (m:=1) (by decide) (fun cs aC=>?_);have aC:cs=[.string xn,.int .i64 xk,.bool xo]:=aC;subst aC;cbv;rw[k2];cases w2 with
        |true=>have key:dQ cols i ⟨xn,xk,xo⟩=3:=key;cbv;exact bad 3 H8 key (by omega)
        |false=>
         cbv;refine⟨cU,?_⟩;cbv;refine(q.mono (H8.t _)).eE hx hz.eq (o:=1) (m:=1) (by decide) (fun cs aC=>?_);have aC:cs=[.string xn,.int .i64 xk,.bool xo]:=aC;subst aC;cbv;rw[k3];cases w3 with
         |true=>have key:dQ cols i ⟨xn,xk,xo⟩=3:=key;cbv;exact bad 3 H8 key (by omega)
         |false=>
          have key:dQ cols i ⟨xn,xk,xo⟩=0:=key;have g:=kX h3 H8 key;cbv;refine⟨n-(i+1),_,by omega,⟨?_,?_,?_⟩,g⟩
          ·cbv
          ·cbv
          ·cbv
     ·have iR:=hz.ge hc;have Vs:gV cols=0:=rZ (fun j hj y hy=>aO j (by omega) y hy);rw[Vs,if_neg (by simp)]at hS;cbv;rw[f3];cases u3 with
      |true=>cbv;exact⟨hle,1,rfl,hS.symm⟩
      |false=>
       cbv;rw[f4];cases u4 with
       |true=>cbv;exact⟨hle,1,rfl,hS.symm⟩
       |false=>
        obtain⟨nO,nh⟩:=DH A f3 f4;obtain⟨x,hx⟩:=aI (xs:=cols) (i:=key.toNat) (by omega);have cU:b.isSome=true/\0<=key/\key<(n:Int):=⟨q.bu (by omega),nO.ix nh⟩;rw[hx]at hS;obtain⟨xn,xk,xo⟩:=x;cbv;refine⟨cU,?_⟩;cbv;refine(q.mono (hle.t _)).eE hx nO.eq (o:=2) (m:=1) (by decide) (fun cs aC=>?_);have aC:cs=[.string xn,.int .i64 xk,.bool xo]:=aC;subst aC;cases xo with
        |true=>cbv;exact⟨hle,13,rfl,hS.symm⟩
        |false=>cbv;exact⟨hle,0,rfl,hS.symm⟩
def Sv:Sh dO where
 n:=3
 R h cs t:=∃b1 n1 c1 b2 n2 c2,cs=[.int .i64 t.s,.slice b1 n1 c1,.slice b2 n2 c2]/\Sl 148 gM h (.slice b1 n1 c1) t.log/\Sl 162 gF h (.slice b2 n2 c2) t.marks
 len:=by rintro h cs x ⟨_,_,_,_,_,_,rfl,-⟩;rfl
 one:=by rintro h cs x ⟨_,_,_,_,_,_,rfl,-⟩;rfl
 tys:=[148,61,162]
 mono:=by rintro h h' cs x hl ⟨b1,n1,c1,b2,n2,c2,rfl,q1,q2⟩;exact⟨b1,n1,c1,b2,n2,c2,rfl,q1.mono (hl.sub (by decide)),q2.mono (hl.sub (by decide))⟩
structure RP(h:ad)(b1:Option Addr)(n1 c1:Nat)(b2:Option Addr)(n2 c2:Nat)(b3:Option Addr)(n3 c3:Nat)(b4:Option Addr)(n4 c4:Nat)(d:DB):Prop where
 aE:Sl 156 cY h (.slice b1 n1 c1) d.aE
 au:Sl 145 Sv h (.slice b2 n2 c2) d.au
 holds:Sl 235 bL h (.slice b3 n3 c3) d.holds
 waits:Sl 235 bL h (.slice b4 n4 c4) d.waits
theorem RP.lt{h h':ad}{b1 b2 b3 b4:Option Addr}{n1 c1 n2 c2 n3 c3 n4 c4:Nat}{d:DB}(q:RP h b1 n1 c1 b2 n2 c2 b3 n3 c3 b4 n4 c4 d)(l:cF [156,165,59,61,145,148,162,235] h h'):RP h' b1 n1 c1 b2 n2 c2 b3 n3 c3 b4 n4 c4 d:=
 ⟨q.aE.mono (l.sub (by decide)),q.au.mono (l.sub (by decide)),q.holds.mono (l.sub (by decide)),q.waits.mono (l.sub (by decide))⟩
theorem RP.mono{h h':ad}{b1 b2 b3 b4:Option Addr}{n1 c1 n2 c2 n3 c3 n4 c4:Nat}{d:DB}(q:RP h b1 n1 c1 b2 n2 c2 b3 n3 c3 b4 n4 c4 d)(l:Le h h'):RP h' b1 n1 c1 b2 n2 c2 b3 n3 c3 b4 n4 c4 d:=q.lt (l.t _)
theorem Cn{a b:List UInt8}:∀ {i:Nat},i<=a.length->i<=b.length->(∀j,j<i->a[j]? =b[j]?)->Lib.compareBytes a b=Lib.compareBytes (a.drop i) (b.drop i)
 |0,_,_,_=>rfl
 |i+1,ha,hb,aO=>by
  cases a with
  |nil=>simp at ha
  |cons x a=>
   cases b with
   |nil=>simp at hb
   |cons y b=>
    have h0:x=y:=by have:=aO 0 (by omega);simpa using this
    subst h0;have:Lib.compareBytes (x::a) (x::b)=Lib.compareBytes a b:=by simp[Lib.compareBytes]
    rw[this,List.drop_succ_cons,List.drop_succ_cons];exact Cn (by simpa using ha) (by simpa using hb) (fun j hj=>by have:=aO (j+1) (by omega);simpa using this)
theorem L9{h:ad}{a b:ByteArray}(ha60:a.size<=2^60):Ct 110 [.string a,.string b] h (fun v h'=>Le h h'/\∃t,v=.bool t/\t=decide (eX a b<0)):=by
 obtain⟨A,hA⟩:=Ar.ex;have hna:aS (A .iq a) a.size:=⟨by rw[hA.iq]⟩;have fk:aS (A .iq b) b.size:=⟨by rw[hA.iq]⟩;have hsa:a.data.toList.length=a.size:=by rw[Array.length_toList];rfl
 have Aa:b.data.toList.length=b.size:=by rw[Array.length_toList];rfl
 have Rm:∀(s:ByteArray) (i:Nat),i<s.size->∃x:UInt8,s.data.toList[i]? =some x/\fW s i=(x.toNat:Int):=fun s i hi=>by
  have tP:i<s.data.size:=hi;refine⟨s.data[i],by simp[tP],?_⟩;simp[fW,Array.getElem?_eq_getElem tP]
 have pE:∀s z i,aS z i->A .byte s z=fW s i:=fun s z i hz=>by
  rw[hA.byte];simp only[fW];rw[hz.eq];rfl
 refine ah A (ar T110.aA T110.bm) Tryz.func110 rfl (by kernel_rfl) ?_;cbv;refine aX.go (G:=Int) (fun z=>[(5,.v (.int .i64 z))]) (fun _=>[]) (fun m z h'=>∃i:Nat,aS z i/\m=a.size-i/\i<=a.size/\i<=b.size/\h'=h/\∀j,j<i->a.data.toList[j]? =b.data.toList[j]?) a.size 0 ⟨?_,?_,?_⟩ ⟨0,⟨rfl⟩,by omega,by omega,by omega,rfl,fun j hj=>(by omega)⟩ ?_
 ·cbv
 ·cbv
 ·cbv
 ·intro m z h' hI;cbv;obtain⟨i,hz,hm,hia,hib,rfl,aO⟩:=hI;have Vt:=Cn (a:=a.data.toList) (b:=b.data.toList) (i:=i) (by omega) (by omega) aO;have f1:A .aG .lss z (A .iq a)=decide (i<a.size):=hz.gy hna;have f2:A .aG .lss z (A .iq b)=decide (i<b.size):=hz.gy fk;have f3:A .aG .lss (A .iq a) (A .iq b)=decide (a.size<b.size):=hna.gy fk;by_cases h1:i<a.size
  ·rw[decide_eq_true h1]at f1;rw[f1];cbv;by_cases h2:i<b.size
   ·rw[decide_eq_true h2]at f2;rw[f2];obtain⟨x,hx,hxb⟩:=Rm a i h1;obtain⟨y,hy,QW⟩:=Rm b i h2;have hda:a.data.toList.drop i=x::a.data.toList.drop (i+1):=by rw[List.drop_eq_getElem_cons (by omega)];rw[(List.getElem?_eq_some_iff.1 hx).2]
    have Hq:b.data.toList.drop i=y::b.data.toList.drop (i+1):=by rw[List.drop_eq_getElem_cons (by omega)];rw[(List.getElem?_eq_some_iff.1 hy).2]
    rw[hda,Hq]at Vt;have c1:(0:Int)<=z/\z<(a.size:Int):=hz.ix h1;have c2:(0:Int)<=z/\z<(b.size:Int):=hz.ix h2;have g1:A .aG .neq (A .byte a z) (A .byte b z)=decide (x≠y):=by
     rw[pE a z i hz,pE b z i hz,aB A,hxb,QW,decide_eq_decide];refine not_congr ?_;constructor
     ·intro e;exact UInt8.toNat_inj.1 (Int.ofNat_inj.1 e)
     ·rintro rfl;rfl
    have g2:A .aG .lss (A .byte a z) (A .byte b z)=decide (x<y):=by rw[pE a z i hz,pE b z i hz,bE A,hxb,QW,decide_eq_decide,UInt8.lt_iff_toNat_lt];exact Int.ofNat_lt
    cbv;refine⟨c1,?_⟩;cbv;refine⟨c2,?_⟩;cbv;rw[g1];by_cases Ic:x=y
    ·rw[decide_eq_false (by simp[Ic])];cbv;refine⟨a.size-(i+1),_,by omega,⟨?_,?_,?_⟩,i+1,hz.succ (A:=A) (by omega),rfl,by omega,by omega,rfl,?_⟩
     ·cbv
     ·cbv
     ·cbv
     ·intro j hj;rcases Nat.lt_or_ge j i with h|h
      ·exact aO j h
      ·have:j=i:=by omega
       rw[this,hx,hy,Ic]
    ·rw[decide_eq_true (by simpa using Ic)];have ae:decide (x<y)=decide (eX a b<0):=by
      unfold eX;rw[Vt];simp only[Lib.compareBytes];by_cases aK:x<y
      ·simp[aK]
      ·have:y<x:=by rw[UInt8.lt_iff_toNat_lt]at aK |-;have:x.toNat≠y.toNat:=fun e=>Ic (UInt8.toNat_inj.1 e);omega
       simp[aK,this]
     cbv;refine⟨c1,?_⟩;cbv;refine⟨c2,?_⟩;cbv;rw[g2];exact⟨Le.refl _,_,rfl,ae⟩
   ·rw[decide_eq_false h2]at f2;rw[f2];have Z7:b.data.toList.drop i=[]:=List.drop_eq_nil_of_le (by omega);have ae:decide (a.size<b.size)=decide (eX a b<0):=by
     unfold eX;rw[Vt,Z7];have:a.data.toList.drop i≠[]:=by intro e;have:=congrArg List.length e;rw[List.length_drop]at this;simp at this;omega
     cases hd:a.data.toList.drop i with
     |nil=>exact absurd hd this
     |cons x r=>simp only[Lib.compareBytes];rw[decide_eq_false (by omega)];rfl
    cbv;rw[f3];exact⟨Le.refl _,_,rfl,ae⟩
  ·rw[decide_eq_false h1]at f1;rw[f1];have ha0:a.data.toList.drop i=[]:=List.drop_eq_nil_of_le (by omega);have ae:decide (a.size<b.size)=decide (eX a b<0):=by
    unfold eX;rw[Vt,ha0];cases hd:b.data.toList.drop i with
    |nil=>have:=congrArg List.length hd;rw[List.length_drop]at this;simp at this;simp only[Lib.compareBytes];rw[decide_eq_false (by omega)];rfl
    |cons y r=>have:=congrArg List.length hd;rw[List.length_drop]at this;simp at this;simp only[Lib.compareBytes];rw[decide_eq_true (by omega)];rfl
   cbv;rw[f3];exact⟨Le.refl _,_,rfl,ae⟩
theorem V4{d:DB}{h:ad}{b1 b2 b3 b4:Option Addr}{n1 c1 n2 c2 n3 c3 n4 c4:Nat}(q:RP h b1 n1 c1 b2 n2 c2 b3 n3 c3 b4 n4 c4 d){nm:ByteArray}:
 Ct 109 [.agg #[.slice b1 n1 c1,.slice b2 n2 c2,.slice b3 n3 c3,.slice b4 n4 c4],.string nm] h (fun v h'=>Le h h'/\∃z,v=.int .i64 z/\pG d.aE (fun t=>decide (t.S.name=nm)) z):=by
 obtain⟨A,hA⟩:=Ar.ex;have hlen:=q.aE.len;have vZ:=q.aE.bound;refine ah A (ar T109.aA T109.bm) Tryz.func109 rfl (by kernel_rfl) ?_;cbv;refine aX.go (G:=Int) (fun z=>[(5,.v (.int .i64 z))]) (fun _=>[(2,[.slice b1 n1 c1,.slice b2 n2 c2,.slice b3 n3 c3,.slice b4 n4 c4])]) (fun m z h'=>∃i:Nat,aS z i/\m=n1-i/\i<=n1/\h'=h/\∀j,j<i->∀y,d.aE[j]? =some y->decide (y.S.name=nm)=false) n1 0 ⟨?_,?_,?_⟩ ⟨0,⟨rfl⟩,by omega,by omega,rfl,fun j hj=>(by omega)⟩ ?_
 ·cbv
 ·cbv
 ·cbv
 ·intro m z h' hI;cbv;obtain⟨i,hz,hm,hi,rfl,aO⟩:=hI;refine aQ (fun hc=>?_) (fun hc=>?_)
  ·have aK:=hz.lt hc;clear hc;cbv;obtain⟨x,hx⟩:=aI (xs:=d.aE) (i:=i) (by omega);refine⟨⟨q.aE.bu (by omega),hz.ix aK⟩,?_⟩;cbv;refine q.aE.vG hx hz.eq (o1:=0) (o2:=0) (m:=1) (by decide) (fun cs aC=>?_);obtain⟨_,_,_,_,_,_,rfl,-,-⟩:=aC;cbv;rw[bR A];by_cases uK:x.S.name=nm
   ·rw[decide_eq_true uK];have hR:pG d.aE (fun t=>decide (t.S.name=nm)) z:=⟨.inr ⟨i,x,hz,hx,by simpa using uK,aO⟩⟩;cbv;exact⟨Le.refl _,z,rfl,hR⟩
   ·rw[decide_eq_false uK];cbv;refine⟨n1-(i+1),_,by omega,⟨?_,?_,?_⟩,i+1,hz.succ (A:=A) (by omega),rfl,by omega,rfl,?_⟩
    ·cbv
    ·cbv
    ·cbv
    ·intro j hj y hy;rcases Nat.lt_or_ge j i with jQ|jQ
     ·exact aO j jQ y hy
     ·have:j=i:=by omega
      subst this;rw[hx]at hy;cases hy;exact decide_eq_false uK
  ·have iR:=hz.ge hc;have hR:pG d.aE (fun t=>decide (t.S.name=nm)) (-1):=⟨.inl ⟨rfl,fun x hx=>by
    obtain⟨j,hj⟩:=List.getElem?_of_mem hx;have:=(List.getElem?_eq_some_iff.1 hj).1;exact aO j (by omega) x hj⟩⟩
   cbv;exact⟨Le.refl _,-1,rfl,hR⟩
theorem OK{α:Type}{xs:List α}{p:α->Bool}{z:Int}(q:pG xs p z):decide (z>=0)=xs.any p:=by
 rcases q.out with ⟨rfl,h⟩ | ⟨i,x,hz,hx,hp,-⟩
 ·rw[eq_comm];simpa using h
 ·have:=hz.eq;rw[decide_eq_true (by omega),eq_comm,List.any_eq_true];exact⟨x,List.mem_of_getElem? hx,hp⟩
def oq(T:List cE)(nm:ByteArray):Nat:=(T.takeWhile fun t=>decide (eX t.S.name nm<0)).length
def my(d:DB)(s:AU):DB×Int:=
 if decide (gJ s≠0)=true then(d,gJ s)
 else if d.aE.any (fun t=>decide (t.S.name=s.name))=true then(d,7)
 else if decide ((d.aE.length:Int)>=8)=true then(d,4)
 else if decide ((d.au.length:Int)>0)=true then(d,18)
 else(lD d (d.aE.take (oq d.aE s.name)++[⟨s,[]⟩]++d.aE.drop (oq d.aE s.name)),0)
abbrev RK(h:ad)(d':DB)(e:Int)(k:Value->ad->Prop):Prop:=
 ∀h' b1 n1 c1 b2 n2 c2 b3 n3 c3 b4 n4 c4,Le h h'->RP h' b1 n1 c1 b2 n2 c2 b3 n3 c3 b4 n4 c4 d'->k (.tuple #[.agg #[.slice b1 n1 c1,.slice b2 n2 c2,.slice b3 n3 c3,.slice b4 n4 c4],.int .i64 e]) h'
theorem C8{α:Type}{p:α->Bool}:∀ {xs:List α} {i:Nat},(∀j,j<i->∀y,xs[j]? =some y->p y=true)->i<=xs.length->(i<xs.length->∃y,xs[i]? =some y/\p y=false)->(xs.takeWhile p).length=i
 | [],i,_,hi,_=>by simp at hi;simp[hi]
 |x::r,0,_,_,hs=>by
  obtain⟨y,hy,hp⟩:=hs (by simp);simp at hy;subst hy;simp[hp]
 |x::r,i+1,aO,hi,hs=>by
  have hx:=aO 0 (by omega) x rfl;rw[List.takeWhile_cons_of_pos hx,List.length_cons];rw[C8 (xs:=r) (i:=i) (fun j hj y hy=>aO (j+1) (by omega) y (by simpa using hy)) (by simpa using hi) (fun h=>by simpa using hs (by simpa using h))]
theorem GC{d:DB}{h:ad}{b1 b2 b3 b4:Option Addr}{n1 c1 n2 c2 n3 c3 n4 c4:Nat}(q:RP h b1 n1 c1 b2 n2 c2 b3 n3 c3 b4 n4 c4 d){nm:ByteArray}{cols:List bT}{key:Int}{only:Bool}{sb:Option Addr}{sn sc:Nat}(qs:Sl 165 bt h (.slice sb sn sc) cols)
 (hl:d.aE.length<=2^37) (hns:∀t∈d.aE,t.S.name.size<=2^60) {D:DB×Int} (hD:my d ⟨nm,cols,key,only⟩=D) {k:Value->ad->Prop} (hk:RK h D.1 D.2 k):
 Ct 47 [.agg #[.slice b1 n1 c1,.slice b2 n2 c2,.slice b3 n3 c3,.slice b4 n4 c4],.agg #[.string nm,.slice sb sn sc,.int .i64 key,.bool only]] h k:=by
 obtain⟨A,hA⟩:=Ar.ex;have hlen:=q.aE.len;have vZ:=q.aE.bound;have QX:=q.au.len;unfold my at hD;generalize e8:A .aG .geq (A .nat n1) 8=u8;generalize RQ:A .aG .gtr (A .nat n2) 0=u18;have f8:=e8;have f18:=RQ;rw[bS A,hA.nat]at e8;rw[bJ A,hA.nat]at RQ;simp only[Int.ofNat_eq_natCast]at e8 RQ;rw[hlen]at e8;rw[QX]at RQ;rw[e8,RQ]at hD;refine ah A (ar T47.aA T47.bm) Tryz.func47 rfl (by kernel_rfl) ?_;cbv;refine(LZ (nm:=nm) (key:=key) (only:=only) qs).mono (fun v h1 hR=>?_);obtain⟨l1,ze,hv,eze⟩:=hR;rw[hv];rw[<-eze]at hD;generalize e0:A .aG .neq ze 0=u0;have f0:=e0;rw[aB A]at e0;rw[e0]at hD;cbv;rw[f0];cases u0 with
 |true=>have hD:(d,ze)=D:=hD;have ae:=hk h1 b1 n1 c1 b2 n2 c2 b3 n3 c3 b4 n4 c4 l1 (by rw[<-hD];exact q.mono l1);rw[<-hD]at ae;cbv;exact ae
 |false=>
  cbv;refine(V4 (q.mono l1)).mono (fun v h2 hR=>?_);obtain⟨l2,zf,hv,Vj⟩:=hR;rw[hv];have gh:=l1.trans l2;have Lh:=OK Vj;generalize e7:A .aG .geq zf 0=u7;have f7:=e7;rw[bS A]at e7;rw[e7]at Lh;have hD:(if d.aE.any (fun t=>decide (t.S.name=nm))=true then(d,7)else if u8=true then(d,4)else if u18=true then(d,18)
   else(lD d (d.aE.take (oq d.aE nm)++[⟨⟨nm,cols,key,only⟩,[]⟩]++d.aE.drop (oq d.aE nm)),0))=D:=hD
  rw[<-Lh]at hD;cbv;rw[f7];cases u7 with
  |true=>have hD:(d,7)=D:=hD;have ae:=hk h2 b1 n1 c1 b2 n2 c2 b3 n3 c3 b4 n4 c4 gh (by rw[<-hD];exact q.mono gh);rw[<-hD]at ae;cbv;exact ae
  |false=>
   cbv;rw[f8];cases u8 with
   |true=>have hD:(d,4)=D:=hD;have ae:=hk h2 b1 n1 c1 b2 n2 c2 b3 n3 c3 b4 n4 c4 gh (by rw[<-hD];exact q.mono gh);rw[<-hD]at ae;cbv;exact ae
   |false=>
    cbv;rw[f18];cases u18 with
    |true=>have hD:(d,18)=D:=hD;have ae:=hk h2 b1 n1 c1 b2 n2 c2 b3 n3 c3 b4 n4 c4 gh (by rw[<-hD];exact q.mono gh);rw[<-hD]at ae;cbv;exact ae
    |false=>
     have hD:(lD d (d.aE.take (oq d.aE nm)++[⟨⟨nm,cols,key,only⟩,[]⟩]++d.aE.drop (oq d.aE nm)),0)=D:=hD;cbv;refine aX.go (G:=Int) (fun z=>[(7,.v (.int .i64 z))]) (fun _=>[(2,[.slice b1 n1 c1,.slice b2 n2 c2,.slice b3 n3 c3,.slice b4 n4 c4]),(3,[.string nm,.slice sb sn sc,.int .i64 key,.bool only]),(4,[.slice none 0 0,.slice none 0 0,.slice none 0 0,.slice none 0 0])])
      (fun m z h'=>∃i:Nat,aS z i/\m=n1-i/\i<=n1/\Le h h'/\∀j,j<i->∀y,d.aE[j]? =some y->decide (eX y.S.name nm<0)=true) n1 0 ⟨?_,?_,?_⟩ ⟨0,⟨rfl⟩,by omega,by omega,gh,fun j hj=>(by omega)⟩ ?_
     ·cbv
     ·cbv
     ·cbv
     ·intro m z h' hI;cbv;obtain⟨i,hz,hm,hi,hle,aO⟩:=hI;have g1:A .aG .lss z (A .nat n1)=decide (i<n1):=hz.gy (aS.nat n1);rw[g1];rcases Nat.lt_or_ge i n1 with aK|iR
      ·rw[decide_eq_true aK];have Im:=hz.ix aK;obtain⟨x,hx⟩:=aI (xs:=d.aE) (i:=i) (by omega);have qh:=q.mono hle;cbv;refine⟨⟨qh.aE.bu (by omega),Im⟩,?_⟩;cbv;refine qh.aE.vG hx hz.eq (o1:=0) (o2:=0) (m:=1) (by decide) (fun cs aC=>?_);obtain⟨_,_,_,_,_,_,rfl,-,-⟩:=aC;cbv;refine(L9 (hns x (List.mem_of_getElem? hx))).mono (fun v h3 hR=>?_);obtain⟨l3,t,hv,ht⟩:=hR;rw[hv];have xD:=hle.trans l3;cbv;cases t with
       |true=>
        cbv;refine⟨n1-(i+1),_,by omega,⟨?_,?_,?_⟩,i+1,hz.succ (A:=A) (by omega),rfl,by omega,xD,?_⟩
        ·cbv
        ·cbv
        ·cbv
        ·intro j hj y hy;rcases Nat.lt_or_ge j i with jQ|jQ
         ·exact aO j jQ y hy
         ·have:j=i:=by omega
          subst this;rw[hx]at hy;cases hy;exact ht.symm
       |false=>
        have KQ:oq d.aE nm=i:=C8 aO (by omega) (fun _=>⟨x,hx,ht.symm⟩);have qa:=q.mono xD;have O4:A .sC z 0=i:=dM (A:=A) hz;obtain⟨hcb1,hcb2⟩:=vZ;have oK:0<=z/\z<=(c1:Int):=by have:=hz.eq;omega
        have Ff:0<=z/\z<=(n1:Int):=by have:=hz.eq;omega
        have Fs:i<=n1:=hi;cbv;intro n6 h6 g6 e6;have l6:Le h3 h6:=by rw[e6];exact Le.set g6
        have q6:=qa.mono l6;cbv;refine⟨oK,?_⟩;cbv;have Hg:cX 156 cY h3 h6 (.slice (some ⟨n6,0,none⟩) 0 0) ([]:List cE):=cX.nil;refine Hg.append (q6.aE.tA (A:=A) (s:=cY) (z:=A .nat c1) Fs O4 O4) (by decide) rfl (by decide) (by rw[O4];omega) l6 (fun m7 b7 c7 h7 em7 l7 t7 k7 CR=>?_);cbv;intro n8 h8 g8 e8;have l8:Le h7 h8:=by rw[e8];exact Le.set g8
        have f8:=(congrFun e8 n8).trans af;have r8:cY.R h8 [.string nm,.slice sb sn sc,.int .i64 key,.bool only,.slice none 0 0] ⟨⟨nm,cols,key,only⟩,[]⟩:=⟨_,_,_,_,_,_,rfl,qs.mono ((xD.trans (l7.trans l8)).t _),Sl.nil⟩;have v8:=bU (s:=cY) f8 r8;cbv;refine(CR.mono (l8.t _)).append v8 (by decide) rfl (by decide) (by omega) (l7.trans l8) (fun m9 b9 c9 h9 em9 l9 t9 k9 M5=>?_);have q9:=qa.mono l9;have O6:=eO (A:=A) hz (n:=n1);cbv;refine⟨Ff,?_⟩;cbv;refine M5.append (q9.aE.tW (A:=A) (s:=cY) hz Fs O6 (c':=c1-i) rfl) (by decide) rfl (by decide) (by rw[O6];omega) l9 (fun Xd fG fF kx Wi mZ t10 Km Am=>?_);have KN:=Am.sl;rw[List.nil_append]at KN;rw[KQ]at hD;have GF:=qa.mono mZ;have hL:=xD.trans mZ;have ae:=hk kx fG Xd fF b2 n2 c2 b3 n3 c3 b4 n4 c4 hL (by rw[<-hD];exact⟨KN,GF.au,GF.holds,GF.waits⟩);rw[<-hD]at ae;cbv;exact ae
      ·rw[decide_eq_false (by omega)];have KQ:oq d.aE nm=i:=C8 aO (by omega) (fun h=>by omega);have qa:=q.mono hle;have O4:A .sC z 0=i:=dM (A:=A) hz;obtain⟨hcb1,hcb2⟩:=vZ;have oK:0<=z/\z<=(c1:Int):=by have:=hz.eq;omega
       have Ff:0<=z/\z<=(n1:Int):=by have:=hz.eq;omega
       have Fs:i<=n1:=hi;cbv;intro n6 h6 g6 e6;have l6:Le h' h6:=by rw[e6];exact Le.set g6
       have q6:=qa.mono l6;cbv;refine⟨oK,?_⟩;cbv;have Hg:cX 156 cY h' h6 (.slice (some ⟨n6,0,none⟩) 0 0) ([]:List cE):=cX.nil;refine Hg.append (q6.aE.tA (A:=A) (s:=cY) (z:=A .nat c1) Fs O4 O4) (by decide) rfl (by decide) (by rw[O4];omega) l6 (fun m7 b7 c7 h7 em7 l7 t7 k7 CR=>?_);cbv;intro n8 h8 g8 e8;have l8:Le h7 h8:=by rw[e8];exact Le.set g8
       have f8:=(congrFun e8 n8).trans af;have r8:cY.R h8 [.string nm,.slice sb sn sc,.int .i64 key,.bool only,.slice none 0 0] ⟨⟨nm,cols,key,only⟩,[]⟩:=⟨_,_,_,_,_,_,rfl,qs.mono ((hle.trans (l7.trans l8)).t _),Sl.nil⟩;have v8:=bU (s:=cY) f8 r8;cbv;refine(CR.mono (l8.t _)).append v8 (by decide) rfl (by decide) (by omega) (l7.trans l8) (fun m9 b9 c9 h9 em9 l9 t9 k9 M5=>?_);have q9:=qa.mono l9;have O6:=eO (A:=A) hz (n:=n1);cbv;refine⟨Ff,?_⟩;cbv;refine M5.append (q9.aE.tW (A:=A) (s:=cY) hz Fs O6 (c':=c1-i) rfl) (by decide) rfl (by decide) (by rw[O6];omega) l9 (fun Xd fG fF kx Wi mZ t10 Km Am=>?_);have KN:=Am.sl;rw[List.nil_append]at KN;rw[KQ]at hD;have GF:=qa.mono mZ;have hL:=hle.trans mZ;have ae:=hk kx fG Xd fF b2 n2 c2 b3 n3 c3 b4 n4 c4 hL (by rw[<-hD];exact⟨KN,GF.au,GF.holds,GF.waits⟩);rw[<-hD]at ae;cbv;exact ae
def jT:Nat->DB
 |0=>⟨[],[],[],[]⟩
 |i+1=>(rW (jT i) (aT i)).1
def jj:Nat->DB
 |0=>⟨[],[],[],[]⟩
 |i+1=>(my (jj i) (aT i)).1
def cL(i:Nat):cE:=⟨aT i,[]⟩
def ed:DB:=⟨[cL 0,cL 1,cL 2],[],[],[]⟩
theorem NP:jT 1=⟨[cL 0],[],[],[]⟩:=by cbv
theorem NO:jT 2=⟨[cL 0,cL 1],[],[],[]⟩:=by cbv
theorem EN:jT 3=ed:=by cbv
theorem NN:jj 1=⟨[cL 0],[],[],[]⟩:=by cbv
theorem NM:jj 2=⟨[cL 0,cL 1],[],[],[]⟩:=by cbv
theorem EM:jj 3=ed:=by cbv
theorem zu:∀i,i<=3->Small (jT i)
 |0,_=>⟨by decide,by decide,by simp[jT],by decide,by decide⟩
 |1,_=>by rw[NP];exact⟨by simp,by simp,by simp[cL],by simp,by simp⟩
 |2,_=>by rw[NO];exact⟨by simp,by simp,by simp[cL],by simp,by simp⟩
 |3,_=>by rw[EN];exact⟨by simp[ed],by simp[ed],by simp[ed,cL],by simp[ed],by simp[ed]⟩
 |n+4,h=>by omega
theorem kD:∀i,i<3->(cL i).S.name.size<=2^60
 |0,_=>by decide
 |1,_=>by decide
 |2,_=>by decide
 |n+3,h=>by omega
theorem qT:∀i,i<=3->(jj i).aE.length<=2^37/\∀t∈(jj i).aE,t.S.name.size<=2^60
 |0,_=>by simp[jj]
 |1,_=>by rw[NN];simp[kD 0]
 |2,_=>by rw[NM];simp[kD 0,kD 1]
 |3,_=>by rw[EM];simp[ed,kD 0,kD 1,kD 2]
 |n+4,h=>by omega
structure R3 where
 b1:Option Addr
 n1:Nat
 c1:Nat
 b2:Option Addr
 n2:Nat
 c2:Nat
 b3:Option Addr
 n3:Nat
 c3:Nat
 b4:Option Addr
 n4:Nat
 c4:Nat
theorem zA{h:ad}{k:Value->ad->Prop}(hk:∀h' b1 n1 c1 b2 n2 c2 b3 n3 c3 b4 n4 c4 d1 m1 e1 d2 m2 e2 d3 m3 e3 d4 m4 e4,Le h h'->
 gj h' (.agg #[.slice b1 n1 c1,.slice b2 n2 c2,.slice b3 n3 c3,.slice b4 n4 c4]) ed->RP h' d1 m1 e1 d2 m2 e2 d3 m3 e3 d4 m4 e4 ed->
 k (.tuple #[.agg #[.slice b1 n1 c1,.slice b2 n2 c2,.slice b3 n3 c3,.slice b4 n4 c4],.agg #[.slice d1 m1 e1,.slice d2 m2 e2,.slice d3 m3 e3,.slice d4 m4 e4]]) h'):
 Ct 24 [] h k:=by
 obtain⟨A,hA⟩:=Ar.ex;refine ah A (ar T24.aA T24.bm) Tryz.func24 rfl (by kernel_rfl) ?_;cbv;refine aX.go (G:=Int×R3×R3) (fun g=>[(4,.v (.int .i64 g.1))]) (fun g=>[(0,[.slice none 0 0,.slice none 0 0,.slice none 0 0,.slice none 0 0]),(1,[.slice none 0 0,.slice none 0 0,.slice none 0 0,.slice none 0 0]),(2,[.slice g.2.1.b1 g.2.1.n1 g.2.1.c1,.slice g.2.1.b2 g.2.1.n2 g.2.1.c2,.slice g.2.1.b3 g.2.1.n3 g.2.1.c3,.slice g.2.1.b4 g.2.1.n4 g.2.1.c4]),(3,[.slice g.2.2.b1 g.2.2.n1 g.2.2.c1,.slice g.2.2.b2 g.2.2.n2 g.2.2.c2,.slice g.2.2.b3 g.2.2.n3 g.2.2.c3,.slice g.2.2.b4 g.2.2.n4 g.2.2.c4])])
  (fun m g h'=>∃i,aS g.1 i/\m=3-i/\i<=3/\Le h h'/\gj h' (.agg #[.slice g.2.1.b1 g.2.1.n1 g.2.1.c1,.slice g.2.1.b2 g.2.1.n2 g.2.1.c2,.slice g.2.1.b3 g.2.1.n3 g.2.1.c3,.slice g.2.1.b4 g.2.1.n4 g.2.1.c4]) (jT i)/\RP h' g.2.2.b1 g.2.2.n1 g.2.2.c1 g.2.2.b2 g.2.2.n2 g.2.2.c2 g.2.2.b3 g.2.2.n3 g.2.2.c3 g.2.2.b4 g.2.2.n4 g.2.2.c4 (jj i)) 3
  (0,⟨none,0,0,none,0,0,none,0,0,none,0,0⟩,⟨none,0,0,none,0,0,none,0,0,none,0,0⟩) ⟨?_,?_,?_⟩ ⟨0,⟨rfl⟩,by omega,by omega,Le.refl _,rdb0 h,⟨Sl.nil,Sl.nil,Sl.nil,Sl.nil⟩⟩ ?_
 ·cbv
 ·cbv
 ·cbv
 ·intro m g h' hI;cbv;obtain⟨i,hz,hm,hi3,hle,qD,qR⟩:=hI;obtain⟨z,⟨b1,n1,c1,b2,n2,c2,b3,n3,c3,b4,n4,c4⟩,⟨d1,m1,e1,d2,m2,e2,d3,m3,e3,d4,m4,e4⟩⟩:=g;have hz:aS z i:=hz;have qD:gj h' (.agg #[.slice b1 n1 c1,.slice b2 n2 c2,.slice b3 n3 c3,.slice b4 n4 c4]) (jT i):=qD;have qR:RP h' d1 m1 e1 d2 m2 e2 d3 m3 e3 d4 m4 e4 (jj i):=qR;refine aQ (fun hc=>?_) (fun hc=>?_)
  ·have aK:i<3:=by rw[bE A,decide_eq_true_eq]at hc;have hc:z<3:=hc;have:=hz.eq;omega
   clear hc;cbv;refine EO hz aK h' (fun h2 sb sn sc nm o l2 yE ho qs=>?_);obtain⟨D,M7⟩:∃D,D=rW (jT i) (aT i):=⟨_,rfl⟩;have hD:rW (jT i) ⟨nm,bB,0,o⟩=D:=by rw[yE,ho,M7];rfl
   have hD1:D.1=jT (i+1):=by rw[M7];rfl
   clear M7;obtain⟨R,hRR⟩:∃R,R=my (jj i) (aT i):=⟨_,rfl⟩;have hR1:R.1=jj (i+1):=by rw[hRR];rfl
   obtain⟨T,hT⟩:∃T,T=jT (i+1):=⟨_,rfl⟩;obtain⟨U,hU⟩:∃U,U=jj (i+1):=⟨_,rfl⟩;rw[<-hT]at hD1;rw[<-hU]at hR1;cbv;refine HJ (qD.mono l2) (nm:=nm) (key:=0) (only:=o) qs (zu i hi3) hD (fun h3 f1 p1 g1 f2 p2 g2 f3 p3 g3 f4 p4 g4 l3 qD3=>?_);cbv;refine EO hz aK h3 (fun h4 sb4 sn4 sc4 nm4 o4 l4 hnm4 ho4 qs4=>?_);have hR:my (jj i) ⟨nm4,bB,0,o4⟩=R:=by rw[hnm4,ho4,hRR];rfl
   have oF:=(l2.trans l3).trans l4;cbv;refine GC (qR.mono oF) (nm:=nm4) (key:=0) (only:=o4) qs4 (qT i hi3).1 (qT i hi3).2 hR (fun h5 r1 s1 t1 r2 s2 t2 r3 s3 t3 r4 s4 t4 l5 qR5=>?_);cbv;refine⟨3-(i+1),(_,⟨f1,p1,g1,f2,p2,g2,f3,p3,g3,f4,p4,g4⟩,⟨r1,s1,t1,r2,s2,t2,r3,s3,t3,r4,s4,t4⟩),by omega,⟨?_,?_,?_⟩,i+1,hz.succ (A:=A) (by omega),rfl,by omega,hle.trans (oF.trans l5),by rw[<-hT,<-hD1];exact qD3.mono (l4.trans l5),by rw[<-hU,<-hR1];exact qR5⟩
   ·cbv
   ·cbv
   ·cbv
  ·have iR:i=3:=by rw[bE A,decide_eq_false_iff_not]at hc;have hc:¬z<3:=hc;have:=hz.eq;omega
   clear hc;subst iR;rw[EN]at qD;rw[EM]at qR;have ae:=hk _ _ _ _ _ _ _ _ _ _ _ _ _ _ _ _ _ _ _ _ _ _ _ _ _ hle qD qR;cbv;refine⟨⟨_,rfl,rfl⟩,?_⟩;cbv;exact ae
def pJ:ByteArray:=⟨#[]⟩
def V2(i:Nat)(a:Int):Int:=(a.tdiv (1+3*(i:Int))) % 40-5
def V3:ByteArray:=⟨#[97,98,99,100,101,102,103,104,105,106,107,108,109,110,111,112,113,114,115,116,117,118,119,120,121,122]⟩
def fitV(c:bT)(i:Nat)(a:Int):dg:=
 if c.null=true/\a % 5=0 then⟨0,0,pJ⟩else if c.kind=1 then⟨c.kind,V2 i a % 2,pJ⟩else if c.kind=2 then⟨c.kind,V2 i a,pJ⟩else if c.kind=3 then⟨c.kind,0,V3.extract 0 (V2 i a % 9).toNat⟩else⟨c.kind,0,pJ⟩
def fitL(cols:List bT)(a:Int)(m:Nat):List dg:=(List.range m).map fun i=>fitV (cols.getD i ⟨pJ,0,false⟩) i a
end Go.S
