import Derived.Test.YtekoaiendgjkdaaGreatDA
import Derived.Test.YtekoaiendgjkdaaGreatRd
set_option linter.unusedVariables false
set_option linter.unusedSimpArgs false
set_option linter.unusedSectionVars false
set_option maxRecDepth 100000
namespace Go.S
open Go.Sx Go.Proofs
def fF(s:ByteArray)(i:Nat):Int:=((s.data.getD i 0).toNat:Int)
def uL(z:Int):Bool:= !((decide (z<97)||decide (z>122))&&(decide (z<48)||decide (z>57))&&(z !=95))
def sS(s:ByteArray):Bool:= !(decide ((s.size:Int)<1)||decide ((s.size:Int)>12)||decide (fF s 0<97)||decide (fF s 0>122))
def qC(s:ByteArray):Bool:=(List.range s.size).all fun i=>uL (fF s i)
def mH(s:ByteArray):Bool:=eG.any fun w=>decide (w=s)
theorem mG{s:ByteArray}:mH s=true↔s∈eG:=by
 unfold mH;rw[List.any_eq_true];constructor
 ·rintro⟨w,h1,h2⟩;exact of_decide_eq_true h2 ▸ h1
 ·intro h;exact⟨s,h,by simp⟩
def aj(s:ByteArray):Bool:=sS s&&qC s&& !mH s
structure Spl(h:ad)(sp:Nat):Prop where
 out:(h sp=some (.cells #[.int .u32 0,.int .i32 0,.int .u32 0,.map none] 250 (0,0)))\/
  ∃m,h sp=some (.cells #[.int .u32 1,.int .i32 0,.int .u32 0,.map (some m)] 250 (0,0))/\Mp h m .string (rU eG)/\m≠sp
theorem Ou(w:World):(zeroValue 4).run Tryz.prog w=.ok (.bool false) w:=by
 have h:((Tryz.prog.info? 4).bind (·.zero))=some (.bool false):=by kernel_rfl
 cases h1:Tryz.prog.info? 4 with
 |none=>rw[h1]at h;cases h
 |some i=>rw[h1]at h;simp at h;simp[zeroValue,typeInfo,h1,h]
theorem zN{h:ad}{s:ByteArray}{k:Value->ad->Prop}{m:Nat}(mp:Mp h m .string (rU eG))(hk:∀t,t=mH s->k (.bool t) h):
 de (fun _=>Tryz.prog) (fun _=>Instr.lookup 248 (.map (some m)) (.string s) false) h k:=by
 by_cases hs:s∈eG
 ·exact tV PU u9 mp (key:=.string s) (v:=.bool true) True.intro (List.mem_map.2 ⟨s,hs,rfl⟩) (hk true (mG.2 hs).symm)
 ·refine qq PU u9 Ou mp (key:=.string s) True.intro ?_ (hk false ?_)
  ·intro p hp e;obtain⟨w,hw,rfl⟩:=List.mem_map.1 hp;cases e;exact hs hw
  ·cases hi:mH s with
   |false=>rfl
   |true=>exact absurd (mG.1 hi) hs
set_option maxHeartbeats 2000000 in
theorem H9{h:ad}{sp:Nat}{s:ByteArray}(q:Spl h sp):
 Ct 155 [.pointer (some ⟨sp,0,none⟩),.string s] h (fun v h'=>∃t,v=.bool t/\t=aj s/\Kp [sp] h h'/\Spl h' sp):=by
 obtain⟨A,hA⟩:=Ar.ex;refine ah A (aq ZM.ax ZM.bm) Tryz.func155 rfl (by kernel_rfl) ?_;have hn:A .iH s=(s.size:Int):=by rw[hA.iH]
 have sA:aP (A .iH s) s.size:=⟨hn⟩;have nU:∀z i,aP z i->A .byte s z=fF s i:=fun z i hz=>by
  rw[hA.byte];simp only[fF];rw[hz.eq];rfl
 generalize e1:A .aF .lss (A .iH s) 1=t1;generalize e2:A .aF .gtr (A .iH s) 12=t2;generalize e3:A .aF .lss (A .byte s 0) 97=t3;generalize e4:A .aF .gtr (A .byte s 0) 122=t4;have tM:t2=false->s.size<=12:=fun e=>by
  rw[e,hA.aF,hn]at e2;have:=of_decide_eq_false e2;omega
 have hf:sS s= !(t1||t2||t3||t4):=by rw[<-e1,<-e2,<-e3,<-e4,nU 0 0 ⟨rfl⟩,hn,hA.aF];rfl
 have Xc:t1=false->(0:Int)<=0/\0<(s.size:Int):=fun e=>by
  rw[e,hA.aF,hn]at e1;have:=of_decide_eq_false e1;omega
 have uN:∀(t:Bool) (b:Bool),t=false->sS s=false->t=aj s:=fun t b ht hq=>by rw[ht,aj,hq];rfl
 have Cn:∀(t:Bool),t=true->t=t:=fun _ _=>rfl;cbv;rw[e1];cases t1 with
 |true=>cbv;exact⟨false,rfl,uN _ true rfl hf,Kp.refl _ _,q⟩
 |false=>
  have h1:=Xc rfl;cbv;rw[e2];cases t2 with
  |true=>cbv;exact⟨false,rfl,uN _ true rfl hf,Kp.refl _ _,q⟩
  |false=>
   cbv;refine⟨h1,?_⟩;cbv;rw[e3];cases t3 with
   |true=>cbv;exact⟨false,rfl,uN _ true rfl hf,Kp.refl _ _,q⟩
   |false=>
    cbv;refine⟨h1,?_⟩;cbv;rw[e4];cases t4 with
    |true=>cbv;exact⟨false,rfl,uN _ true rfl hf,Kp.refl _ _,q⟩
    |false=>
     cbv;have WJ:sS s=true:=hf;have tM:=tM rfl;clear hf e1 e2 e3 e4 Xc uN Cn;refine aZ.go (G:=Int) (fun z=>[(27,.v (.int .i64 z))]) (fun _=>[]) (fun n z h'=>∃i:Nat,aP z i/\n=s.size-i/\i<=s.size/\h'=h/\∀j,j<i->uL (fF s j)=true) s.size 0 ⟨?_,?_,?_⟩ ⟨0,⟨rfl⟩,rfl,by omega,rfl,fun j hj=>(by omega)⟩ ?_
     ·cbv
     ·cbv
     ·cbv
     ·intro n z h' hI;cbv;obtain⟨i,hz,Fe,hi,rfl,aM⟩:=hI;refine aN (fun hc=>?_) (fun hc=>?_)
      ·rw[hz.gE (A:=A) sA]at hc;have aI:=of_decide_eq_true hc;clear hc;cbv;refine⟨hz.ix aI,?_⟩;cbv;rw[nU z i hz];generalize hw:fF s i=w;generalize e1:A .aF .lss w 97=t1;generalize e2:A .aF .gtr w 122=t2;generalize e3:A .aF .lss w 48=t3;generalize e4:A .aF .gtr w 57=t4;generalize e5:A .aF .neq w 95=t5;have jD:uL w= !((t1||t2)&&(t3||t4)&&t5):=by rw[<-e1,<-e2,<-e3,<-e4,<-e5,hA.aF];rfl
       have bad:uL w=false->aj s=false:=fun e=>by
        have:qC s=false:=by unfold qC;rw[List.all_eq_false];exact⟨i,by simp[aI],by rw[hw,e];simp⟩
        rw[aj,this];simp
       have kG:uL w=true->∀j,j<i+1->uL (fF s j)=true:=fun e j hj=>by
        rcases Nat.lt_or_ge j i with h|h
        ·exact aM j h
        ·have:j=i:=by omega
         rw[this,hw,e]
       cbv;cases t1 with
       |true=>
        cbv;rw[e3];cases t3 with
        |true=>
         cbv;rw[e5];cases t5 with
         |true=>cbv;exact⟨false,rfl,(bad (by rw[jD];rfl)).symm,Kp.refl _ _,q⟩
         |false=>cbv;exact⟨s.size-(i+1),_,by omega,⟨by cbv,by cbv,by cbv⟩,i+1,hz.succ (A:=A) (by omega),rfl,by omega,rfl,kG (by rw[jD];rfl)⟩
        |false=>
         cbv;rw[e4];cases t4 with
         |true=>
          cbv;rw[e5];cases t5 with
          |true=>cbv;exact⟨false,rfl,(bad (by rw[jD];rfl)).symm,Kp.refl _ _,q⟩
          |false=>cbv;exact⟨s.size-(i+1),_,by omega,⟨by cbv,by cbv,by cbv⟩,i+1,hz.succ (A:=A) (by omega),rfl,by omega,rfl,kG (by rw[jD];rfl)⟩
         |false=>cbv;exact⟨s.size-(i+1),_,by omega,⟨by cbv,by cbv,by cbv⟩,i+1,hz.succ (A:=A) (by omega),rfl,by omega,rfl,kG (by rw[jD];rfl)⟩
       |false=>
        cbv;rw[e2];cases t2 with
        |true=>
         cbv;rw[e3];cases t3 with
         |true=>
          cbv;rw[e5];cases t5 with
          |true=>cbv;exact⟨false,rfl,(bad (by rw[jD];rfl)).symm,Kp.refl _ _,q⟩
          |false=>cbv;exact⟨s.size-(i+1),_,by omega,⟨by cbv,by cbv,by cbv⟩,i+1,hz.succ (A:=A) (by omega),rfl,by omega,rfl,kG (by rw[jD];rfl)⟩
         |false=>
          cbv;rw[e4];cases t4 with
          |true=>
           cbv;rw[e5];cases t5 with
           |true=>cbv;exact⟨false,rfl,(bad (by rw[jD];rfl)).symm,Kp.refl _ _,q⟩
           |false=>cbv;exact⟨s.size-(i+1),_,by omega,⟨by cbv,by cbv,by cbv⟩,i+1,hz.succ (A:=A) (by omega),rfl,by omega,rfl,kG (by rw[jD];rfl)⟩
          |false=>cbv;exact⟨s.size-(i+1),_,by omega,⟨by cbv,by cbv,by cbv⟩,i+1,hz.succ (A:=A) (by omega),rfl,by omega,rfl,kG (by rw[jD];rfl)⟩
        |false=>cbv;exact⟨s.size-(i+1),_,by omega,⟨by cbv,by cbv,by cbv⟩,i+1,hz.succ (A:=A) (by omega),rfl,by omega,rfl,kG (by rw[jD];rfl)⟩
      ·rw[hz.gE (A:=A) sA]at hc;have iW:=of_decide_eq_false hc;cbv;have Jr:qC s=true:=by unfold qC;rw[List.all_eq_true];intro j hj;rw[List.mem_range]at hj;exact aM j (by omega)
       rw[ai A];have fin:∀t,t=mH s->(A .not t)=aj s:=fun t ht=>by
        rw[aj,WJ,Jr,ht,hA.not];simp
       rcases q.out with g| ⟨m,g,mp,hm⟩
       ·refine(JR (a1:=⟨sp,0,none⟩) (Q:=fun hq=>Kp [sp] h' hq/\∃m,h' m=none/\hq sp=some (.cells #[.int .u32 0,.int .i32 1,.int .u32 0,.map (some m)] 250 (0,0))/\Mp hq m .string (rU eG)) (iB g rfl) (iB g rfl) (fun h1 hu=>?_)).mono (fun v h4 hR=>?_)
        ·have e1:=hu.exp g;have g1:=(congrFun e1 sp).trans ae;refine(L3 g1).mono (fun v h2 hR=>?_);obtain⟨rfl,k2,m,hm,g2,B2⟩:=hR;have k1:Kp [sp] h' h1:=by rw[e1];exact Kp.set (by simp)
         refine⟨rfl,iB g2 rfl,iB g2 rfl,k1.trans k2,m,?_,g2,B2⟩;have bG:m≠sp:=fun e=>by rw[e,g1]at hm;cases hm
         rw[e1,av bG]at hm;exact hm
        ·obtain⟨rfl,h2,h3,⟨k2,m,hm,g2,B2⟩,u3,u4⟩:=hR;have e3:=u3.exp g2;have g3:=(congrFun e3 sp).trans ae;have e4:=u4.exp g3;have g4:=(congrFun e4 sp).trans ae;rw[e3,iV]at e4;have k4:Kp [sp] h2 h4:=by rw[e4];exact Kp.set (by simp)
         have hms:m≠sp:=fun e=>by rw[e,g]at hm;cases hm
         have EW:=B2.kp k4 (by simpa using hms);cbv;rw[ai A];refine ar g4 rfl rfl ?_;cbv;refine zN EW (fun t ht=>?_);cbv;exact⟨_,rfl,fin t ht,k2.trans k4,⟨.inr ⟨m,g4,EW,hms⟩⟩⟩
       ·refine(FF (a1:=⟨sp,0,none⟩) (iB g rfl)).mono (fun v h4 hR=>?_);obtain⟨rfl,rfl⟩:=hR;cbv;rw[ai A];refine ar g rfl rfl ?_;cbv;refine zN mp (fun t ht=>?_);cbv;exact⟨_,rfl,fin t ht,Kp.refl _ _,q⟩
theorem ND{x:bM}{h:ad}{nb:Nat}{name:ByteArray}(g:h nb=some (.cells #[.string name] 9 (0,0))){z1:Int}{t1:Bool}{s1:ByteArray}:
 Ct 173 [.agg #[.string s1,.int .i64 z1,.bool t1],.pointer (some ⟨nb,0,none⟩)] h (fun v h'=>Le h h'/\∃t,v=.bool t/\t=decide (s1=name)):=by
 obtain⟨A,hA⟩:=Ar.ex;refine ah A (aq Zx.ax Zx.bm) Tryz.func173 rfl (by kernel_rfl) ?_;cbv;refine ar g rfl rfl ?_;cbv;exact⟨Le.refl _,_,rfl,bN A _ _⟩
theorem Q9{xs:List bM}{h:ad}{b:Option Addr}{len cap:Nat}(q:Sl 165 aT h (.slice b len cap) xs){nb:Nat}{name:ByteArray}(g:h nb=some (.cells #[.string name] 9 (0,0))):
 Ct 172 [.slice b len cap,.func (.func 173) #[] #[.pointer (some ⟨nb,0,none⟩)]] h (fun v h'=>Le h h'/\∃z:Int,v=.int .i64 z/\oV xs (fun x:bM=>decide (x.name=name)) z):=by
 obtain⟨A,hA⟩:=Ar.ex;have hlen:=q.len;obtain⟨ju,iu⟩:=q.bound;generalize hp:(fun x:bM=>decide (x.name=name))=p;refine ah A (aq Zy.ax Zy.bm) Tryz.func172 rfl (by kernel_rfl) ?_;cbv;refine aZ.go (G:=Int) (fun z=>[(8,.v (.int .i64 z))]) (fun _=>[]) (fun n z h'=>∃i:Nat,aP z i/\n=len-i/\i<=len/\Le h h'/\∀j,j<i->∀y,xs[j]? =some y->p y=false) len 0 ⟨?_,?_,?_⟩ ⟨0,⟨rfl⟩,by omega,by omega,Le.refl _,fun j hj=>(by omega)⟩ ?_
 ·cbv
 ·cbv
 ·cbv
 ·intro n z h' hI;cbv;obtain⟨i,hz,hn,hi,hle,aM⟩:=hI;refine aN (fun hc=>?_) (fun hc=>?_)
  ·have aI:=hz.lt hc;clear hc;cbv;obtain⟨x,hx⟩:=aD (xs:=xs) (i:=i) (by omega);refine⟨⟨q.bF (by omega),hz.ix aI⟩,?_⟩;cbv;refine(q.mono (hle.t _)).load hx hz.eq (fun cs aJ=>?_);have aJ:cs=[.string x.name,.int .i64 x.kind,.bool x.null]:=aJ;subst aJ;cbv;refine(ND (x:=x) (hle _ _ g)).mono (fun v h2 hR=>?_);obtain⟨cB,t,rfl,ht⟩:=hR;have ht:t=p x:=by rw[<-hp];exact ht
   cbv;cases t with
   |true=>cbv;exact⟨hle.trans cB,z,rfl,⟨.inr ⟨i,x,hz,hx,ht.symm,aM⟩⟩⟩
   |false=>
    cbv;refine⟨len-(i+1),_,by omega,⟨?_,?_,?_⟩,i+1,hz.succ (A:=A) (by omega),rfl,by omega,hle.trans cB,?_⟩
    ·cbv
    ·cbv
    ·cbv
    ·intro j hj y hy;rcases Nat.lt_or_ge j i with h|h
     ·exact aM j h y hy
     ·have:j=i:=by omega
      subst this;rw[hx]at hy;cases hy;exact ht.symm
  ·have iW:=hz.ge hc;cbv;refine⟨hle,-1,rfl,⟨.inl ⟨rfl,fun x hx=>?_⟩⟩⟩;obtain⟨j,hj⟩:=List.getElem?_of_mem hx;have:=(List.getElem?_eq_some_iff.1 hj).1;exact aM j (by omega) x hj
theorem JE{cols:List bM}{h:ad}{b:Option Addr}{n c:Nat}(q:Sl 165 aT h (.slice b n c) cols){nm s:ByteArray}{k:Int}{only:Bool}:
 Ct 91 [.agg #[.string nm,.slice b n c,.int .i64 k,.bool only],.string s] h (fun v h'=>Le h h'/\∃z t z',v=.tuple #[.int .i64 z,.bool t]/\oV cols (fun x=>decide (x.name=s)) z'/\z=max z' 0/\t=decide (z'>=0)):=by
 obtain⟨A,hA⟩:=Ar.ex;refine ah A (aq T91.ax T91.bm) Tryz.func91 rfl (by kernel_rfl) ?_;cbv;intro nb h1 eK e1;have l1:Le h h1:=by rw[e1];exact Le.set eK
 have g1:=(congrFun e1 nb).trans ae;cbv;refine(Q9 (q.mono (l1.t _)) g1).mono (fun v h2 hR=>?_);obtain⟨l2,z,rfl,hz⟩:=hR;cbv;exact⟨l1.trans l2,_,_,z,rfl,hz,by rw[hA.imax],bO A _ _⟩
theorem Kp.VI{n e:Nat}{c:Array Value}{fr:Nat×Nat}{tys:List Nat}{h h':ad}(x:Kp [n] h h')(g:h n=some (.cells c e fr))(he:e∉tys):bE tys h h':=fun b d e' Fu hm hb=>by
 by_cases AE:b=n
 ·rw[AE,g]at hb;cases hb;exact absurd hm he
 ·exact x b _ hb (by simpa using AE)
def dA(cols:List bM)(i:Nat)(c:bM):Int:=
 if(!aj c.name||(cols.take i).any fun x=>decide (x.name=c.name))=true then 12 else if(decide (c.kind<1)||decide (c.kind>3))=true then 3 else 0
def gA(cols:List bM):Int:=((cols.zipIdx.map fun(c,i)=>dA cols i c).find? (fun z=>z !=0)).getD 0
def fR(s:Bh):Int:=
 if(!aj s.name)=true then 12
 else if(decide ((s.cols.length:Int)<1)||decide ((s.cols.length:Int)>6))=true then 4
 else if gA s.cols≠0 then gA s.cols
 else if(decide (s.key<0)||decide (s.key>=(s.cols.length:Int)))=true then 1
 else if((s.cols[s.key.toNat]?).map (·.null)).getD false=true then 13 else 0
theorem vM{cols:List bM}{i:Nat}{c:bM}(hc:cols[i]? =some c)(aM:∀j,j<i->∀y,cols[j]? =some y->dA cols j y=0)(bG:dA cols i c≠0):gA cols=dA cols i c:=by
 unfold gA;have:(cols.zipIdx.map fun(c,i)=>dA cols i c).find? (fun z=>z !=0)=some (dA cols i c):=by
  rw[List.find?_eq_some_iff_getElem];have aI:=(List.getElem?_eq_some_iff.1 hc).1;refine⟨by simpa using bG,i,by simpa using aI,?_,fun j hj=>?_⟩
  ·have:=(List.getElem?_eq_some_iff.1 hc).2;simp[this]
  ·have rO:j<cols.length:=by omega
   have:=aM j hj cols[j] (by simp[rO]);simp[this]
 rw[this];rfl
theorem rC{cols:List bM}(aM:∀j,j<cols.length->∀y,cols[j]? =some y->dA cols j y=0):gA cols=0:=by
 unfold gA;have:(cols.zipIdx.map fun(c,i)=>dA cols i c).find? (fun z=>z !=0)=none:=by rw[List.find?_eq_none];intro x hx;obtain⟨⟨c,i⟩,hm,rfl⟩:=List.mem_map.1 hx;have:=List.mem_zipIdx_iff_getElem?.1 hm;have aI:=(List.getElem?_eq_some_iff.1 this).1;simp[aM i aI c this]
 rw[this];rfl
theorem IP{cols:List bM}{i:Nat}{c:bM}(hc:cols[i]? =some c){z':Int}(hr:oV cols (fun x=>decide (x.name=c.name)) z'):
 decide (max z' 0<(i:Int))=(cols.take i).any fun x=>decide (x.name=c.name):=by
 rcases hr.out with ⟨-,h⟩ | ⟨k,x,hk,hx,hp,aM⟩
 ·have:=h c (List.mem_of_getElem? hc);simp at this
 ·have hz:=hk.eq;by_cases aI:k<i
  ·rw[decide_eq_true (by omega),eq_comm,List.any_eq_true];exact⟨x,List.mem_of_getElem? (i:=k) (by rw[List.getElem?_take,if_pos aI];exact hx),hp⟩
  ·have hki:¬i<k:=fun h=>by have:=aM i h c hc;simp at this
   rw[decide_eq_false (by omega),eq_comm,List.any_eq_false];intro y hy;obtain⟨j,hj⟩:=List.getElem?_of_mem hy;rw[List.getElem?_take]at hj;split at hj
   ·rename_i jE;have:=aM j (by omega) y hj;simpa using this
   ·cases hj
set_option maxHeartbeats 2000000 in
theorem D8{nm:ByteArray}{cols:List bM}{key:Int}{only:Bool}{h:ad}{b:Option Addr}{n c:Nat}(q:Sl 165 aT h (.slice b n c) cols):
 Ct 77 [.agg #[.string nm,.slice b n c,.int .i64 key,.bool only]] h (fun v h'=>Le h h'/\∃z,v=.int .i64 z/\z=fR ⟨nm,cols,key,only⟩):=by
 obtain⟨A,hA⟩:=Ar.ex;have hlen:=q.len;obtain⟨ju,iu⟩:=q.bound;have hn:A .nat n=(cols.length:Int):=by rw[hA.nat,hlen];rfl
 have sA:aP (A .nat n) n:=⟨by rw[hA.nat];rfl⟩;generalize e1:A .aF .lss (A .nat n) 1=t1;generalize e2:A .aF .gtr (A .nat n) 6=t2;have f12:(decide ((cols.length:Int)<1)||decide ((cols.length:Int)>6))=(t1||t2):=by rw[<-e1,<-e2,hn,bC A,bH A]
 refine ah A (aq T77.ax T77.bm) Tryz.func77 rfl (by kernel_rfl) ?_;cbv;intro sp h1 TZ e0;have l1:Le h h1:=by rw[e0];exact Le.set TZ
 have Uq:=(congrFun e0 sp).trans ae;have s1:Spl h1 sp:=⟨.inl Uq⟩;have q1:=q.mono (l1.t _);clear e0;cbv;refine(H9 s1).mono (fun v h2 hR=>?_);obtain⟨t,rfl,ht,k2,s2⟩:=hR;cbv;rw[hA.not];cases t with
 |false=>cbv;refine⟨l1.cm (by simpa using TZ) k2,12,rfl,?_⟩;unfold fR;rw[<-ht];rfl
 |true=>
  cbv;rw[e1];have many:(t1||t2)=true->(4:Int)=fR ⟨nm,cols,key,only⟩:=fun hm=>by
   unfold fR;rw[<-ht,f12,hm];rfl
  cases t1 with
  |true=>cbv;exact⟨l1.cm (by simpa using TZ) k2,4,rfl,many rfl⟩
  |false=>
   cbv;rw[e2];cases t2 with
   |true=>cbv;exact⟨l1.cm (by simpa using TZ) k2,4,rfl,many rfl⟩
   |false=>
    clear many e1 e2;cbv;refine aZ.go (G:=Int) (fun z=>[(25,.v (.int .i64 z))]) (fun _=>[(1,[.string nm,.slice b n c,.int .i64 key,.bool only])])
     (fun k z h'=>∃i:Nat,aP z i/\k=n-i/\i<=n/\Kp [sp] h1 h'/\Spl h' sp/\∀j,j<i->∀y,cols[j]? =some y->dA cols j y=0) n 0 ⟨?_,?_,?_⟩ ⟨0,⟨rfl⟩,by omega,by omega,k2,s2,fun j hj=>(by omega)⟩ ?_
    ·cbv
    ·cbv
    ·cbv
    ·intro k z h' hI;cbv;obtain⟨i,hz,hk,hi,kp,sp',aM⟩:=hI;refine aN (fun hc=>?_) (fun hc=>?_)
     ·have aI:=hz.lt hc;clear hc;cbv;obtain⟨x,hx⟩:=aD (xs:=cols) (i:=i) (by omega);have q':=q1.mono (Kp.VI kp Uq (by decide));refine⟨⟨q.bF (by omega),hz.ix aI⟩,?_⟩;cbv;refine q'.load hx hz.eq (fun cs aJ=>?_);have aJ:cs=[.string x.name,.int .i64 x.kind,.bool x.null]:=aJ;subst aJ;generalize MJ:x.name=xn at *;generalize DE:x.kind=xk at *;cbv;refine(JE q').mono (fun v h3 hR=>?_);obtain⟨l3,z3,t3,z',rfl,hr,IT,ht3⟩:=hR;have s3:Spl h3 sp:=by
       rcases sp'.out with g| ⟨m,g,mp,hm⟩
       ·exact⟨.inl (l3 _ _ g)⟩
       ·exact⟨.inr ⟨m,l3 _ _ g,mp.kp (l3.kp []) (by simp),hm⟩⟩
      have jV:A .aF .lss z3 z=(cols.take i).any fun y=>decide (y.name=xn):=by rw[bC A,IT,hz.eq,<-MJ];exact IP hx (by rw[MJ];exact hr)
      cbv;refine(H9 s3).mono (fun v h4 hR=>?_);obtain⟨t,rfl,ht4,k4,s4⟩:=hR;have QX:=(kp.trans (l3.kp _)).trans k4;have Mq:Le h h4:=l1.cm (by simpa using TZ) QX;have bad:∀e:Int,dA cols i x=e->e≠0->e=fR ⟨nm,cols,key,only⟩:=fun e he bG=>by
       have h5:=vM hx aM (by rw[he];exact bG);unfold fR;rw[<-ht,f12];simp only[h5,he];rw[if_neg (by simp),if_neg (by simp),if_pos bG]
      have kG:dA cols i x=0->∀j,j<i+1->∀y,cols[j]? =some y->dA cols j y=0:=fun e j hj y hy=>by
       rcases Nat.lt_or_ge j i with jE|jE
       ·exact aM j jE y hy
       ·have:j=i:=by omega
        subst this;rw[hx]at hy;cases hy;exact e
      generalize e1:A .aF .lss z3 z=u1 at *;generalize e2:A .aF .lss xk 1=u2;generalize e3:A .aF .gtr xk 3=u3;have R4:dA cols i x=if(!t||u1)=true then 12 else if(u2||u3)=true then 3 else 0:=by unfold dA;rw[MJ,DE,<-ht4,<-jV,<-e2,<-e3,bC A,bH A]
      cbv;rw[hA.not];cases t with
      |false=>cbv;exact⟨Mq,12,rfl,bad 12 R4 (by decide)⟩
      |true=>
       cbv;try rw[e1]
       cases u1 with
       |true=>cbv;exact⟨Mq,12,rfl,bad 12 R4 (by decide)⟩
       |false=>
        cbv;rw[e2];cases u2 with
        |true=>cbv;exact⟨Mq,3,rfl,bad 3 R4 (by decide)⟩
        |false=>
         cbv;rw[e3];cases u3 with
         |true=>cbv;exact⟨Mq,3,rfl,bad 3 R4 (by decide)⟩
         |false=>
          cbv;refine⟨n-(i+1),_,by omega,⟨?_,?_,?_⟩,i+1,hz.succ (A:=A) (by omega),rfl,by omega,QX,s4,kG R4⟩
          ·cbv
          ·cbv
          ·cbv
     ·have iW:=hz.ge hc;have h0:gA cols=0:=rC fun j hj y hy=>aM j (by omega) y hy;have Mq:Le h h':=l1.cm (by simpa using TZ) kp;have q':=q1.mono (Kp.VI kp Uq (by decide));generalize e1:A .aF .lss key 0=u1;generalize e2:A .aF .geq key (A .nat n)=u2;have hs:fR ⟨nm,cols,key,only⟩=if(u1||u2)=true then 1 else if((cols[key.toNat]?).map (·.null)).getD false=true then 13 else 0:=by unfold fR;rw[<-ht,f12];simp only[h0];rw[if_neg (by simp),if_neg (by simp),if_neg (by simp),<-e1,<-e2,bC A,bO A,hn]
      cbv;rw[e1];cases u1 with
      |true=>cbv;exact⟨Mq,1,rfl,hs.symm⟩
      |false=>
       cbv;rw[e2];cases u2 with
       |true=>cbv;exact⟨Mq,1,rfl,hs.symm⟩
       |false=>
        obtain⟨pd,pT⟩:=Cb A e1 e2;obtain⟨x,hx⟩:=aD (xs:=cols) (i:=key.toNat) (by omega);rw[hx]at hs;cbv;refine⟨⟨q.bF (by omega),pd.ix pT⟩,?_⟩;cbv;refine q'.js hx pd.eq (by decide) (fun cs aJ=>?_);have aJ:cs=[.string x.name,.int .i64 x.kind,.bool x.null]:=aJ;subst aJ;have hs:fR ⟨nm,cols,key,only⟩=if x.null=true then 13 else 0:=hs
        generalize x.null=nl at *;cases nl with
        |true=>cbv;exact⟨Mq,13,rfl,hs.symm⟩
        |false=>cbv;exact⟨Mq,0,rfl,hs.symm⟩
theorem J1(a b:Int)(h:ad)(c1 c2:Value):Ct 112 [.agg #[.int .i64 a,c1,c2],.int .i64 b] h (fun v h'=>Le h h'/\∃z,v=.int .i64 z/\z=IntKind.i64.wrap (a-b)):=by obtain⟨A,hA⟩:=Ar.ex;refine ah A (aq Z0.ax Z0.bm) Tryz.func112 rfl (by kernel_rfl) ?_;cbv;exact⟨Le.refl _,_,rfl,by rw[hA.bA];rfl⟩
theorem XG{xs:List (dw×Bool)}{h:ad}{b:Option Addr}{len cap:Nat}(q:Sl 55 bQ h (.slice b len cap) xs)(kP:Int):
 Ct 111 [.slice b len cap,.int .i64 kP,.func (.func 112) #[] #[]] h (fun v h'=>Le h h'/\∃(z:Int) (t:Bool),v=.tuple #[.int .i64 z,.bool t]/\Gi (xs.map (fun x:dw×Bool=>IntKind.i64.wrap (x.1.s-kP))) z t):=by
 obtain⟨A,hA⟩:=Ar.ex;have hlen:=q.len;obtain⟨ju,iu⟩:=q.bound;have tJ:(xs.map (fun x:dw×Bool=>IntKind.i64.wrap (x.1.s-kP))).length=len:=by simp[hlen]
 generalize hl:xs.map (fun x:dw×Bool=>IntKind.i64.wrap (x.1.s-kP))=l at tJ;have lX:∀(i:Nat) x,xs[i]? =some x->l[i]? =some ((fun x:dw×Bool=>IntKind.i64.wrap (x.1.s-kP)) x):=fun i x hx=>by rw[<-hl];simp[hx]
 refine ah A (aq Z1.ax Z1.bm) Tryz.func111 rfl (by kernel_rfl) ?_;cbv;refine aZ.go (G:=Int×Int) (fun g=>[(9,.v (.int .i64 g.1)),(10,.v (.int .i64 g.2))]) (fun _=>[])
  (fun n g h'=>∃i j:Nat,aP g.1 i/\aP g.2 j/\n=j-i/\i<=j/\j<=len/\Le h h'/\lF l 0 len=lF l i j) len (0,A .nat len) ⟨?_,?_,?_⟩ ⟨0,len,⟨rfl⟩,⟨by rw[hA.nat];rfl⟩,by omega,by omega,by omega,Le.refl _,rfl⟩ ?_
 ·cbv
 ·cbv
 ·cbv
 ·intro n g h' hI;cbv;obtain⟨i,j,hi,hj,hn,O9,rO,hle,Ph⟩:=hI;refine aN (fun hc=>?_) (fun hc=>?_)
  ·rw[hi.gE (A:=A) hj,decide_eq_true_eq]at hc;cbv;refine⟨by decide,?_⟩;cbv;have hm:=hi.mid (A:=A) hj (by omega) (by omega);obtain⟨x,hx⟩:=aD (xs:=xs) (i:=(i+j) / 2) (by omega);refine⟨⟨q.bF (by omega),hm.ix (by omega)⟩,?_⟩;cbv;refine(q.mono (hle.t _)).load hx hm.eq (fun cs aJ=>?_);obtain⟨b1,n1,k1,b2,n2,k2,rfl,q1,q2,-⟩:=aJ;cbv;refine(J1 x.1.s kP _ _ _).mono (fun v h2 hR=>?_);obtain⟨cB,z,rfl,hz⟩:=hR;cbv;have hg:l.getD ((i+j) / 2) 0=z:=by rw[List.getD_eq_getElem?_getD,lX _ _ hx,hz];rfl
   have ir:=Ph;rw[lF.eq_1 l i j,if_pos hc,hg]at ir;refine aN (fun jW=>?_) (fun jW=>?_)
   ·rw[hA.aF]at jW;have AB:z<0:=of_decide_eq_true jW;rw[if_pos AB]at ir;clear jW AB;cbv;refine⟨j-((i+j) / 2+1),(_,g.2),by omega,⟨?_,?_,?_⟩,(i+j) / 2+1,j,hm.succ (A:=A) (by omega),hj,rfl,by omega,rO,hle.trans cB,ir⟩
    ·cbv
    ·cbv
    ·cbv
   ·rw[hA.aF]at jW;have AB:¬z<0:=of_decide_eq_false jW;rw[if_neg AB]at ir;clear jW AB;cbv;refine⟨(i+j) / 2-i,(g.1,A .conv .i64 (A .bA .shr .u64 (A .conv .u64 (A .bA .add .i64 g.1 g.2)) 1)),by omega,⟨?_,?_,?_⟩,i,(i+j) / 2,hi,hm,rfl,by omega,by omega,hle.trans cB,ir⟩
    ·cbv
    ·cbv
    ·cbv
  ·rw[hi.gE (A:=A) hj,decide_eq_false_iff_not]at hc;cbv;have ir:=Ph;rw[lF.eq_1 l i j,if_neg hc]at ir;have jN:=hi.gE (A:=A) (w:=A .nat len) (j:=len) ⟨by rw[hA.nat];rfl⟩;refine aN (fun jW=>?_) (fun jW=>?_)
   ·rw[jW];rw[jN,decide_eq_true_eq]at jW;cbv;obtain⟨x,hx⟩:=aD (xs:=xs) (i:=i) (by omega);refine⟨⟨q.bF (by omega),hi.ix (by omega)⟩,?_⟩;cbv;refine(q.mono (hle.t _)).load hx hi.eq (fun cs aJ=>?_);obtain⟨b1,n1,k1,b2,n2,k2,rfl,q1,q2,-⟩:=aJ;cbv;refine(J1 x.1.s kP _ _ _).mono (fun v h2 hR=>?_);obtain⟨cB,z,rfl,hz⟩:=hR;cbv;refine⟨hle.trans cB,_,_,rfl,⟨i,hi,?_,?_⟩⟩
    ·rw[tJ];exact ir.symm
    ·rw[hA.aF];have hg:l.getD i 0=z:=by rw[List.getD_eq_getElem?_getD,lX _ _ hx,hz];rfl
     rw[hg,tJ];simp[aF,jW];rfl
   ·rw[jW];rw[jN,decide_eq_false_iff_not]at jW;cbv;refine⟨hle,_,_,rfl,⟨i,hi,?_,?_⟩⟩
    ·rw[tJ];exact ir.symm
    ·rw[tJ];simp[jW]
theorem x9{h:ad}{c tb wb ct cw:Nat}{T:List cg}{W:List (dw×Bool)}{H Wt:List bP}{e:Int}(q:iG h c tb wb ct cw T W H Wt e)(kP:Int):
 Ct 49 [.pointer (some ⟨c,0,none⟩),.int .i64 kP] h (fun v h'=>Le h h'/\∃z t,v=.tuple #[.int .i64 z,.bool t]/\Gi (W.map (fun x=>IntKind.i64.wrap (x.1.s-kP))) z t):=by
 obtain⟨A,hA⟩:=Ar.ex;obtain⟨n1,n2,b3,n3,c3,b4,n4,c4,o,g0,g1,g2,g3,g4,g5,g6,g7⟩:=q.out;refine ah A (aq T49.ax T49.bm) Tryz.func49 rfl (by kernel_rfl) ?_;cbv;rw[ai A];rw[ai A];refine ar g0 rfl rfl ?_;cbv;refine(XG (g5.sl g4) kP).mono (fun v h2 hR=>?_);obtain⟨l2,z,t,rfl,hz⟩:=hR;cbv;exact⟨l2,z,t,rfl,hz⟩
theorem tS{h:ad}{c tb wb ct cw:Nat}{T:List cg}{W:List (dw×Bool)}{H Wt:List bP}{e:Int}(q:iG h c tb wb ct cw T W H Wt e)(name:ByteArray):
 Ct 105 [.pointer (some ⟨c,0,none⟩),.string name] h (fun v h'=>Le h h'/\∃z t,v=.tuple #[.int .i64 z,.bool t]/\Gi (T.map (fun x=>eI x.S.name name)) z t):=by
 obtain⟨A,hA⟩:=Ar.ex;obtain⟨n1,n2,b3,n3,c3,b4,n4,c4,o,g0,g1,g2,g3,g4,g5,g6,g7⟩:=q.out;refine ah A (aq Z7.ax Z7.bm) Tryz.func105 rfl (by kernel_rfl) ?_;cbv;rw[ai A];rw[ai A];refine ar g0 rfl rfl ?_;cbv;refine(bs98 (g3.sl g2) name).mono (fun v h2 hR=>?_);obtain⟨l2,z,t,rfl,hz⟩:=hR;cbv;exact⟨l2,z,t,rfl,hz⟩
theorem IJ{xs:List cg}{x:cg}{h:ad}{b vb:Option Addr}{n cv:Nat}(q:Sl 51 cL h (.slice b n n) xs)(qv:Sl 51 cL h (.slice vb 1 cv) [x]){z:Int}{i:Nat}(hz:aP z i)(hi:i<=n)(hn:n<=2^38):
 Ct 106 [.slice b n n,.int .i64 z,.slice vb 1 cv] h (fun v h'=>Le h h'/\∃nb c m,v=.slice (some ⟨nb,0,none⟩) m c/\h nb=none/\m=n+1/\dq 51 cL h' nb c (xs.take i++[x]++xs.drop i)):=by
 obtain⟨A,hA⟩:=Ar.ex;have hlen:=q.len;have sA:aP (A .nat n) n:=⟨by rw[hA.nat];rfl⟩;have GF:aP (A .nat 1) 1:=⟨by rw[hA.nat];rfl⟩;have e1:A .aF .eql (A .nat 1) 0=false:=by rw[aw A,hA.nat];rfl
 have e2:A .aF .eql z (A .nat n)=decide (i=n):=by rw[aw A,hA.nat];have:=hz.eq;rw[decide_eq_decide];simp only[Int.ofNat_eq_natCast];omega
 have e3:A .aF .gtr (A .bA .add .i64 (A .nat n) (A .nat 1)) (A .nat n)=true:=by rw[bH A,decide_eq_true_eq,hA.bA,hA.nat];simp only[bA,Int.ofNat_eq_natCast];rw[IntWalk.i64_in _ (by omega)];omega
 have hw:=(sA.add (A:=A) GF (by omega)).sub (A:=A) hz (by omega) (by omega);have cy:=oe hw (bytes:=80) (by omega) (by decide);have pR:0<=z/\z<=(n:Int):=by have:=hz.eq;omega
 refine ah A (aq Z6.ax Z6.bm) Tryz.func106 rfl (by kernel_rfl) ?_;cbv;refine⟨pR,?_⟩;cbv;rw[e1];cbv;rw[e2];by_cases fI:i=n
 ·rw[decide_eq_true fI];cbv;refine jA q qv (by omega) rfl (by decide) (by omega) (fun nb c h1 eK l1 hc ho=>?_);cbv;refine⟨l1,nb,c,_,rfl,eK,rfl,?_⟩;rw[fI,hlen,List.take_length,List.drop_length,List.append_nil];exact ho
 ·rw[decide_eq_false fI];cbv;rw[e3];cbv;refine⟨pR,?_⟩;cbv;refine⟨cy,?_⟩;cbv;rw[dv (A:=A) hz];rw[dv (A:=A) hw];refine jz (q.Dc (A:=A) hi) (by omega) rfl (by decide) (by omega) rfl rfl (fun nb c h1 eK l1 hc ho=>?_);obtain⟨m,hm⟩:∃m,m=n+1:=⟨_,rfl⟩;rw[show i+(n+1-i)=m by omega];have hmN:aP (A .nat m) m:=⟨by rw[hA.nat];rfl⟩;have hcN:aP (A .nat c) c:=⟨by rw[hA.nat];rfl⟩;have hzm:0<=z/\z<=(m:Int):=by have:=hz.eq;omega
  have mW:=hz.add (A:=A) GF (by omega);have Rc:0<=A .bA .add .i64 z (A .nat 1)/\A .bA .add .i64 z (A .nat 1)<=(m:Int):=by have:=mW.eq;omega
  have aI:(xs.take i).length=i:=by rw[List.length_take];omega
  cbv;refine⟨hzm,?_⟩;cbv;rw[rv (A:=A) hz (by omega),ei (A:=A) hz];have qv1:=qv.mono (l1.t _);refine rA ho (by decide) (i:=i) (by omega) qv1 (by omega) (by omega) (by omega) rfl (fun h2 k2 t2 o2=>?_);rw[List.take_take,Nat.min_self,List.drop_eq_nil_of_le (by omega),List.append_nil]at o2;have l2:Le h h2:=l1.cm (by simpa using eK) k2;have q2:=q.mono (l2.t _);generalize ((min 1 (m-i):Nat):Int)=w1;cbv;refine⟨Rc,?_⟩;cbv;refine⟨pR,?_⟩;cbv;rw[rv (A:=A) mW (by omega),ei (A:=A) mW,ei (A:=A) hz,ei (A:=A) hz];refine rA o2 (by decide) (i:=i+1) (by simp;omega) (q2.tu (A:=A) hz hi rfl rfl) (by omega) (by omega) (by omega) rfl (fun h3 k3 t3 o3=>?_);generalize ((min (n-i) (m-(i+1)):Nat):Int)=w2;cbv;refine⟨l2.cm (by simpa using eK) k3,nb,c,m,rfl,eK,hm,?_⟩;have e5:(List.take i xs++[x]).length=i+1:=by simp;omega
  have e6:List.take (i+1) (List.take i xs++[x])=List.take i xs++[x]:=List.take_of_length_le (by omega);have e7:List.drop (i+1+(n-i)) (List.take i xs++[x])=[]:=List.drop_eq_nil_of_le (by omega);rw[e6,e7,List.append_nil]at o3;exact o3
theorem II{xs:List (dw×Bool)}{x:dw×Bool}{h:ad}{b vb:Option Addr}{n cv:Nat}(q:Sl 55 bQ h (.slice b n n) xs)(qv:Sl 55 bQ h (.slice vb 1 cv) [x]){z:Int}{i:Nat}(hz:aP z i)(hi:i<=n)(hn:n<=2^38):
 Ct 51 [.slice b n n,.int .i64 z,.slice vb 1 cv] h (fun v h'=>Le h h'/\∃nb c m,v=.slice (some ⟨nb,0,none⟩) m c/\h nb=none/\m=n+1/\dq 55 bQ h' nb c (xs.take i++[x]++xs.drop i)):=by
 obtain⟨A,hA⟩:=Ar.ex;have hlen:=q.len;have sA:aP (A .nat n) n:=⟨by rw[hA.nat];rfl⟩;have GF:aP (A .nat 1) 1:=⟨by rw[hA.nat];rfl⟩;have e1:A .aF .eql (A .nat 1) 0=false:=by rw[aw A,hA.nat];rfl
 have e2:A .aF .eql z (A .nat n)=decide (i=n):=by rw[aw A,hA.nat];have:=hz.eq;rw[decide_eq_decide];simp only[Int.ofNat_eq_natCast];omega
 have e3:A .aF .gtr (A .bA .add .i64 (A .nat n) (A .nat 1)) (A .nat n)=true:=by rw[bH A,decide_eq_true_eq,hA.bA,hA.nat];simp only[bA,Int.ofNat_eq_natCast];rw[IntWalk.i64_in _ (by omega)];omega
 have hw:=(sA.add (A:=A) GF (by omega)).sub (A:=A) hz (by omega) (by omega);have cy:=oe hw (bytes:=56) (by omega) (by decide);have pR:0<=z/\z<=(n:Int):=by have:=hz.eq;omega
 refine ah A (aq T51.ax T51.bm) Tryz.func51 rfl (by kernel_rfl) ?_;cbv;refine⟨pR,?_⟩;cbv;rw[e1];cbv;rw[e2];by_cases fI:i=n
 ·rw[decide_eq_true fI];cbv;refine jA q qv (by omega) rfl (by decide) (by omega) (fun nb c h1 eK l1 hc ho=>?_);cbv;refine⟨l1,nb,c,_,rfl,eK,rfl,?_⟩;rw[fI,hlen,List.take_length,List.drop_length,List.append_nil];exact ho
 ·rw[decide_eq_false fI];cbv;rw[e3];cbv;refine⟨pR,?_⟩;cbv;refine⟨cy,?_⟩;cbv;rw[dv (A:=A) hz];rw[dv (A:=A) hw];refine jz (q.Dc (A:=A) hi) (by omega) rfl (by decide) (by omega) rfl rfl (fun nb c h1 eK l1 hc ho=>?_);obtain⟨m,hm⟩:∃m,m=n+1:=⟨_,rfl⟩;rw[show i+(n+1-i)=m by omega];have hmN:aP (A .nat m) m:=⟨by rw[hA.nat];rfl⟩;have hcN:aP (A .nat c) c:=⟨by rw[hA.nat];rfl⟩;have hzm:0<=z/\z<=(m:Int):=by have:=hz.eq;omega
  have mW:=hz.add (A:=A) GF (by omega);have Rc:0<=A .bA .add .i64 z (A .nat 1)/\A .bA .add .i64 z (A .nat 1)<=(m:Int):=by have:=mW.eq;omega
  have aI:(xs.take i).length=i:=by rw[List.length_take];omega
  cbv;refine⟨hzm,?_⟩;cbv;rw[rv (A:=A) hz (by omega),ei (A:=A) hz];have qv1:=qv.mono (l1.t _);refine rA ho (by decide) (i:=i) (by omega) qv1 (by omega) (by omega) (by omega) rfl (fun h2 k2 t2 o2=>?_);rw[List.take_take,Nat.min_self,List.drop_eq_nil_of_le (by omega),List.append_nil]at o2;have l2:Le h h2:=l1.cm (by simpa using eK) k2;have q2:=q.mono (l2.t _);generalize ((min 1 (m-i):Nat):Int)=w1;cbv;refine⟨Rc,?_⟩;cbv;refine⟨pR,?_⟩;cbv;rw[rv (A:=A) mW (by omega),ei (A:=A) mW,ei (A:=A) hz,ei (A:=A) hz];refine rA o2 (by decide) (i:=i+1) (by simp;omega) (q2.tu (A:=A) hz hi rfl rfl) (by omega) (by omega) (by omega) rfl (fun h3 k3 t3 o3=>?_);generalize ((min (n-i) (m-(i+1)):Nat):Int)=w2;cbv;refine⟨l2.cm (by simpa using eK) k3,nb,c,m,rfl,eK,hm,?_⟩;have e5:(List.take i xs++[x]).length=i+1:=by simp;omega
  have e6:List.take (i+1) (List.take i xs++[x])=List.take i xs++[x]:=List.take_of_length_le (by omega);have e7:List.drop (i+1+(n-i)) (List.take i xs++[x])=[]:=List.drop_eq_nil_of_le (by omega);rw[e6,e7,List.append_nil]at o3;exact o3
theorem fP.form{h:ad}{v:Value}{d:DB}(q:fP h v d):∃b1 n1 c1 b2 n2 c2 b3 n3 c3 b4 n4 c4,v=.agg #[.slice b1 n1 c1,.slice b2 n2 c2,.slice b3 n3 c3,.slice b4 n4 c4]:=by obtain⟨b1,n1,c1,b2,n2,c2,b3,n3,c3,b4,n4,c4,ws,rfl,-⟩:=q.out;exact⟨_,_,_,_,_,_,_,_,_,_,_,_,rfl⟩
theorem fP.mono{h h':ad}{v:Value}{d:DB}(q:fP h v d)(l:Le h h'):fP h' v d:=by obtain⟨b1,n1,c1,b2,n2,c2,b3,n3,c3,b4,n4,c4,ws,rfl,q1,q2,q3,q4,q5⟩:=q.out;exact⟨_,_,_,_,_,_,_,_,_,_,_,_,ws,rfl,q1.mono (l.t _),q2.mono (l.t _),q3.mono (l.t _),q4.mono (l.t _),q5⟩
theorem lA{d:DB}{h:ad}{v:Value}(q:fP h v d):Ct 50 [v] h (fun v' h'=>Le h h'/\fP h' v' d):=by refine(OJ q).mono (fun v h1 hR=>?_);obtain⟨l1,tb,wb,n1,n2,b3,n3,c3,b4,n4,c4,W,pJ,sY,rfl,g1,g2,g3,g4,g5,g6,g7⟩:=hR;exact⟨l1,⟨_,_,_,_,_,_,_,_,_,_,_,_,W,rfl,g2.sl g1,g4.sl g3,g5,g6,by rw[g7,List.map_map];simp[Function.comp_def]⟩⟩
def nz(d:DB)(w:List dw):DB:={ d with au:=w }
def gK(d:DB)(kP:Int)(i:Nat)(is:Bool):DB×Int:=
 if(decide (kP<0)||decide (kP>=8))=true then(d,1)
 else if is=true then(d,7)
 else(nz d (d.au.take i++[⟨kP,[],[]⟩]++d.au.drop i),0)
theorem N2{d:DB}{h:ad}{v:Value}(q:fP h v d)(kP:Int)(hlen:d.au.length<=2^37):
 Ct 25 [v,.int .i64 kP] h (fun v' h'=>∃v1 e z i is,v'=.tuple #[v1,.int .i64 e]/\Le h h'/\fP h' v1 (gK d kP i is).1/\e=(gK d kP i is).2/\aP z i/\Gi (d.au.map fun x=>IntKind.i64.wrap (x.s-kP)) z is):=by
 obtain⟨A,hA⟩:=Ar.ex;obtain⟨b1,n1,c1,b2,n2,c2,b3,n3,c3,b4,n4,c4,rfl⟩:=q.form;generalize e1:A .aF .lss kP 0=u1;generalize e2:A .aF .geq kP 8=u2;have tM:(decide (kP<0)||decide (kP>=8))=(u1||u2):=by rw[<-e1,<-e2,bC A,bO A]
 refine ah A (aq T25.ax T25.bm) Tryz.func25 rfl (by kernel_rfl) ?_;cbv;refine(zm q).mono (fun v h1 hR=>?_);obtain⟨l1,c,tb,wb,ct,cw,W,rfl,hc,pJ,sY,rf,pf,hW,NK,GI,cs⟩:=hR;cbv;refine(x9 cs kP).mono (fun v h2 hR=>?_);obtain⟨l2,z,t,rfl,hb⟩:=hR;have nh:Gi (d.au.map fun x=>IntKind.i64.wrap (x.s-kP)) z t:=by rw[hW,List.map_map]at hb;exact hb
 have iu:=nh;obtain⟨i,hz,hi,ht⟩:=iu.out;have fH:=l1.trans l2;have q2:=q.mono fH;have arg:(u1||u2)=true->gK d kP i t=(d,1):=fun e=>by unfold gK;rw[tM,e];rfl
 have is7:(u1||u2)=false->t=true->gK d kP i t=(d,7):=fun e et=>by unfold gK;rw[tM,e,et];rfl
 have new:(u1||u2)=false->t=false->gK d kP i t=(nz d (d.au.take i++[⟨kP,[],[]⟩]++d.au.drop i),0):=fun e et=>by unfold gK;rw[tM,e,et];rfl
 have fin:∀(e:Int) (v:Value) (h3:ad),Le h h3->gK d kP i t=(d,e)->fP h3 v d->∃v1 e1 z i is,Value.tuple #[v,.int .i64 e]=.tuple #[v1,.int .i64 e1]/\Le h h3/\fP h3 v1 (gK d kP i is).1/\e1=(gK d kP i is).2/\aP z i/\Gi (d.au.map fun x=>IntKind.i64.wrap (x.s-kP)) z is:=
  fun e v h3 l3 hr hd=>⟨v,e,z,i,t,rfl,l3,by rw[hr];exact hd,by rw[hr],hz,nh⟩
 cbv;rw[e1];cases u1 with
 |true=>cbv;refine(lA q2).mono (fun v h3 hR=>?_);obtain⟨l3,hd⟩:=hR;obtain⟨b1,n1,c1,b2,n2,c2,b3,n3,c3,b4,n4,c4,rfl⟩:=hd.form;cbv;exact fin 1 _ _ (fH.trans l3) (arg rfl) hd
 |false=>
  cbv;rw[e2];cases u2 with
  |true=>cbv;refine(lA q2).mono (fun v h3 hR=>?_);obtain⟨l3,hd⟩:=hR;obtain⟨b1,n1,c1,b2,n2,c2,b3,n3,c3,b4,n4,c4,rfl⟩:=hd.form;cbv;exact fin 1 _ _ (fH.trans l3) (arg rfl) hd
  |false=>
   cases t with
   |true=>cbv;refine(lA q2).mono (fun v h3 hR=>?_);obtain⟨l3,hd⟩:=hR;obtain⟨b1,n1,c1,b2,n2,c2,b3,n3,c3,b4,n4,c4,rfl⟩:=hd.form;cbv;exact fin 7 _ _ (fH.trans l3) (is7 rfl rfl) hd
   |false=>
    have AX:=cs.mono l2;obtain⟨m1,m2,x3,m3,k3,x4,m4,k4,o,g0,g1,g2,g3,g4,g5,g6,g7⟩:=AX.out;have jV:i<=W.length:=by have:=zg (d.au.map fun x=>IntKind.i64.wrap (x.s-kP)) 0 (d.au.map fun x=>IntKind.i64.wrap (x.s-kP)).length (Nat.zero_le _);rw[hi,hW];simpa using this.1
    cbv;rw[ai A];rw[ai A];refine ar g0 rfl rfl ?_;cbv;intro nb h3 eK e3;have l3:Le h2 h3:=by rw[e3];exact Le.set eK
    have gx:=(congrFun e3 nb).trans ae;have sx:Sl 55 bQ h3 (.slice (some ⟨nb,0,none⟩) 1 1) [((⟨kP,[],[]⟩:dw),true)]:=by
     refine Sl.fresh (xs:=[((⟨kP,[],[]⟩:dw),true)]) gx ⟨by simp[bQ],fun j y hj=>?_⟩ (by simp) (by simp);have Av:j=0:=by have:=(List.getElem?_eq_some_iff.1 hj).1;simp at this;exact this
     subst Av;simp at hj;subst hj;exact⟨none,0,0,none,0,0,rfl,Sl.nil,Sl.nil,fun _=>rfl⟩
    have em:m2=cw:=by rw[g4,GI]
    subst em;have hil2:i<=m2:=by omega
    have hm38:m2<=2^38:=by rw[GI,hW,List.length_map];omega
    cbv;refine(II ((g5.sl g4).mono (l3.t _)) sx hz hil2 hm38).mono (fun v h4 hR=>?_);obtain⟨l4,wb2,cw2,m5,rfl,hwb2,Ut,ow⟩:=hR;have Sy:=l4 _ _ (l3 _ _ g0);cbv;rw[ai A];rw[ai A];refine eH Sy (by simp) (fun h5 e5=>?_);have gc5:=(congrFun e5 c).trans ae;have k5:Kp [c] h4 h5:=by rw[e5];exact Kp.set (by simp)
    have t5:∀tys,128∉tys->bE tys h4 h5:=fun tys hn=>by rw[e5];exact bE.set Sy hn
    have tG:Le h h5:=((fH.trans l3).trans l4).cm (by simpa using hc) k5;have Cy:fP h5 (.agg #[.slice (some ⟨tb,0,none⟩) m1 ct,.slice (some ⟨wb2,0,none⟩) m5 cw2,.slice x3 m3 k3,.slice x4 m4 k4]) (nz d (d.au.take i++[⟨kP,[],[]⟩]++d.au.drop i)):=by
     have sX:=l3.trans l4;refine⟨_,_,_,_,_,_,_,_,_,_,_,_,_,rfl,((g3.sl g2).mono (sX.t _)).mono (t5 _ (by decide)),(ow.sl ?_).mono (t5 _ (by decide)),(g6.mono (sX.t _)).mono (t5 _ (by decide)),(g7.mono (sX.t _)).mono (t5 _ (by decide)),?_⟩
     ·rw[Ut];simp;omega
     ·rw[hW];simp[nz,List.map_take,List.map_drop,Function.comp_def]
    cbv;rw[ai A];refine ar gc5 rfl rfl ?_;cbv;refine(lA Cy).mono (fun v h6 hR=>?_);obtain⟨l6,hd⟩:=hR;have jM:=new rfl rfl;have iJ:=hd;generalize nz d (d.au.take i++[⟨kP,[],[]⟩]++d.au.drop i)=d' at *;obtain⟨b1,n1,c1,b2,n2,c2,b3,n3,c3,b4,n4,c4,rfl⟩:=hd.form;cbv;exact⟨_,0,z,i,false,rfl,tG.trans l6,by rw[jM];exact iJ,by rw[jM],hz,nh⟩
def kZ(d:DB)(t:List cg):DB:={ d with aK:=t }
def iy(d:DB)(s:Bh)(is:Bool):Int:=
 if fR s≠0 then fR s
 else if is=true then 7
 else if decide (d.aK.length>=8)=true then 4
 else if decide (d.au.length>0)=true then 18 else 0
def jm(d:DB)(s:Bh)(i:Nat)(is:Bool):DB×Int:=
 if iy d s is=0 then(kZ d (d.aK.take i++[⟨s,[]⟩]++d.aK.drop i),0)else(d,iy d s is)
theorem JX{d:DB}{h:ad}{v:Value}(q:fP h v d){nm:ByteArray}{cols:List bM}{key:Int}{only:Bool}{sb:Option Addr}{sn sc:Nat}(qs:Sl 165 aT h (.slice sb sn sc) cols)(hlen:d.aK.length<=2^37)(hlw:d.au.length<=2^37):
 Ct 45 [v,.agg #[.string nm,.slice sb sn sc,.int .i64 key,.bool only]] h (fun v' h'=>∃v1 e z i is,v'=.tuple #[v1,.int .i64 e]/\Le h h'/\fP h' v1 (jm d ⟨nm,cols,key,only⟩ i is).1/\e=(jm d ⟨nm,cols,key,only⟩ i is).2/\aP z i/\Gi (d.aK.map fun x=>eI x.S.name nm) z is):=by
 obtain⟨A,hA⟩:=Ar.ex;have q0:=q;obtain⟨b1,n1,c1,b2,n2,c2,b3,n3,c3,b4,n4,c4,ws,rfl,q1,q2,-,-,qw⟩:=q0.out;refine ah A (aq T45.ax T45.bm) Tryz.func45 rfl (by kernel_rfl) ?_;cbv;refine(zm q).mono (fun v h1 hR=>?_);obtain⟨l1,c,tb,wb,ct,cw,W,rfl,hc,pJ,sY,rf,pf,hW,NK,GI,cs⟩:=hR;cbv;refine(D8 (key:=key) (only:=only) (nm:=nm) (qs.mono (l1.t _))).mono (fun v h2 hR=>?_);obtain⟨l2,e0,rfl,gU⟩:=hR;cbv;refine(y0 (cs.mono l2) rf pf).mono (fun v h3 hR=>?_);obtain⟨rfl,k3,JW⟩:=hR;have Gm:Le h h3:=(l1.trans l2).cm (by simpa using hc) k3;cbv;refine(tS JW nm).mono (fun v h4 hR=>?_);obtain⟨l4,z,t,rfl,hb⟩:=hR;rw[if_pos rfl]at JW;obtain⟨i,hz,hi,ht⟩:=hb.out;have bad:∀(E:Int) (v:Value) {hh:ad},Le h hh->E≠0->iy d ⟨nm,cols,key,only⟩ t=E->fP hh v d->∃v1 e1 z i is,Value.tuple #[v,.int .i64 E]=.tuple #[v1,.int .i64 e1]/\Le h hh/\fP hh v1 (jm d ⟨nm,cols,key,only⟩ i is).1/\e1=(jm d ⟨nm,cols,key,only⟩ i is).2/\aP z i/\Gi (d.aK.map fun x=>eI x.S.name nm) z is:=fun E v hh l hE hc hd=>by
  have:jm d ⟨nm,cols,key,only⟩ i t=(d,E):=by unfold jm;rw[hc,if_neg hE]
  exact⟨v,E,z,i,t,rfl,l,by rw[this];exact hd,by rw[this],hz,hb⟩
 cases t with
 |true=>
  cbv;refine(y0 (JW.mono l4) rf pf).mono (fun v h5 hR=>?_);obtain⟨rfl,k5,Bw⟩:=hR;have tG:Le h h5:=(Gm.trans l4).cm (by simpa using hc) k5;obtain⟨E,hE⟩:∃E,E=(if e0=0 then 7 else e0):=⟨_,rfl⟩;rw[<-hE]at Bw;have Pg:iy d ⟨nm,cols,key,only⟩ true=E:=by unfold iy;rw[hE,<-gU];by_cases h0:e0=0<;>simp[h0]
  cbv;obtain⟨m1,m2,x3,m3,k3,x4,m4,k4,o,g0,go,g2,g3,g4,g5,g6,g7⟩:=Bw.out;generalize ez:A .aF .neq E 0=u;rw[ay A]at ez;rw[ai A];refine ar g0 rfl rfl ?_;cbv;rw[ay A,ez];cases u with
  |true=>cbv;rw[ai A];refine ar g0 rfl rfl ?_;cbv;refine(lA (q.mono tG)).mono (fun v h6 hR=>?_);obtain⟨l6,hd⟩:=hR;have iJ:=hd;obtain⟨b1,n1,c1,b2,n2,c2,b3,n3,c3,b4,n4,c4,rfl⟩:=hd.form;cbv;refine ar (l6 _ _ g0) rfl rfl ?_;cbv;refine⟨⟨_,rfl,rfl⟩,?_⟩;cbv;refine ar (l6 _ _ g0) rfl rfl ?_;cbv;refine⟨⟨_,rfl,rfl⟩,?_⟩;cbv;exact bad _ _ (tG.trans l6) (of_decide_eq_true ez) Pg iJ
  |false=>exact absurd (of_decide_eq_false ez) (by rw[hE];by_cases h0:e0=0<;>simp[h0])
 |false=>
  generalize eg:A .aF .geq (A .nat n1) 8=ug;generalize ew:A .aF .gtr (A .nat n2) 0=uw;have hg:ug=decide (d.aK.length>=8):=by rw[<-eg,bO A,hA.nat,q1.len,decide_eq_decide];simp only[Int.ofNat_eq_natCast];omega
  have hw:uw=decide (d.au.length>0):=by
   rw[<-ew,bH A,hA.nat,q2.len,decide_eq_decide];simp only[Int.ofNat_eq_natCast];have:ws.length=d.au.length:=by rw[<-qw,List.length_map]
   omega
  cbv;rw[eg];cases ug with
  |true=>
   cbv;refine(y0 (JW.mono l4) rf pf).mono (fun v h5 hR=>?_);obtain⟨rfl,k5,Bw⟩:=hR;have tG:Le h h5:=(Gm.trans l4).cm (by simpa using hc) k5;obtain⟨E,hE⟩:∃E,E=(if e0=0 then 4 else e0):=⟨_,rfl⟩;rw[<-hE]at Bw;have Pg:iy d ⟨nm,cols,key,only⟩ false=E:=by unfold iy;rw[hE,<-gU,<-hg];by_cases h0:e0=0<;>simp[h0]
   cbv;obtain⟨m1,m2,x3,m3,k3,x4,m4,k4,o,g0,go,g2,g3,g4,g5,g6,g7⟩:=Bw.out;generalize ez:A .aF .neq E 0=u;rw[ay A]at ez;rw[ai A];refine ar g0 rfl rfl ?_;cbv;rw[ay A,ez];cases u with
   |true=>cbv;rw[ai A];refine ar g0 rfl rfl ?_;cbv;refine(lA (q.mono tG)).mono (fun v h6 hR=>?_);obtain⟨l6,hd⟩:=hR;have iJ:=hd;obtain⟨b1,n1,c1,b2,n2,c2,b3,n3,c3,b4,n4,c4,rfl⟩:=hd.form;cbv;refine ar (l6 _ _ g0) rfl rfl ?_;cbv;refine⟨⟨_,rfl,rfl⟩,?_⟩;cbv;refine ar (l6 _ _ g0) rfl rfl ?_;cbv;refine⟨⟨_,rfl,rfl⟩,?_⟩;cbv;exact bad _ _ (tG.trans l6) (of_decide_eq_true ez) Pg iJ
   |false=>exact absurd (of_decide_eq_false ez) (by rw[hE];by_cases h0:e0=0<;>simp[h0])
  |false=>
   cbv;rw[ew];cases uw with
   |true=>
    cbv;refine(y0 (JW.mono l4) rf pf).mono (fun v h5 hR=>?_);obtain⟨rfl,k5,Bw⟩:=hR;have tG:Le h h5:=(Gm.trans l4).cm (by simpa using hc) k5;obtain⟨E,hE⟩:∃E,E=(if e0=0 then 18 else e0):=⟨_,rfl⟩;rw[<-hE]at Bw;have Pg:iy d ⟨nm,cols,key,only⟩ false=E:=by unfold iy;rw[hE,<-gU,<-hg,<-hw];by_cases h0:e0=0<;>simp[h0]
    cbv;obtain⟨m1,m2,x3,m3,k3,x4,m4,k4,o,g0,go,g2,g3,g4,g5,g6,g7⟩:=Bw.out;generalize ez:A .aF .neq E 0=u;rw[ay A]at ez;rw[ai A];refine ar g0 rfl rfl ?_;cbv;rw[ay A,ez];cases u with
    |true=>cbv;rw[ai A];refine ar g0 rfl rfl ?_;cbv;refine(lA (q.mono tG)).mono (fun v h6 hR=>?_);obtain⟨l6,hd⟩:=hR;have iJ:=hd;obtain⟨b1,n1,c1,b2,n2,c2,b3,n3,c3,b4,n4,c4,rfl⟩:=hd.form;cbv;refine ar (l6 _ _ g0) rfl rfl ?_;cbv;refine⟨⟨_,rfl,rfl⟩,?_⟩;cbv;refine ar (l6 _ _ g0) rfl rfl ?_;cbv;refine⟨⟨_,rfl,rfl⟩,?_⟩;cbv;exact bad _ _ (tG.trans l6) (of_decide_eq_true ez) Pg iJ
    |false=>exact absurd (of_decide_eq_false ez) (by rw[hE];by_cases h0:e0=0<;>simp[h0])
   |false=>
    have Bw:=JW.mono l4;have tG:Le h h4:=Gm.trans l4;obtain⟨E,hE⟩:∃E,E=e0:=⟨_,rfl⟩;rw[<-hE]at Bw;have Pg:iy d ⟨nm,cols,key,only⟩ false=E:=by unfold iy;rw[hE,<-gU,<-hg,<-hw];by_cases h0:e0=0<;>simp[h0]
    cbv;obtain⟨m1,m2,x3,m3,k3,x4,m4,k4,o,g0,go,g2,g3,g4,g5,g6,g7⟩:=Bw.out;generalize ez:A .aF .neq E 0=u;rw[ay A]at ez;rw[ai A];refine ar g0 rfl rfl ?_;cbv;rw[ay A,ez];cases u with
    |true=>cbv;rw[ai A];refine ar g0 rfl rfl ?_;cbv;refine(lA (q.mono tG)).mono (fun v h6 hR=>?_);obtain⟨l6,hd⟩:=hR;have iJ:=hd;obtain⟨b1,n1,c1,b2,n2,c2,b3,n3,c3,b4,n4,c4,rfl⟩:=hd.form;cbv;refine ar (l6 _ _ g0) rfl rfl ?_;cbv;refine⟨⟨_,rfl,rfl⟩,?_⟩;cbv;refine ar (l6 _ _ g0) rfl rfl ?_;cbv;refine⟨⟨_,rfl,rfl⟩,?_⟩;cbv;exact bad _ _ (tG.trans l6) (of_decide_eq_true ez) Pg iJ
    |false=>
     have hE0:E=0:=by have:=of_decide_eq_false ez;omega
     cbv;rw[ai A];rw[ai A];refine ar g0 rfl rfl ?_;cbv;have sT:cL.R h4 [.string nm,.slice sb sn sc,.int .i64 key,.bool only,.slice none 0 0] ⟨⟨nm,cols,key,only⟩,[]⟩:=⟨_,_,_,_,_,_,rfl,qs.mono (tG.t _),Sl.nil⟩;refine(OI sT).mono (fun v h6 hR=>?_);obtain⟨l6,d0,d1,d2,d3,d4,rfl,rT⟩:=hR;obtain⟨w1,w2,w3,w4,w5,w6,he,rT1,rT2⟩:=rT;cases he;have g06:=l6 _ _ g0;cbv;refine ar g06 rfl rfl ?_;cbv;refine⟨⟨_,rfl,rfl⟩,?_⟩;cbv;intro nb h7 eK e7;have l7:Le h6 h7:=by rw[e7];exact Le.set eK
     have gx:=(congrFun e7 nb).trans ae;have sx:Sl 51 cL h7 (.slice (some ⟨nb,0,none⟩) 1 1) [(⟨⟨nm,cols,key,only⟩,[]⟩:cg)]:=by
      refine Sl.fresh (xs:=[(⟨⟨nm,cols,key,only⟩,[]⟩:cg)]) gx ⟨by simp[cL],fun j y hj=>?_⟩ (by simp) (by simp);have Av:j=0:=by have:=(List.getElem?_eq_some_iff.1 hj).1;simp at this;exact this
      subst Av;simp at hj;subst hj;exact⟨_,_,_,_,_,_,rfl,rT1.mono (l7.t _),rT2.mono (l7.t _)⟩
     have Us:=l7 _ _ g06;have em:m1=ct:=by rw[g2,NK]
     subst em;have jV:i<=m1:=by have:=(zg (d.aK.map fun x=>eI x.S.name nm) 0 (d.aK.map fun x=>eI x.S.name nm).length (Nat.zero_le _)).1;rw[hi,g2];simpa using this
     cbv;refine ar Us rfl rfl ?_;cbv;refine⟨⟨_,rfl,rfl⟩,?_⟩;cbv;refine(IJ ((g3.sl g2).mono ((l6.trans l7).t _)) sx hz jV (by omega)).mono (fun v h8 hR=>?_);obtain⟨l8,tb2,ct2,m5,rfl,htb2,Ut,ot⟩:=hR;have g08:=l8 _ _ Us;cbv;rw[ai A];rw[ai A];refine eH g08 (by simp) (fun h9 e9=>?_);have gc9:=(congrFun e9 c).trans ae;have k9:Kp [c] h8 h9:=by rw[e9];exact Kp.set (by simp)
     have t9:∀tys,128∉tys->bE tys h8 h9:=fun tys hn=>by rw[e9];exact bE.set g08 hn
     have VG:Le h h9:=(((tG.trans l6).trans l7).trans l8).cm (by simpa using hc) k9;have Cy:fP h9 (.agg #[.slice (some ⟨tb2,0,none⟩) m5 ct2,.slice (some ⟨wb,0,none⟩) m2 cw,.slice x3 m3 k3,.slice x4 m4 k4]) (kZ d (d.aK.take i++[⟨⟨nm,cols,key,only⟩,[]⟩]++d.aK.drop i)):=by
      have l48:=(l6.trans l7).trans l8;refine⟨_,_,_,_,_,_,_,_,_,_,_,_,_,rfl,(ot.sl ?_).mono (t9 _ (by decide)),((g5.sl g4).mono (l48.t _)).mono (t9 _ (by decide)),(g6.mono (l48.t _)).mono (t9 _ (by decide)),(g7.mono (l48.t _)).mono (t9 _ (by decide)),?_⟩
      ·rw[Ut];simp;omega
      ·rw[hW];simp[kZ,Function.comp_def]
     cbv;rw[ai A];refine ar gc9 rfl rfl ?_;cbv;refine(lA Cy).mono (fun v fh hR=>?_);obtain⟨mE,hd⟩:=hR;have jM:jm d ⟨nm,cols,key,only⟩ i false=(kZ d (d.aK.take i++[⟨⟨nm,cols,key,only⟩,[]⟩]++d.aK.drop i),0):=by unfold jm;rw[if_pos (Pg.trans hE0)]
     have iJ:=hd;generalize kZ d (d.aK.take i++[⟨⟨nm,cols,key,only⟩,[]⟩]++d.aK.drop i)=d' at *;obtain⟨b1,n1,c1,b2,n2,c2,b3,n3,c3,b4,n4,c4,rfl⟩:=hd.form;cbv;exact⟨_,0,z,i,false,rfl,VG.trans mE,by rw[jM];exact iJ,by rw[jM],hz,hb⟩
end Go.S
