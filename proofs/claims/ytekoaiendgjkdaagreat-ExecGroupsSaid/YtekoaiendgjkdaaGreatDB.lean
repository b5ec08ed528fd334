import Derived.Test.YtekoaiendgjkdaaGreatDA
import Derived.Test.YtekoaiendgjkdaaGreatRd
set_option linter.unusedVariables false
set_option linter.unusedSimpArgs false
set_option linter.unusedSectionVars false
set_option maxRecDepth 100000
namespace Go.S
open Go.Sx Go.Proofs
def jg(s:ByteArray)(i:Nat):Int:=((s.data.getD i 0).toNat:Int)
def Ec(z:Int):Bool:= !((decide (z<97)||decide (z>122))&&(decide (z<48)||decide (z>57))&&(z !=95))
def BS(s:ByteArray):Bool:= !(decide ((s.size:Int)<1)||decide ((s.size:Int)>12)||decide (jg s 0<97)||decide (jg s 0>122))
def BT(s:ByteArray):Bool:=(List.range s.size).all fun i=>Ec (jg s i)
def vL(s:ByteArray):Bool:=jY.any fun w=>decide (w=s)
theorem vK{s:ByteArray}:vL s=true↔s∈jY:=by
 unfold vL;rw[mZK];constructor
 ·rintro⟨w,h1,h2⟩;exact mQB h2 ▸ h1
 ·intro h;exact⟨s,h,by simp⟩
def ao(s:ByteArray):Bool:=BS s&&BT s&& !vL s
structure gZn(h:ad)(sp:Nat):Prop where
 out:(h sp=some (.cells #[.int .u32 0,.int .i32 0,.int .u32 0,.map none] 250 (0,0)))\/
  ∃m,h sp=some (.cells #[.int .u32 1,.int .i32 0,.int .u32 0,.map (some m)] 250 (0,0))/\Mp h m .string (DL jY)/\m≠sp
theorem cJj(w:World):(zeroValue 4).run Tryz.prog w=.ok (.bool false) w:=by
 have h:((Tryz.prog.info? 4).bind (·.zero))=some (.bool false):=by kernel_rfl
 cases h1:Tryz.prog.info? 4 with
 |none=>rw[h1]at h;cases h
 |some i=>rw[h1]at h;simp at h;simp[zeroValue,typeInfo,h1,h]
theorem OB{h:ad}{s:ByteArray}{k:Value->ad->Prop}{m:Nat}(mp:Mp h m .string (DL jY))(hk:∀t,t=vL s->k (.bool t) h):
 fW (fun _=>Tryz.prog) (fun _=>Instr.lookup 248 (.map (some m)) (.string s) false) h k:=by
 by_cases hs:s∈jY
 ·exact BN dXm u9 mp (key:=.string s) (v:=.bool true) True.intro (mQO.2 ⟨s,hs,rfl⟩) (hk true (vK.2 hs).symm)
 ·refine xD dXm u9 cJj mp (key:=.string s) True.intro ?_ (hk false ?_)
  ·intro p hp e;obtain⟨w,hw,rfl⟩:=mQO.1 hp;cases e;exact hs hw
  ·cases hi:vL s with
   |false=>rfl
   |true=>exact absurd (vK.1 hi) hs
set_option maxHeartbeats 2000000 in
theorem aZU{h:ad}{sp:Nat}{s:ByteArray}(q:gZn h sp):
 Ct 155 [.pointer (some ⟨sp,0,none⟩),.string s] h (fun v h'=>∃t,v=.bool t/\t=ao s/\Kp [sp] h h'/\gZn h' sp):=by
 obtain⟨A,hA⟩:=Ar.ex;refine ah A (ax gXE.aK gXE.bF) Tryz.func155 rfl (by kernel_rfl) ?_;have hn:A .jO s=(s.size:Int):=by rw[hA.jO]
 have Cv:aS (A .jO s) s.size:=⟨hn⟩;have rR:∀z i,aS z i->A .byte s z=jg s i:=fun z i hz=>by
  rw[hA.byte];simp only[jg];rw[hz.eq];rfl
 generalize e1:A .aI .lss (A .jO s) 1=t1;generalize e2:A .aI .gtr (A .jO s) 12=t2;generalize e3:A .aI .lss (A .byte s 0) 97=t3;generalize e4:A .aI .gtr (A .byte s 0) 122=t4;have CI:t2=false->s.size<=12:=fun e=>by
  rw[e,hA.aI,hn]at e2;have:=mQI e2;omega
 have hf:BS s= !(t1||t2||t3||t4):=by rw[<-e1,<-e2,<-e3,<-e4,rR 0 0 ⟨rfl⟩,hn,hA.aI];rfl
 have fZJ:t1=false->(0:Int)<=0/\0<(s.size:Int):=fun e=>by
  rw[e,hA.aI,hn]at e1;have:=mQI e1;omega
 have Hy:∀(t:Bool) (b:Bool),t=false->BS s=false->t=ao s:=fun t b ht hq=>by rw[ht,ao,hq];rfl
 have To:∀(t:Bool),t=true->t=t:=fun _ _=>rfl;cbv;rw[e1];cases t1 with
 |true=>cbv;exact⟨false,rfl,Hy _ true rfl hf,Kp.refl _ _,q⟩
 |false=>
  have h1:=fZJ rfl;cbv;rw[e2];cases t2 with
  |true=>cbv;exact⟨false,rfl,Hy _ true rfl hf,Kp.refl _ _,q⟩
  |false=>
   cbv;refine⟨h1,?_⟩;cbv;rw[e3];cases t3 with
   |true=>cbv;exact⟨false,rfl,Hy _ true rfl hf,Kp.refl _ _,q⟩
   |false=>
    cbv;refine⟨h1,?_⟩;cbv;rw[e4];cases t4 with
    |true=>cbv;exact⟨false,rfl,Hy _ true rfl hf,Kp.refl _ _,q⟩
    |false=>
     cbv;have Wp:BS s=true:=hf;have CI:=CI rfl;clear hf e1 e2 e3 e4 fZJ Hy To;refine aX.go (G:=Int) (fun z=>[(27,.v (.int .i64 z))]) (fun _=>[]) (fun n z h'=>∃i:Nat,aS z i/\n=s.size-i/\i<=s.size/\h'=h/\∀j,j<i->Ec (jg s j)=true) s.size 0 ⟨?_,?_,?_⟩ ⟨0,⟨rfl⟩,rfl,by omega,rfl,fun j hj=>(by omega)⟩ ?_
     ·cbv
     ·cbv
     ·cbv
     ·intro n z h' hI;cbv;obtain⟨i,hz,TD,hi,rfl,aV⟩:=hI;refine bh (fun hc=>?_) (fun hc=>?_)
      ·rw[hz.iJ (A:=A) Cv]at hc;have aP:=mQB hc;clear hc;cbv;refine⟨hz.ix aP,?_⟩;cbv;rw[rR z i hz];generalize hw:jg s i=w;generalize e1:A .aI .lss w 97=t1;generalize e2:A .aI .gtr w 122=t2;generalize e3:A .aI .lss w 48=t3;generalize e4:A .aI .gtr w 57=t4;generalize e5:A .aI .neq w 95=t5;have nR:Ec w= !((t1||t2)&&(t3||t4)&&t5):=by rw[<-e1,<-e2,<-e3,<-e4,<-e5,hA.aI];rfl
       have bad:Ec w=false->ao s=false:=fun e=>by
        have:BT s=false:=by unfold BT;rw[mJr];exact⟨i,by simp[aP],by rw[hw,e];simp⟩
        rw[ao,this];simp
       have pO:Ec w=true->∀j,j<i+1->Ec (jg s j)=true:=fun e j hj=>by
        rcases mQS j i with h|h
        ·exact aV j h
        ·have:j=i:=by omega
         rw[this,hw,e]
       cbv;cases t1 with
       |true=>
        cbv;rw[e3];cases t3 with
        |true=>
         cbv;rw[e5];cases t5 with
         |true=>cbv;exact⟨false,rfl,(bad (by rw[nR];rfl)).symm,Kp.refl _ _,q⟩
         |false=>cbv;exact⟨s.size-(i+1),_,by omega,⟨by cbv,by cbv,by cbv⟩,i+1,hz.succ (A:=A) (by omega),rfl,by omega,rfl,pO (by rw[nR];rfl)⟩
        |false=>
         cbv;rw[e4];cases t4 with
         |true=>
          cbv;rw[e5];cases t5 with
          |true=>cbv;exact⟨false,rfl,(bad (by rw[nR];rfl)).symm,Kp.refl _ _,q⟩
          |false=>cbv;exact⟨s.size-(i+1),_,by omega,⟨by cbv,by cbv,by cbv⟩,i+1,hz.succ (A:=A) (by omega),rfl,by omega,rfl,pO (by rw[nR];rfl)⟩
         |false=>cbv;exact⟨s.size-(i+1),_,by omega,⟨by cbv,by cbv,by cbv⟩,i+1,hz.succ (A:=A) (by omega),rfl,by omega,rfl,pO (by rw[nR];rfl)⟩
       |false=>
        cbv;rw[e2];cases t2 with
        |true=>
         cbv;rw[e3];cases t3 with
         |true=>
          cbv;rw[e5];cases t5 with
          |true=>cbv;exact⟨false,rfl,(bad (by rw[nR];rfl)).symm,Kp.refl _ _,q⟩
          |false=>cbv;exact⟨s.size-(i+1),_,by omega,⟨by cbv,by cbv,by cbv⟩,i+1,hz.succ (A:=A) (by omega),rfl,by omega,rfl,pO (by rw[nR];rfl)⟩
         |false=>
          cbv;rw[e4];cases t4 with
          |true=>
           cbv;rw[e5];cases t5 with
           |true=>cbv;exact⟨false,rfl,(bad (by rw[nR];rfl)).symm,Kp.refl _ _,q⟩
           |false=>cbv;exact⟨s.size-(i+1),_,by omega,⟨by cbv,by cbv,by cbv⟩,i+1,hz.succ (A:=A) (by omega),rfl,by omega,rfl,pO (by rw[nR];rfl)⟩
          |false=>cbv;exact⟨s.size-(i+1),_,by omega,⟨by cbv,by cbv,by cbv⟩,i+1,hz.succ (A:=A) (by omega),rfl,by omega,rfl,pO (by rw[nR];rfl)⟩
        |false=>cbv;exact⟨s.size-(i+1),_,by omega,⟨by cbv,by cbv,by cbv⟩,i+1,hz.succ (A:=A) (by omega),rfl,by omega,rfl,pO (by rw[nR];rfl)⟩
      ·rw[hz.iJ (A:=A) Cv]at hc;have lN:=mQI hc;cbv;have aKU:BT s=true:=by unfold BT;rw[mXf];intro j hj;rw[mJk]at hj;exact aV j (by omega)
       rw[ai A];have fin:∀t,t=vL s->(A .not t)=ao s:=fun t ht=>by
        rw[ao,Wp,aKU,ht,hA.not];simp
       rcases q.out with g| ⟨m,g,mp,hm⟩
       ·refine(bQL (a1:=⟨sp,0,none⟩) (Q:=fun hq=>Kp [sp] h' hq/\∃m,h' m=none/\hq sp=some (.cells #[.int .u32 0,.int .i32 1,.int .u32 0,.map (some m)] 250 (0,0))/\Mp hq m .string (DL jY)) (og g rfl) (og g rfl) (fun h1 hu=>?_)).mono (fun v h4 hR=>?_)
        ·have e1:=hu.exp g;have g1:=(congrFun e1 sp).trans ae;refine(bKn g1).mono (fun v h2 hR=>?_);obtain⟨rfl,k2,m,hm,g2,SK⟩:=hR;have k1:Kp [sp] h' h1:=by rw[e1];exact Kp.set (by simp)
         refine⟨rfl,og g2 rfl,og g2 rfl,k1.trans k2,m,?_,g2,SK⟩;have ch:m≠sp:=fun e=>by rw[e,g1]at hm;cases hm
         rw[e1,aO ch]at hm;exact hm
        ·obtain⟨rfl,h2,h3,⟨k2,m,hm,g2,SK⟩,u3,u4⟩:=hR;have e3:=u3.exp g2;have g3:=(congrFun e3 sp).trans ae;have e4:=u4.exp g3;have g4:=(congrFun e4 sp).trans ae;rw[e3,oW]at e4;have k4:Kp [sp] h2 h4:=by rw[e4];exact Kp.set (by simp)
         have YQ:m≠sp:=fun e=>by rw[e,g]at hm;cases hm
         have Yu:=SK.kp k4 (by simpa using YQ);cbv;rw[ai A];refine aB g4 rfl rfl ?_;cbv;refine OB Yu (fun t ht=>?_);cbv;exact⟨_,rfl,fin t ht,k2.trans k4,⟨.inr ⟨m,g4,Yu,YQ⟩⟩⟩
       ·refine(Zu (a1:=⟨sp,0,none⟩) (og g rfl)).mono (fun v h4 hR=>?_);obtain⟨rfl,rfl⟩:=hR;cbv;rw[ai A];refine aB g rfl rfl ?_;cbv;refine OB mp (fun t ht=>?_);cbv;exact⟨_,rfl,fin t ht,Kp.refl _ _,q⟩
theorem cXF{x:cK}{h:ad}{nb:Nat}{name:ByteArray}(g:h nb=some (.cells #[.string name] 9 (0,0))){z1:Int}{t1:Bool}{s1:ByteArray}:
 Ct 173 [.agg #[.string s1,.int .i64 z1,.bool t1],.pointer (some ⟨nb,0,none⟩)] h (fun v h'=>Le h h'/\∃t,v=.bool t/\t=decide (s1=name)):=by
 obtain⟨A,hA⟩:=Ar.ex;refine ah A (ax gXp.aK gXp.bF) Tryz.func173 rfl (by kernel_rfl) ?_;cbv;refine aB g rfl rfl ?_;cbv;exact⟨Le.refl _,_,rfl,cS A _ _⟩
theorem dJp{xs:List cK}{h:ad}{b:Option Addr}{len cap:Nat}(q:Sl 165 bI h (.slice b len cap) xs){nb:Nat}{name:ByteArray}(g:h nb=some (.cells #[.string name] 9 (0,0))):
 Ct 172 [.slice b len cap,.func (.func 173) #[] #[.pointer (some ⟨nb,0,none⟩)]] h (fun v h'=>Le h h'/\∃z:Int,v=.int .i64 z/\vg xs (fun x:cK=>decide (x.name=name)) z):=by
 obtain⟨A,hA⟩:=Ar.ex;have hlen:=q.len;obtain⟨lY,jq⟩:=q.bound;generalize hp:(fun x:cK=>decide (x.name=name))=p;refine ah A (ax gXq.aK gXq.bF) Tryz.func172 rfl (by kernel_rfl) ?_;cbv;refine aX.go (G:=Int) (fun z=>[(8,.v (.int .i64 z))]) (fun _=>[]) (fun n z h'=>∃i:Nat,aS z i/\n=len-i/\i<=len/\Le h h'/\∀j,j<i->∀y,xs[j]? =some y->p y=false) len 0 ⟨?_,?_,?_⟩ ⟨0,⟨rfl⟩,by omega,by omega,Le.refl _,fun j hj=>(by omega)⟩ ?_
 ·cbv
 ·cbv
 ·cbv
 ·intro n z h' hI;cbv;obtain⟨i,hz,hn,hi,hle,aV⟩:=hI;refine bh (fun hc=>?_) (fun hc=>?_)
  ·have aP:=hz.lt hc;clear hc;cbv;obtain⟨x,hx⟩:=aE (xs:=xs) (i:=i) (by omega);refine⟨⟨q.aT (by omega),hz.ix aP⟩,?_⟩;cbv;refine(q.mono (hle.t _)).load hx hz.eq (fun cs ay=>?_);have ay:cs=[.string x.name,.int .i64 x.kind,.bool x.null]:=ay;subst ay;cbv;refine(cXF (x:=x) (hle _ _ g)).mono (fun v h2 hR=>?_);obtain⟨eE,t,rfl,ht⟩:=hR;have ht:t=p x:=by rw[<-hp];exact ht
   cbv;cases t with
   |true=>cbv;exact⟨hle.trans eE,z,rfl,⟨.inr ⟨i,x,hz,hx,ht.symm,aV⟩⟩⟩
   |false=>
    cbv;refine⟨len-(i+1),_,by omega,⟨?_,?_,?_⟩,i+1,hz.succ (A:=A) (by omega),rfl,by omega,hle.trans eE,?_⟩
    ·cbv
    ·cbv
    ·cbv
    ·intro j hj y hy;rcases mQS j i with h|h
     ·exact aV j h y hy
     ·have:j=i:=by omega
      subst this;rw[hx]at hy;cases hy;exact ht.symm
  ·have lN:=hz.ge hc;cbv;refine⟨hle,-1,rfl,⟨.inl ⟨rfl,fun x hx=>?_⟩⟩⟩;obtain⟨j,hj⟩:=mQZ hx;have:=(HH.1 hj).1;exact aV j (by omega) x hj
theorem bQy{cols:List cK}{h:ad}{b:Option Addr}{n c:Nat}(q:Sl 165 bI h (.slice b n c) cols){nm s:ByteArray}{k:Int}{only:Bool}:
 Ct 91 [.agg #[.string nm,.slice b n c,.int .i64 k,.bool only],.string s] h (fun v h'=>Le h h'/\∃z t z',v=.tuple #[.int .i64 z,.bool t]/\vg cols (fun x=>decide (x.name=s)) z'/\z=max z' 0/\t=decide (z'>=0)):=by
 obtain⟨A,hA⟩:=Ar.ex;refine ah A (ax jJX.aK jJX.bF) Tryz.func91 rfl (by kernel_rfl) ?_;cbv;intro nb h1 gY e1;have l1:Le h h1:=by rw[e1];exact Le.set gY
 have g1:=(congrFun e1 nb).trans ae;cbv;refine(dJp (q.mono (l1.t _)) g1).mono (fun v h2 hR=>?_);obtain⟨l2,z,rfl,hz⟩:=hR;cbv;exact⟨l1.trans l2,_,_,z,rfl,hz,by rw[hA.imax],cf A _ _⟩
theorem Kp.fQr{n e:Nat}{c:Array Value}{fr:Nat×Nat}{tys:List Nat}{h h':ad}(x:Kp [n] h h')(g:h n=some (.cells c e fr))(he:e∉tys):bR tys h h':=fun b d e' NQ hm hb=>by
 by_cases JD:b=n
 ·rw[JD,g]at hb;cases hb;exact absurd hm he
 ·exact x b _ hb (by simpa using JD)
def iy(cols:List cK)(i:Nat)(c:cK):Int:=
 if(!ao c.name||(cols.take i).any fun x=>decide (x.name=c.name))=true then 12 else if(decide (c.kind<1)||decide (c.kind>3))=true then 3 else 0
def lJ(cols:List cK):Int:=((cols.zipIdx.map fun(c,i)=>iy cols i c).find? (fun z=>z !=0)).getD 0
def kE(s:FR):Int:=
 if(!ao s.name)=true then 12
 else if(decide ((s.cols.length:Int)<1)||decide ((s.cols.length:Int)>6))=true then 4
 else if lJ s.cols≠0 then lJ s.cols
 else if(decide (s.key<0)||decide (s.key>=(s.cols.length:Int)))=true then 1
 else if((s.cols[s.key.toNat]?).map (·.null)).getD false=true then 13 else 0
theorem ID{cols:List cK}{i:Nat}{c:cK}(hc:cols[i]? =some c)(aV:∀j,j<i->∀y,cols[j]? =some y->iy cols j y=0)(ch:iy cols i c≠0):lJ cols=iy cols i c:=by
 unfold lJ;have:(cols.zipIdx.map fun(c,i)=>iy cols i c).find? (fun z=>z !=0)=some (iy cols i c):=by
  rw[mKY];have aP:=(HH.1 hc).1;refine⟨by simpa using ch,i,by simpa using aP,?_,fun j hj=>?_⟩
  ·have:=(HH.1 hc).2;simp[this]
  ·have tX:j<cols.length:=by omega
   have:=aV j hj cols[j] (by simp[tX]);simp[this]
 rw[this];rfl
theorem Dd{cols:List cK}(aV:∀j,j<cols.length->∀y,cols[j]? =some y->iy cols j y=0):lJ cols=0:=by
 unfold lJ;have:(cols.zipIdx.map fun(c,i)=>iy cols i c).find? (fun z=>z !=0)=none:=by rw[List.find?_eq_none];intro x hx;obtain⟨⟨c,i⟩,hm,rfl⟩:=mQO.1 hx;have:=mKX.1 hm;have aP:=(HH.1 this).1;simp[aV i aP c this]
 rw[this];rfl
theorem aJV{cols:List cK}{i:Nat}{c:cK}(hc:cols[i]? =some c){z':Int}(hr:vg cols (fun x=>decide (x.name=c.name)) z'):
 decide (max z' 0<(i:Int))=(cols.take i).any fun x=>decide (x.name=c.name):=by
 rcases hr.out with ⟨-,h⟩ | ⟨k,x,hk,hx,hp,aV⟩
 ·have:=h c (GD hc);simp at this
 ·have hz:=hk.eq;by_cases aP:k<i
  ·rw[kS (by omega),eq_comm,mZK];exact⟨x,GD (i:=k) (by rw[mXa,if_pos aP];exact hx),hp⟩
  ·have kKm:¬i<k:=fun h=>by have:=aV i h c hc;simp at this
   rw[nM (by omega),eq_comm,mJi];intro y hy;obtain⟨j,hj⟩:=mQZ hy;rw[mXa]at hj;split at hj
   ·rename_i nT;have:=aV j (by omega) y hj;simpa using this
   ·cases hj
set_option maxHeartbeats 2000000 in
theorem WU{nm:ByteArray}{cols:List cK}{key:Int}{only:Bool}{h:ad}{b:Option Addr}{n c:Nat}(q:Sl 165 bI h (.slice b n c) cols):
 Ct 77 [.agg #[.string nm,.slice b n c,.int .i64 key,.bool only]] h (fun v h'=>Le h h'/\∃z,v=.int .i64 z/\z=kE ⟨nm,cols,key,only⟩):=by
 obtain⟨A,hA⟩:=Ar.ex;have hlen:=q.len;obtain⟨lY,jq⟩:=q.bound;have hn:A .nat n=(cols.length:Int):=by rw[hA.nat,hlen];rfl
 have Cv:aS (A .nat n) n:=⟨by rw[hA.nat];rfl⟩;generalize e1:A .aI .lss (A .nat n) 1=t1;generalize e2:A .aI .gtr (A .nat n) 6=t2;have f12:(decide ((cols.length:Int)<1)||decide ((cols.length:Int)>6))=(t1||t2):=by rw[<-e1,<-e2,hn,bm A,bO A]
 refine ah A (ax jKf.aK jKf.bF) Tryz.func77 rfl (by kernel_rfl) ?_;cbv;intro sp h1 MK e0;have l1:Le h h1:=by rw[e0];exact Le.set MK
 have eZQ:=(congrFun e0 sp).trans ae;have s1:gZn h1 sp:=⟨.inl eZQ⟩;have q1:=q.mono (l1.t _);clear e0;cbv;refine(aZU s1).mono (fun v h2 hR=>?_);obtain⟨t,rfl,ht,k2,s2⟩:=hR;cbv;rw[hA.not];cases t with
 |false=>cbv;refine⟨l1.dJ (by simpa using MK) k2,12,rfl,?_⟩;unfold kE;rw[<-ht];rfl
 |true=>
  cbv;rw[e1];have many:(t1||t2)=true->(4:Int)=kE ⟨nm,cols,key,only⟩:=fun hm=>by
   unfold kE;rw[<-ht,f12,hm];rfl
  cases t1 with
  |true=>cbv;exact⟨l1.dJ (by simpa using MK) k2,4,rfl,many rfl⟩
  |false=>
   cbv;rw[e2];cases t2 with
   |true=>cbv;exact⟨l1.dJ (by simpa using MK) k2,4,rfl,many rfl⟩
   |false=>
    clear many e1 e2;cbv;refine aX.go (G:=Int) (fun z=>[(25,.v (.int .i64 z))]) (fun _=>[(1,[.string nm,.slice b n c,.int .i64 key,.bool only])])
     (fun k z h'=>∃i:Nat,aS z i/\k=n-i/\i<=n/\Kp [sp] h1 h'/\gZn h' sp/\∀j,j<i->∀y,cols[j]? =some y->iy cols j y=0) n 0 ⟨?_,?_,?_⟩ ⟨0,⟨rfl⟩,by omega,by omega,k2,s2,fun j hj=>(by omega)⟩ ?_
    ·cbv
    ·cbv
    ·cbv
    ·intro k z h' hI;cbv;obtain⟨i,hz,hk,hi,kp,kXE,aV⟩:=hI;refine bh (fun hc=>?_) (fun hc=>?_)
     ·have aP:=hz.lt hc;clear hc;cbv;obtain⟨x,hx⟩:=aE (xs:=cols) (i:=i) (by omega);have q':=q1.mono (Kp.fQr kp eZQ (by decide));refine⟨⟨q.aT (by omega),hz.ix aP⟩,?_⟩;cbv;refine q'.load hx hz.eq (fun cs ay=>?_);have ay:cs=[.string x.name,.int .i64 x.kind,.bool x.null]:=ay;subst ay;generalize bZv:x.name=xn at *;generalize VX:x.kind=xk at *;cbv;refine(bQy q').mono (fun v h3 hR=>?_);obtain⟨l3,z3,t3,z',rfl,hr,ui,YM⟩:=hR;have s3:gZn h3 sp:=by
       rcases kXE.out with g| ⟨m,g,mp,hm⟩
       ·exact⟨.inl (l3 _ _ g)⟩
       ·exact⟨.inr ⟨m,l3 _ _ g,mp.kp (l3.kp []) (by simp),hm⟩⟩
      have ke:A .aI .lss z3 z=(cols.take i).any fun y=>decide (y.name=xn):=by rw[bm A,ui,hz.eq,<-bZv];exact aJV hx (by rw[bZv];exact hr)
      cbv;refine(aZU s3).mono (fun v h4 hR=>?_);obtain⟨t,rfl,kJE,k4,s4⟩:=hR;have dJe:=(kp.trans (l3.kp _)).trans k4;have bKM:Le h h4:=l1.dJ (by simpa using MK) dJe;have bad:∀e:Int,iy cols i x=e->e≠0->e=kE ⟨nm,cols,key,only⟩:=fun e he ch=>by
       have h5:=ID hx aV (by rw[he];exact ch);unfold kE;rw[<-ht,f12];simp only[h5,he];rw[if_neg (by simp),if_neg (by simp),if_pos ch]
      have pO:iy cols i x=0->∀j,j<i+1->∀y,cols[j]? =some y->iy cols j y=0:=fun e j hj y hy=>by
       rcases mQS j i with nT|nT
       ·exact aV j nT y hy
       ·have:j=i:=by omega
        subst this;rw[hx]at hy;cases hy;exact e
      generalize e1:A .aI .lss z3 z=u1 at *;generalize e2:A .aI .lss xk 1=u2;generalize e3:A .aI .gtr xk 3=u3;have dKD:iy cols i x=if(!t||u1)=true then 12 else if(u2||u3)=true then 3 else 0:=by unfold iy;rw[bZv,VX,<-kJE,<-ke,<-e2,<-e3,bm A,bO A]
      cbv;rw[hA.not];cases t with
      |false=>cbv;exact⟨bKM,12,rfl,bad 12 dKD (by decide)⟩
      |true=>
       cbv;try rw[e1]
       cases u1 with
       |true=>cbv;exact⟨bKM,12,rfl,bad 12 dKD (by decide)⟩
       |false=>
        cbv;rw[e2];cases u2 with
        |true=>cbv;exact⟨bKM,3,rfl,bad 3 dKD (by decide)⟩
        |false=>
         cbv;rw[e3];cases u3 with
         |true=>cbv;exact⟨bKM,3,rfl,bad 3 dKD (by decide)⟩
         |false=>
          cbv;refine⟨n-(i+1),_,by omega,⟨?_,?_,?_⟩,i+1,hz.succ (A:=A) (by omega),rfl,by omega,dJe,s4,pO dKD⟩
          ·cbv
          ·cbv
          ·cbv
     ·have lN:=hz.ge hc;have h0:lJ cols=0:=Dd fun j hj y hy=>aV j (by omega) y hy;have bKM:Le h h':=l1.dJ (by simpa using MK) kp;have q':=q1.mono (Kp.fQr kp eZQ (by decide));generalize e1:A .aI .lss key 0=u1;generalize e2:A .aI .geq key (A .nat n)=u2;have hs:kE ⟨nm,cols,key,only⟩=if(u1||u2)=true then 1 else if((cols[key.toNat]?).map (·.null)).getD false=true then 13 else 0:=by unfold kE;rw[<-ht,f12];simp only[h0];rw[if_neg (by simp),if_neg (by simp),if_neg (by simp),<-e1,<-e2,bm A,cf A,hn]
      cbv;rw[e1];cases u1 with
      |true=>cbv;exact⟨bKM,1,rfl,hs.symm⟩
      |false=>
       cbv;rw[e2];cases u2 with
       |true=>cbv;exact⟨bKM,1,rfl,hs.symm⟩
       |false=>
        obtain⟨vm,sJ⟩:=SX A e1 e2;obtain⟨x,hx⟩:=aE (xs:=cols) (i:=key.toNat) (by omega);rw[hx]at hs;cbv;refine⟨⟨q.aT (by omega),vm.ix sJ⟩,?_⟩;cbv;refine q'.cC hx vm.eq (by decide) (fun cs ay=>?_);have ay:cs=[.string x.name,.int .i64 x.kind,.bool x.null]:=ay;subst ay;have hs:kE ⟨nm,cols,key,only⟩=if x.null=true then 13 else 0:=hs
        generalize x.null=nl at *;cases nl with
        |true=>cbv;exact⟨bKM,13,rfl,hs.symm⟩
        |false=>cbv;exact⟨bKM,0,rfl,hs.symm⟩
theorem bXe(a b:Int)(h:ad)(c1 c2:Value):Ct 112 [.agg #[.int .i64 a,c1,c2],.int .i64 b] h (fun v h'=>Le h h'/\∃z,v=.int .i64 z/\z=IntKind.i64.wrap (a-b)):=by obtain⟨A,hA⟩:=Ar.ex;refine ah A (ax gZc.aK gZc.bF) Tryz.func112 rfl (by kernel_rfl) ?_;cbv;exact⟨Le.refl _,_,rfl,by rw[hA.bB];rfl⟩
theorem fJP{xs:List (fJ×Bool)}{h:ad}{b:Option Addr}{len cap:Nat}(q:Sl 55 cX h (.slice b len cap) xs)(sy:Int):
 Ct 111 [.slice b len cap,.int .i64 sy,.func (.func 112) #[] #[]] h (fun v h'=>Le h h'/\∃(z:Int) (t:Bool),v=.tuple #[.int .i64 z,.bool t]/\aQc (xs.map (fun x:fJ×Bool=>IntKind.i64.wrap (x.1.s-sy))) z t):=by
 obtain⟨A,hA⟩:=Ar.ex;have hlen:=q.len;obtain⟨lY,jq⟩:=q.bound;have Am:(xs.map (fun x:fJ×Bool=>IntKind.i64.wrap (x.1.s-sy))).length=len:=by simp[hlen]
 generalize hl:xs.map (fun x:fJ×Bool=>IntKind.i64.wrap (x.1.s-sy))=l at Am;have uS:∀(i:Nat) x,xs[i]? =some x->l[i]? =some ((fun x:fJ×Bool=>IntKind.i64.wrap (x.1.s-sy)) x):=fun i x hx=>by rw[<-hl];simp[hx]
 refine ah A (ax gZd.aK gZd.bF) Tryz.func111 rfl (by kernel_rfl) ?_;cbv;refine aX.go (G:=Int×Int) (fun g=>[(9,.v (.int .i64 g.1)),(10,.v (.int .i64 g.2))]) (fun _=>[])
  (fun n g h'=>∃i j:Nat,aS g.1 i/\aS g.2 j/\n=j-i/\i<=j/\j<=len/\Le h h'/\uc l 0 len=uc l i j) len (0,A .nat len) ⟨?_,?_,?_⟩ ⟨0,len,⟨rfl⟩,⟨by rw[hA.nat];rfl⟩,by omega,by omega,by omega,Le.refl _,rfl⟩ ?_
 ·cbv
 ·cbv
 ·cbv
 ·intro n g h' hI;cbv;obtain⟨i,j,hi,hj,hn,aKH,tX,hle,aKR⟩:=hI;refine bh (fun hc=>?_) (fun hc=>?_)
  ·rw[hi.iJ (A:=A) hj,mQD]at hc;cbv;refine⟨by decide,?_⟩;cbv;have hm:=hi.bKH (A:=A) hj (by omega) (by omega);obtain⟨x,hx⟩:=aE (xs:=xs) (i:=(i+j) / 2) (by omega);refine⟨⟨q.aT (by omega),hm.ix (by omega)⟩,?_⟩;cbv;refine(q.mono (hle.t _)).load hx hm.eq (fun cs ay=>?_);obtain⟨b1,n1,k1,b2,n2,k2,rfl,q1,q2,-⟩:=ay;cbv;refine(bXe x.1.s sy _ _ _).mono (fun v h2 hR=>?_);obtain⟨eE,z,rfl,hz⟩:=hR;cbv;have hg:l.getD ((i+j) / 2) 0=z:=by rw[mXv,uS _ _ hx,hz];rfl
   have nU:=aKR;rw[uc.eq_1 l i j,if_pos hc,hg]at nU;refine bh (fun oq=>?_) (fun oq=>?_)
   ·rw[hA.aI]at oq;have Qn:z<0:=mQB oq;rw[if_pos Qn]at nU;clear oq Qn;cbv;refine⟨j-((i+j) / 2+1),(_,g.2),by omega,⟨?_,?_,?_⟩,(i+j) / 2+1,j,hm.succ (A:=A) (by omega),hj,rfl,by omega,tX,hle.trans eE,nU⟩
    ·cbv
    ·cbv
    ·cbv
   ·rw[hA.aI]at oq;have Qn:¬z<0:=mQI oq;rw[if_neg Qn]at nU;clear oq Qn;cbv;refine⟨(i+j) / 2-i,(g.1,A .conv .i64 (A .bB .shr .u64 (A .conv .u64 (A .bB .add .i64 g.1 g.2)) 1)),by omega,⟨?_,?_,?_⟩,i,(i+j) / 2,hi,hm,rfl,by omega,by omega,hle.trans eE,nU⟩
    ·cbv
    ·cbv
    ·cbv
  ·rw[hi.iJ (A:=A) hj,decide_eq_false_iff_not]at hc;cbv;have nU:=aKR;rw[uc.eq_1 l i j,if_neg hc]at nU;have iV:=hi.iJ (A:=A) (w:=A .nat len) (j:=len) ⟨by rw[hA.nat];rfl⟩;refine bh (fun oq=>?_) (fun oq=>?_)
   ·rw[oq];rw[iV,mQD]at oq;cbv;obtain⟨x,hx⟩:=aE (xs:=xs) (i:=i) (by omega);refine⟨⟨q.aT (by omega),hi.ix (by omega)⟩,?_⟩;cbv;refine(q.mono (hle.t _)).load hx hi.eq (fun cs ay=>?_);obtain⟨b1,n1,k1,b2,n2,k2,rfl,q1,q2,-⟩:=ay;cbv;refine(bXe x.1.s sy _ _ _).mono (fun v h2 hR=>?_);obtain⟨eE,z,rfl,hz⟩:=hR;cbv;refine⟨hle.trans eE,_,_,rfl,⟨i,hi,?_,?_⟩⟩
    ·rw[Am];exact nU.symm
    ·rw[hA.aI];have hg:l.getD i 0=z:=by rw[mXv,uS _ _ hx,hz];rfl
     rw[hg,Am];simp[aI,oq];rfl
   ·rw[oq];rw[iV,decide_eq_false_iff_not]at oq;cbv;refine⟨hle,_,_,rfl,⟨i,hi,?_,?_⟩⟩
    ·rw[Am];exact nU.symm
    ·rw[Am];simp[oq]
theorem Ay{h:ad}{c tb wb ct cw:Nat}{T:List cW}{W:List (fJ×Bool)}{H Wt:List cg}{e:Int}(q:lA h c tb wb ct cw T W H Wt e)(sy:Int):
 Ct 49 [.pointer (some ⟨c,0,none⟩),.int .i64 sy] h (fun v h'=>Le h h'/\∃z t,v=.tuple #[.int .i64 z,.bool t]/\aQc (W.map (fun x=>IntKind.i64.wrap (x.1.s-sy))) z t):=by
 obtain⟨A,hA⟩:=Ar.ex;obtain⟨n1,n2,b3,n3,c3,b4,n4,c4,o,g0,g1,g2,g3,g4,g5,g6,g7⟩:=q.out;refine ah A (ax jKB.aK jKB.bF) Tryz.func49 rfl (by kernel_rfl) ?_;cbv;rw[ai A];rw[ai A];refine aB g0 rfl rfl ?_;cbv;refine(fJP (g5.sl g4) sy).mono (fun v h2 hR=>?_);obtain⟨l2,z,t,rfl,hz⟩:=hR;cbv;exact⟨l2,z,t,rfl,hz⟩
theorem vu{h:ad}{c tb wb ct cw:Nat}{T:List cW}{W:List (fJ×Bool)}{H Wt:List cg}{e:Int}(q:lA h c tb wb ct cw T W H Wt e)(name:ByteArray):
 Ct 105 [.pointer (some ⟨c,0,none⟩),.string name] h (fun v h'=>Le h h'/\∃z t,v=.tuple #[.int .i64 z,.bool t]/\aQc (T.map (fun x=>eC x.S.name name)) z t):=by
 obtain⟨A,hA⟩:=Ar.ex;obtain⟨n1,n2,b3,n3,c3,b4,n4,c4,o,g0,g1,g2,g3,g4,g5,g6,g7⟩:=q.out;refine ah A (ax gZj.aK gZj.bF) Tryz.func105 rfl (by kernel_rfl) ?_;cbv;rw[ai A];rw[ai A];refine aB g0 rfl rfl ?_;cbv;refine(iKd (g3.sl g2) name).mono (fun v h2 hR=>?_);obtain⟨l2,z,t,rfl,hz⟩:=hR;cbv;exact⟨l2,z,t,rfl,hz⟩
theorem aJK{xs:List cW}{x:cW}{h:ad}{b vb:Option Addr}{n cv:Nat}(q:Sl 51 ef h (.slice b n n) xs)(qv:Sl 51 ef h (.slice vb 1 cv) [x]){z:Int}{i:Nat}(hz:aS z i)(hi:i<=n)(hn:n<=2^38):
 Ct 106 [.slice b n n,.int .i64 z,.slice vb 1 cv] h (fun v h'=>Le h h'/\∃nb c m,v=.slice (some ⟨nb,0,none⟩) m c/\h nb=none/\m=n+1/\fX 51 ef h' nb c (xs.take i++[x]++xs.drop i)):=by
 obtain⟨A,hA⟩:=Ar.ex;have hlen:=q.len;have Cv:aS (A .nat n) n:=⟨by rw[hA.nat];rfl⟩;have KS:aS (A .nat 1) 1:=⟨by rw[hA.nat];rfl⟩;have e1:A .aI .eql (A .nat 1) 0=false:=by rw[aA A,hA.nat];rfl
 have e2:A .aI .eql z (A .nat n)=decide (i=n):=by rw[aA A,hA.nat];have:=hz.eq;rw[decide_eq_decide];simp only[mQJ];omega
 have e3:A .aI .gtr (A .bB .add .i64 (A .nat n) (A .nat 1)) (A .nat n)=true:=by rw[bO A,mQD,hA.bB,hA.nat];simp only[bB,mQJ];rw[IntWalk.i64_in _ (by omega)];omega
 have hw:=(Cv.add (A:=A) KS (by omega)).sub (A:=A) hz (by omega) (by omega);have cJ:=yy hw (bytes:=80) (by omega) (by decide);have qA:0<=z/\z<=(n:Int):=by have:=hz.eq;omega
 refine ah A (ax gZi.aK gZi.bF) Tryz.func106 rfl (by kernel_rfl) ?_;cbv;refine⟨qA,?_⟩;cbv;rw[e1];cbv;rw[e2];by_cases fZ:i=n
 ·rw[kS fZ];cbv;refine lz q qv (by omega) rfl (by decide) (by omega) (fun nb c h1 gY l1 hc ho=>?_);cbv;refine⟨l1,nb,c,_,rfl,gY,rfl,?_⟩;rw[fZ,hlen,mXy,mKi,mQF];exact ho
 ·rw[nM fZ];cbv;rw[e3];cbv;refine⟨qA,?_⟩;cbv;refine⟨cJ,?_⟩;cbv;rw[fh (A:=A) hz];rw[fh (A:=A) hw];refine pU (q.Om (A:=A) hi) (by omega) rfl (by decide) (by omega) rfl rfl (fun nb c h1 gY l1 hc ho=>?_);obtain⟨m,hm⟩:∃m,m=n+1:=⟨_,rfl⟩;rw[show i+(n+1-i)=m by omega];have kKe:aS (A .nat m) m:=⟨by rw[hA.nat];rfl⟩;have kKR:aS (A .nat c) c:=⟨by rw[hA.nat];rfl⟩;have aJZ:0<=z/\z<=(m:Int):=by have:=hz.eq;omega
  have jV:=hz.add (A:=A) KS (by omega);have dJw:0<=A .bB .add .i64 z (A .nat 1)/\A .bB .add .i64 z (A .nat 1)<=(m:Int):=by have:=jV.eq;omega
  have aP:(xs.take i).length=i:=by rw[mQw];omega
  cbv;refine⟨aJZ,?_⟩;cbv;rw[CZ (A:=A) hz (by omega),gA (A:=A) hz];have hZP:=qv.mono (l1.t _);refine Db ho (by decide) (i:=i) (by omega) hZP (by omega) (by omega) (by omega) rfl (fun h2 k2 t2 o2=>?_);rw[mKh,mKg,mXl (by omega),mQF]at o2;have l2:Le h h2:=l1.dJ (by simpa using gY) k2;have q2:=q.mono (l2.t _);generalize ((min 1 (m-i):Nat):Int)=w1;cbv;refine⟨dJw,?_⟩;cbv;refine⟨qA,?_⟩;cbv;rw[CZ (A:=A) jV (by omega),gA (A:=A) jV,gA (A:=A) hz,gA (A:=A) hz];refine Db o2 (by decide) (i:=i+1) (by simp;omega) (q2.uW (A:=A) hz hi rfl rfl) (by omega) (by omega) (by omega) rfl (fun h3 k3 t3 o3=>?_);generalize ((min (n-i) (m-(i+1)):Nat):Int)=w2;cbv;refine⟨l2.dJ (by simpa using gY) k3,nb,c,m,rfl,gY,hm,?_⟩;have e5:(List.take i xs++[x]).length=i+1:=by simp;omega
  have e6:List.take (i+1) (List.take i xs++[x])=List.take i xs++[x]:=mQM (by omega);have e7:List.drop (i+1+(n-i)) (List.take i xs++[x])=[]:=mXl (by omega);rw[e6,e7,mQF]at o3;exact o3
theorem aJJ{xs:List (fJ×Bool)}{x:fJ×Bool}{h:ad}{b vb:Option Addr}{n cv:Nat}(q:Sl 55 cX h (.slice b n n) xs)(qv:Sl 55 cX h (.slice vb 1 cv) [x]){z:Int}{i:Nat}(hz:aS z i)(hi:i<=n)(hn:n<=2^38):
 Ct 51 [.slice b n n,.int .i64 z,.slice vb 1 cv] h (fun v h'=>Le h h'/\∃nb c m,v=.slice (some ⟨nb,0,none⟩) m c/\h nb=none/\m=n+1/\fX 55 cX h' nb c (xs.take i++[x]++xs.drop i)):=by
 obtain⟨A,hA⟩:=Ar.ex;have hlen:=q.len;have Cv:aS (A .nat n) n:=⟨by rw[hA.nat];rfl⟩;have KS:aS (A .nat 1) 1:=⟨by rw[hA.nat];rfl⟩;have e1:A .aI .eql (A .nat 1) 0=false:=by rw[aA A,hA.nat];rfl
 have e2:A .aI .eql z (A .nat n)=decide (i=n):=by rw[aA A,hA.nat];have:=hz.eq;rw[decide_eq_decide];simp only[mQJ];omega
 have e3:A .aI .gtr (A .bB .add .i64 (A .nat n) (A .nat 1)) (A .nat n)=true:=by rw[bO A,mQD,hA.bB,hA.nat];simp only[bB,mQJ];rw[IntWalk.i64_in _ (by omega)];omega
 have hw:=(Cv.add (A:=A) KS (by omega)).sub (A:=A) hz (by omega) (by omega);have cJ:=yy hw (bytes:=56) (by omega) (by decide);have qA:0<=z/\z<=(n:Int):=by have:=hz.eq;omega
 refine ah A (ax jKA.aK jKA.bF) Tryz.func51 rfl (by kernel_rfl) ?_;cbv;refine⟨qA,?_⟩;cbv;rw[e1];cbv;rw[e2];by_cases fZ:i=n
 ·rw[kS fZ];cbv;refine lz q qv (by omega) rfl (by decide) (by omega) (fun nb c h1 gY l1 hc ho=>?_);cbv;refine⟨l1,nb,c,_,rfl,gY,rfl,?_⟩;rw[fZ,hlen,mXy,mKi,mQF];exact ho
 ·rw[nM fZ];cbv;rw[e3];cbv;refine⟨qA,?_⟩;cbv;refine⟨cJ,?_⟩;cbv;rw[fh (A:=A) hz];rw[fh (A:=A) hw];refine pU (q.Om (A:=A) hi) (by omega) rfl (by decide) (by omega) rfl rfl (fun nb c h1 gY l1 hc ho=>?_);obtain⟨m,hm⟩:∃m,m=n+1:=⟨_,rfl⟩;rw[show i+(n+1-i)=m by omega];have kKe:aS (A .nat m) m:=⟨by rw[hA.nat];rfl⟩;have kKR:aS (A .nat c) c:=⟨by rw[hA.nat];rfl⟩;have aJZ:0<=z/\z<=(m:Int):=by have:=hz.eq;omega
  have jV:=hz.add (A:=A) KS (by omega);have dJw:0<=A .bB .add .i64 z (A .nat 1)/\A .bB .add .i64 z (A .nat 1)<=(m:Int):=by have:=jV.eq;omega
  have aP:(xs.take i).length=i:=by rw[mQw];omega
  cbv;refine⟨aJZ,?_⟩;cbv;rw[CZ (A:=A) hz (by omega),gA (A:=A) hz];have hZP:=qv.mono (l1.t _);refine Db ho (by decide) (i:=i) (by omega) hZP (by omega) (by omega) (by omega) rfl (fun h2 k2 t2 o2=>?_);rw[mKh,mKg,mXl (by omega),mQF]at o2;have l2:Le h h2:=l1.dJ (by simpa using gY) k2;have q2:=q.mono (l2.t _);generalize ((min 1 (m-i):Nat):Int)=w1;cbv;refine⟨dJw,?_⟩;cbv;refine⟨qA,?_⟩;cbv;rw[CZ (A:=A) jV (by omega),gA (A:=A) jV,gA (A:=A) hz,gA (A:=A) hz];refine Db o2 (by decide) (i:=i+1) (by simp;omega) (q2.uW (A:=A) hz hi rfl rfl) (by omega) (by omega) (by omega) rfl (fun h3 k3 t3 o3=>?_);generalize ((min (n-i) (m-(i+1)):Nat):Int)=w2;cbv;refine⟨l2.dJ (by simpa using gY) k3,nb,c,m,rfl,gY,hm,?_⟩;have e5:(List.take i xs++[x]).length=i+1:=by simp;omega
  have e6:List.take (i+1) (List.take i xs++[x])=List.take i xs++[x]:=mQM (by omega);have e7:List.drop (i+1+(n-i)) (List.take i xs++[x])=[]:=mXl (by omega);rw[e6,e7,mQF]at o3;exact o3
theorem ik.form{h:ad}{v:Value}{d:DB}(q:ik h v d):∃b1 n1 c1 b2 n2 c2 b3 n3 c3 b4 n4 c4,v=.agg #[.slice b1 n1 c1,.slice b2 n2 c2,.slice b3 n3 c3,.slice b4 n4 c4]:=by obtain⟨b1,n1,c1,b2,n2,c2,b3,n3,c3,b4,n4,c4,ws,rfl,-⟩:=q.out;exact⟨_,_,_,_,_,_,_,_,_,_,_,_,rfl⟩
theorem ik.mono{h h':ad}{v:Value}{d:DB}(q:ik h v d)(l:Le h h'):ik h' v d:=by obtain⟨b1,n1,c1,b2,n2,c2,b3,n3,c3,b4,n4,c4,ws,rfl,q1,q2,q3,q4,q5⟩:=q.out;exact⟨_,_,_,_,_,_,_,_,_,_,_,_,ws,rfl,q1.mono (l.t _),q2.mono (l.t _),q3.mono (l.t _),q4.mono (l.t _),q5⟩
theorem tL{d:DB}{h:ad}{v:Value}(q:ik h v d):Ct 50 [v] h (fun v' h'=>Le h h'/\ik h' v' d):=by refine(cJA q).mono (fun v h1 hR=>?_);obtain⟨l1,tb,wb,n1,n2,b3,n3,c3,b4,n4,c4,W,wB,Ai,rfl,g1,g2,g3,g4,g5,g6,g7⟩:=hR;exact⟨l1,⟨_,_,_,_,_,_,_,_,_,_,_,_,W,rfl,g2.sl g1,g4.sl g3,g5,g6,by rw[g7,mXB];simp[Function.comp_def]⟩⟩
def xB(d:DB)(w:List fJ):DB:={ d with aq:=w }
def jh(d:DB)(sy:Int)(i:Nat)(is:Bool):DB×Int:=
 if(decide (sy<0)||decide (sy>=8))=true then(d,1)
 else if is=true then(d,7)
 else(xB d (d.aq.take i++[⟨sy,[],[]⟩]++d.aq.drop i),0)
theorem cZs{d:DB}{h:ad}{v:Value}(q:ik h v d)(sy:Int)(hlen:d.aq.length<=2^37):
 Ct 25 [v,.int .i64 sy] h (fun v' h'=>∃v1 e z i is,v'=.tuple #[v1,.int .i64 e]/\Le h h'/\ik h' v1 (jh d sy i is).1/\e=(jh d sy i is).2/\aS z i/\aQc (d.aq.map fun x=>IntKind.i64.wrap (x.s-sy)) z is):=by
 obtain⟨A,hA⟩:=Ar.ex;obtain⟨b1,n1,c1,b2,n2,c2,b3,n3,c3,b4,n4,c4,rfl⟩:=q.form;generalize e1:A .aI .lss sy 0=u1;generalize e2:A .aI .geq sy 8=u2;have CI:(decide (sy<0)||decide (sy>=8))=(u1||u2):=by rw[<-e1,<-e2,bm A,cf A]
 refine ah A (ax jKU.aK jKU.bF) Tryz.func25 rfl (by kernel_rfl) ?_;cbv;refine(Nv q).mono (fun v h1 hR=>?_);obtain⟨l1,c,tb,wb,ct,cw,W,rfl,hc,wB,Ai,wF,tZ,hW,aQA,Uw,cs⟩:=hR;cbv;refine(Ay cs sy).mono (fun v h2 hR=>?_);obtain⟨l2,z,t,rfl,hb⟩:=hR;have oz:aQc (d.aq.map fun x=>IntKind.i64.wrap (x.s-sy)) z t:=by rw[hW,mXB]at hb;exact hb
 have jq:=oz;obtain⟨i,hz,hi,ht⟩:=jq.out;have ko:=l1.trans l2;have q2:=q.mono ko;have arg:(u1||u2)=true->jh d sy i t=(d,1):=fun e=>by unfold jh;rw[CI,e];rfl
 have kJa:(u1||u2)=false->t=true->jh d sy i t=(d,7):=fun e et=>by unfold jh;rw[CI,e,et];rfl
 have new:(u1||u2)=false->t=false->jh d sy i t=(xB d (d.aq.take i++[⟨sy,[],[]⟩]++d.aq.drop i),0):=fun e et=>by unfold jh;rw[CI,e,et];rfl
 have fin:∀(e:Int) (v:Value) (h3:ad),Le h h3->jh d sy i t=(d,e)->ik h3 v d->∃v1 e1 z i is,Value.tuple #[v,.int .i64 e]=.tuple #[v1,.int .i64 e1]/\Le h h3/\ik h3 v1 (jh d sy i is).1/\e1=(jh d sy i is).2/\aS z i/\aQc (d.aq.map fun x=>IntKind.i64.wrap (x.s-sy)) z is:=
  fun e v h3 l3 hr hd=>⟨v,e,z,i,t,rfl,l3,by rw[hr];exact hd,by rw[hr],hz,oz⟩
 cbv;rw[e1];cases u1 with
 |true=>cbv;refine(tL q2).mono (fun v h3 hR=>?_);obtain⟨l3,hd⟩:=hR;obtain⟨b1,n1,c1,b2,n2,c2,b3,n3,c3,b4,n4,c4,rfl⟩:=hd.form;cbv;exact fin 1 _ _ (ko.trans l3) (arg rfl) hd
 |false=>
  cbv;rw[e2];cases u2 with
  |true=>cbv;refine(tL q2).mono (fun v h3 hR=>?_);obtain⟨l3,hd⟩:=hR;obtain⟨b1,n1,c1,b2,n2,c2,b3,n3,c3,b4,n4,c4,rfl⟩:=hd.form;cbv;exact fin 1 _ _ (ko.trans l3) (arg rfl) hd
  |false=>
   cases t with
   |true=>cbv;refine(tL q2).mono (fun v h3 hR=>?_);obtain⟨l3,hd⟩:=hR;obtain⟨b1,n1,c1,b2,n2,c2,b3,n3,c3,b4,n4,c4,rfl⟩:=hd.form;cbv;exact fin 7 _ _ (ko.trans l3) (kJa rfl rfl) hd
   |false=>
    have Bs:=cs.mono l2;obtain⟨m1,m2,x3,m3,k3,x4,m4,k4,o,g0,g1,g2,g3,g4,g5,g6,g7⟩:=Bs.out;have ke:i<=W.length:=by have:=Nt (d.aq.map fun x=>IntKind.i64.wrap (x.s-sy)) 0 (d.aq.map fun x=>IntKind.i64.wrap (x.s-sy)).length (mQr _);rw[hi,hW];simpa using this.1
    cbv;rw[ai A];rw[ai A];refine aB g0 rfl rfl ?_;cbv;intro nb h3 gY e3;have l3:Le h2 h3:=by rw[e3];exact Le.set gY
    have gx:=(congrFun e3 nb).trans ae;have sx:Sl 55 cX h3 (.slice (some ⟨nb,0,none⟩) 1 1) [((⟨sy,[],[]⟩:fJ),true)]:=by
     refine Sl.fresh (xs:=[((⟨sy,[],[]⟩:fJ),true)]) gx ⟨by simp[cX],fun j y hj=>?_⟩ (by simp) (by simp);have Cy:j=0:=by have:=(HH.1 hj).1;simp at this;exact this
     subst Cy;simp at hj;subst hj;exact⟨none,0,0,none,0,0,rfl,Sl.nil,Sl.nil,fun _=>rfl⟩
    have em:m2=cw:=by rw[g4,Uw]
    subst em;have iXn:i<=m2:=by omega
    have dKi:m2<=2^38:=by rw[Uw,hW,mQz];omega
    cbv;refine(aJJ ((g5.sl g4).mono (l3.t _)) sx hz iXn dKi).mono (fun v h4 hR=>?_);obtain⟨l4,eJp,lXu,m5,rfl,kJr,cXJ,ow⟩:=hR;have cXz:=l4 _ _ (l3 _ _ g0);cbv;rw[ai A];rw[ai A];refine ja cXz (by simp) (fun h5 e5=>?_);have lQO:=(congrFun e5 c).trans ae;have k5:Kp [c] h4 h5:=by rw[e5];exact Kp.set (by simp)
    have t5:∀tys,128∉tys->bR tys h4 h5:=fun tys hn=>by rw[e5];exact bR.set cXz hn
    have xS:Le h h5:=((ko.trans l3).trans l4).dJ (by simpa using hc) k5;have JB:ik h5 (.agg #[.slice (some ⟨tb,0,none⟩) m1 ct,.slice (some ⟨eJp,0,none⟩) m5 lXu,.slice x3 m3 k3,.slice x4 m4 k4]) (xB d (d.aq.take i++[⟨sy,[],[]⟩]++d.aq.drop i)):=by
     have rK:=l3.trans l4;refine⟨_,_,_,_,_,_,_,_,_,_,_,_,_,rfl,((g3.sl g2).mono (rK.t _)).mono (t5 _ (by decide)),(ow.sl ?_).mono (t5 _ (by decide)),(g6.mono (rK.t _)).mono (t5 _ (by decide)),(g7.mono (rK.t _)).mono (t5 _ (by decide)),?_⟩
     ·rw[cXJ];simp;omega
     ·rw[hW];simp[xB,mKf,mKe,Function.comp_def]
    cbv;rw[ai A];refine aB lQO rfl rfl ?_;cbv;refine(tL JB).mono (fun v h6 hR=>?_);obtain⟨l6,hd⟩:=hR;have qF:=new rfl rfl;have jX:=hd;generalize xB d (d.aq.take i++[⟨sy,[],[]⟩]++d.aq.drop i)=d' at *;obtain⟨b1,n1,c1,b2,n2,c2,b3,n3,c3,b4,n4,c4,rfl⟩:=hd.form;cbv;exact⟨_,0,z,i,false,rfl,xS.trans l6,by rw[qF];exact jX,by rw[qF],hz,oz⟩
def tm(d:DB)(t:List cW):DB:={ d with az:=t }
def mA(d:DB)(s:FR)(is:Bool):Int:=
 if kE s≠0 then kE s
 else if is=true then 7
 else if decide (d.az.length>=8)=true then 4
 else if decide (d.aq.length>0)=true then 18 else 0
def nZ(d:DB)(s:FR)(i:Nat)(is:Bool):DB×Int:=
 if mA d s is=0 then(tm d (d.az.take i++[⟨s,[]⟩]++d.az.drop i),0)else(d,mA d s is)
theorem bQV{d:DB}{h:ad}{v:Value}(q:ik h v d){nm:ByteArray}{cols:List cK}{key:Int}{only:Bool}{sb:Option Addr}{sn sc:Nat}(qs:Sl 165 bI h (.slice sb sn sc) cols)(hlen:d.az.length<=2^37)(lKc:d.aq.length<=2^37):
 Ct 45 [v,.agg #[.string nm,.slice sb sn sc,.int .i64 key,.bool only]] h (fun v' h'=>∃v1 e z i is,v'=.tuple #[v1,.int .i64 e]/\Le h h'/\ik h' v1 (nZ d ⟨nm,cols,key,only⟩ i is).1/\e=(nZ d ⟨nm,cols,key,only⟩ i is).2/\aS z i/\aQc (d.az.map fun x=>eC x.S.name nm) z is):=by
 obtain⟨A,hA⟩:=Ar.ex;have q0:=q;obtain⟨b1,n1,c1,b2,n2,c2,b3,n3,c3,b4,n4,c4,ws,rfl,q1,q2,-,-,qw⟩:=q0.out;refine ah A (ax jKE.aK jKE.bF) Tryz.func45 rfl (by kernel_rfl) ?_;cbv;refine(Nv q).mono (fun v h1 hR=>?_);obtain⟨l1,c,tb,wb,ct,cw,W,rfl,hc,wB,Ai,wF,tZ,hW,aQA,Uw,cs⟩:=hR;cbv;refine(WU (key:=key) (only:=only) (nm:=nm) (qs.mono (l1.t _))).mono (fun v h2 hR=>?_);obtain⟨l2,e0,rfl,lK⟩:=hR;cbv;refine(Nh (cs.mono l2) wF tZ).mono (fun v h3 hR=>?_);obtain⟨rfl,k3,Zx⟩:=hR;have aQi:Le h h3:=(l1.trans l2).dJ (by simpa using hc) k3;cbv;refine(vu Zx nm).mono (fun v h4 hR=>?_);obtain⟨l4,z,t,rfl,hb⟩:=hR;rw[if_pos rfl]at Zx;obtain⟨i,hz,hi,ht⟩:=hb.out;have bad:∀(E:Int) (v:Value) {hh:ad},Le h hh->E≠0->mA d ⟨nm,cols,key,only⟩ t=E->ik hh v d->∃v1 e1 z i is,Value.tuple #[v,.int .i64 E]=.tuple #[v1,.int .i64 e1]/\Le h hh/\ik hh v1 (nZ d ⟨nm,cols,key,only⟩ i is).1/\e1=(nZ d ⟨nm,cols,key,only⟩ i is).2/\aS z i/\aQc (d.az.map fun x=>eC x.S.name nm) z is:=fun E v hh l hE hc hd=>by
  have:nZ d ⟨nm,cols,key,only⟩ i t=(d,E):=by unfold nZ;rw[hc,if_neg hE]
  exact⟨v,E,z,i,t,rfl,l,by rw[this];exact hd,by rw[this],hz,hb⟩
 cases t with
 |true=>
  cbv;refine(Nh (Zx.mono l4) wF tZ).mono (fun v h5 hR=>?_);obtain⟨rfl,k5,Lk⟩:=hR;have xS:Le h h5:=(aQi.trans l4).dJ (by simpa using hc) k5;obtain⟨E,hE⟩:∃E,E=(if e0=0 then 7 else e0):=⟨_,rfl⟩;rw[<-hE]at Lk;have NN:mA d ⟨nm,cols,key,only⟩ true=E:=by unfold mA;rw[hE,<-lK];by_cases h0:e0=0<;>simp[h0]
  cbv;obtain⟨m1,m2,x3,m3,k3,x4,m4,k4,o,g0,go,g2,g3,g4,g5,g6,g7⟩:=Lk.out;generalize ez:A .aI .neq E 0=u;rw[aC A]at ez;rw[ai A];refine aB g0 rfl rfl ?_;cbv;rw[aC A,ez];cases u with
  |true=>cbv;rw[ai A];refine aB g0 rfl rfl ?_;cbv;refine(tL (q.mono xS)).mono (fun v h6 hR=>?_);obtain⟨l6,hd⟩:=hR;have jX:=hd;obtain⟨b1,n1,c1,b2,n2,c2,b3,n3,c3,b4,n4,c4,rfl⟩:=hd.form;cbv;refine aB (l6 _ _ g0) rfl rfl ?_;cbv;refine⟨⟨_,rfl,rfl⟩,?_⟩;cbv;refine aB (l6 _ _ g0) rfl rfl ?_;cbv;refine⟨⟨_,rfl,rfl⟩,?_⟩;cbv;exact bad _ _ (xS.trans l6) (mQB ez) NN jX
  |false=>exact absurd (mQI ez) (by rw[hE];by_cases h0:e0=0<;>simp[h0])
 |false=>
  generalize eg:A .aI .geq (A .nat n1) 8=ug;generalize ew:A .aI .gtr (A .nat n2) 0=uw;have hg:ug=decide (d.az.length>=8):=by rw[<-eg,cf A,hA.nat,q1.len,decide_eq_decide];simp only[mQJ];omega
  have hw:uw=decide (d.aq.length>0):=by
   rw[<-ew,bO A,hA.nat,q2.len,decide_eq_decide];simp only[mQJ];have:ws.length=d.aq.length:=by rw[<-qw,mQz]
   omega
  cbv;rw[eg];cases ug with
  |true=>
   cbv;refine(Nh (Zx.mono l4) wF tZ).mono (fun v h5 hR=>?_);obtain⟨rfl,k5,Lk⟩:=hR;have xS:Le h h5:=(aQi.trans l4).dJ (by simpa using hc) k5;obtain⟨E,hE⟩:∃E,E=(if e0=0 then 4 else e0):=⟨_,rfl⟩;rw[<-hE]at Lk;have NN:mA d ⟨nm,cols,key,only⟩ false=E:=by unfold mA;rw[hE,<-lK,<-hg];by_cases h0:e0=0<;>simp[h0]
   cbv;obtain⟨m1,m2,x3,m3,k3,x4,m4,k4,o,g0,go,g2,g3,g4,g5,g6,g7⟩:=Lk.out;generalize ez:A .aI .neq E 0=u;rw[aC A]at ez;rw[ai A];refine aB g0 rfl rfl ?_;cbv;rw[aC A,ez];cases u with
   |true=>cbv;rw[ai A];refine aB g0 rfl rfl ?_;cbv;refine(tL (q.mono xS)).mono (fun v h6 hR=>?_);obtain⟨l6,hd⟩:=hR;have jX:=hd;obtain⟨b1,n1,c1,b2,n2,c2,b3,n3,c3,b4,n4,c4,rfl⟩:=hd.form;cbv;refine aB (l6 _ _ g0) rfl rfl ?_;cbv;refine⟨⟨_,rfl,rfl⟩,?_⟩;cbv;refine aB (l6 _ _ g0) rfl rfl ?_;cbv;refine⟨⟨_,rfl,rfl⟩,?_⟩;cbv;exact bad _ _ (xS.trans l6) (mQB ez) NN jX
   |false=>exact absurd (mQI ez) (by rw[hE];by_cases h0:e0=0<;>simp[h0])
  |false=>
   cbv;rw[ew];cases uw with
   |true=>
    cbv;refine(Nh (Zx.mono l4) wF tZ).mono (fun v h5 hR=>?_);obtain⟨rfl,k5,Lk⟩:=hR;have xS:Le h h5:=(aQi.trans l4).dJ (by simpa using hc) k5;obtain⟨E,hE⟩:∃E,E=(if e0=0 then 18 else e0):=⟨_,rfl⟩;rw[<-hE]at Lk;have NN:mA d ⟨nm,cols,key,only⟩ false=E:=by unfold mA;rw[hE,<-lK,<-hg,<-hw];by_cases h0:e0=0<;>simp[h0]
    cbv;obtain⟨m1,m2,x3,m3,k3,x4,m4,k4,o,g0,go,g2,g3,g4,g5,g6,g7⟩:=Lk.out;generalize ez:A .aI .neq E 0=u;rw[aC A]at ez;rw[ai A];refine aB g0 rfl rfl ?_;cbv;rw[aC A,ez];cases u with
    |true=>cbv;rw[ai A];refine aB g0 rfl rfl ?_;cbv;refine(tL (q.mono xS)).mono (fun v h6 hR=>?_);obtain⟨l6,hd⟩:=hR;have jX:=hd;obtain⟨b1,n1,c1,b2,n2,c2,b3,n3,c3,b4,n4,c4,rfl⟩:=hd.form;cbv;refine aB (l6 _ _ g0) rfl rfl ?_;cbv;refine⟨⟨_,rfl,rfl⟩,?_⟩;cbv;refine aB (l6 _ _ g0) rfl rfl ?_;cbv;refine⟨⟨_,rfl,rfl⟩,?_⟩;cbv;exact bad _ _ (xS.trans l6) (mQB ez) NN jX
    |false=>exact absurd (mQI ez) (by rw[hE];by_cases h0:e0=0<;>simp[h0])
   |false=>
    have Lk:=Zx.mono l4;have xS:Le h h4:=aQi.trans l4;obtain⟨E,hE⟩:∃E,E=e0:=⟨_,rfl⟩;rw[<-hE]at Lk;have NN:mA d ⟨nm,cols,key,only⟩ false=E:=by unfold mA;rw[hE,<-lK,<-hg,<-hw];by_cases h0:e0=0<;>simp[h0]
    cbv;obtain⟨m1,m2,x3,m3,k3,x4,m4,k4,o,g0,go,g2,g3,g4,g5,g6,g7⟩:=Lk.out;generalize ez:A .aI .neq E 0=u;rw[aC A]at ez;rw[ai A];refine aB g0 rfl rfl ?_;cbv;rw[aC A,ez];cases u with
    |true=>cbv;rw[ai A];refine aB g0 rfl rfl ?_;cbv;refine(tL (q.mono xS)).mono (fun v h6 hR=>?_);obtain⟨l6,hd⟩:=hR;have jX:=hd;obtain⟨b1,n1,c1,b2,n2,c2,b3,n3,c3,b4,n4,c4,rfl⟩:=hd.form;cbv;refine aB (l6 _ _ g0) rfl rfl ?_;cbv;refine⟨⟨_,rfl,rfl⟩,?_⟩;cbv;refine aB (l6 _ _ g0) rfl rfl ?_;cbv;refine⟨⟨_,rfl,rfl⟩,?_⟩;cbv;exact bad _ _ (xS.trans l6) (mQB ez) NN jX
    |false=>
     have lQr:E=0:=by have:=mQI ez;omega
     cbv;rw[ai A];rw[ai A];refine aB g0 rfl rfl ?_;cbv;have sT:ef.R h4 [.string nm,.slice sb sn sc,.int .i64 key,.bool only,.slice none 0 0] ⟨⟨nm,cols,key,only⟩,[]⟩:=⟨_,_,_,_,_,_,rfl,qs.mono (xS.t _),Sl.nil⟩;refine(cJz sT).mono (fun v h6 hR=>?_);obtain⟨l6,d0,d1,d2,d3,d4,rfl,rT⟩:=hR;obtain⟨w1,w2,w3,w4,w5,w6,he,kXR,kXQ⟩:=rT;cases he;have jZQ:=l6 _ _ g0;cbv;refine aB jZQ rfl rfl ?_;cbv;refine⟨⟨_,rfl,rfl⟩,?_⟩;cbv;intro nb h7 gY e7;have l7:Le h6 h7:=by rw[e7];exact Le.set gY
     have gx:=(congrFun e7 nb).trans ae;have sx:Sl 51 ef h7 (.slice (some ⟨nb,0,none⟩) 1 1) [(⟨⟨nm,cols,key,only⟩,[]⟩:cW)]:=by
      refine Sl.fresh (xs:=[(⟨⟨nm,cols,key,only⟩,[]⟩:cW)]) gx ⟨by simp[ef],fun j y hj=>?_⟩ (by simp) (by simp);have Cy:j=0:=by have:=(HH.1 hj).1;simp at this;exact this
      subst Cy;simp at hj;subst hj;exact⟨_,_,_,_,_,_,rfl,kXR.mono (l7.t _),kXQ.mono (l7.t _)⟩
     have eZT:=l7 _ _ jZQ;have em:m1=ct:=by rw[g2,aQA]
     subst em;have ke:i<=m1:=by have:=(Nt (d.az.map fun x=>eC x.S.name nm) 0 (d.az.map fun x=>eC x.S.name nm).length (mQr _)).1;rw[hi,g2];simpa using this
     cbv;refine aB eZT rfl rfl ?_;cbv;refine⟨⟨_,rfl,rfl⟩,?_⟩;cbv;refine(aJK ((g3.sl g2).mono ((l6.trans l7).t _)) sx hz ke (by omega)).mono (fun v h8 hR=>?_);obtain⟨l8,kXx,lXz,m5,rfl,kJC,cXJ,ot⟩:=hR;have jZP:=l8 _ _ eZT;cbv;rw[ai A];rw[ai A];refine ja jZP (by simp) (fun h9 e9=>?_);have lQN:=(congrFun e9 c).trans ae;have k9:Kp [c] h8 h9:=by rw[e9];exact Kp.set (by simp)
     have t9:∀tys,128∉tys->bR tys h8 h9:=fun tys hn=>by rw[e9];exact bR.set jZP hn
     have bKQ:Le h h9:=(((xS.trans l6).trans l7).trans l8).dJ (by simpa using hc) k9;have JB:ik h9 (.agg #[.slice (some ⟨kXx,0,none⟩) m5 lXz,.slice (some ⟨wb,0,none⟩) m2 cw,.slice x3 m3 k3,.slice x4 m4 k4]) (tm d (d.az.take i++[⟨⟨nm,cols,key,only⟩,[]⟩]++d.az.drop i)):=by
      have hJW:=(l6.trans l7).trans l8;refine⟨_,_,_,_,_,_,_,_,_,_,_,_,_,rfl,(ot.sl ?_).mono (t9 _ (by decide)),((g5.sl g4).mono (hJW.t _)).mono (t9 _ (by decide)),(g6.mono (hJW.t _)).mono (t9 _ (by decide)),(g7.mono (hJW.t _)).mono (t9 _ (by decide)),?_⟩
      ·rw[cXJ];simp;omega
      ·rw[hW];simp[tm,Function.comp_def]
     cbv;rw[ai A];refine aB lQN rfl rfl ?_;cbv;refine(tL JB).mono (fun v fL hR=>?_);obtain⟨fU,hd⟩:=hR;have qF:nZ d ⟨nm,cols,key,only⟩ i false=(tm d (d.az.take i++[⟨⟨nm,cols,key,only⟩,[]⟩]++d.az.drop i),0):=by unfold nZ;rw[if_pos (NN.trans lQr)]
     have jX:=hd;generalize tm d (d.az.take i++[⟨⟨nm,cols,key,only⟩,[]⟩]++d.az.drop i)=d' at *;obtain⟨b1,n1,c1,b2,n2,c2,b3,n3,c3,b4,n4,c4,rfl⟩:=hd.form;cbv;exact⟨_,0,z,i,false,rfl,bKQ.trans fU,by rw[qF];exact jX,by rw[qF],hz,hb⟩
end Go.S
