import Derived.Test.YtekoaiendgjkdaaGreatDA
import Derived.Test.YtekoaiendgjkdaaGreatRd
set_option linter.unusedVariables false
set_option linter.unusedSimpArgs false
set_option linter.unusedSectionVars false
set_option maxRecDepth 100000
namespace Go.S
open Go.Sx Go.Proofs
def fW(s:ByteArray)(i:Nat):Int:=((s.data.getD i 0).toNat:Int)
def vA(z:Int):Bool:= !((decide (z<97)||decide (z>122))&&(decide (z<48)||decide (z>57))&&(z !=95))
def tF(s:ByteArray):Bool:= !(decide ((s.size:Int)<1)||decide ((s.size:Int)>12)||decide (fW s 0<97)||decide (fW s 0>122))
def re(s:ByteArray):Bool:=(List.range s.size).all fun i=>vA (fW s i)
def ng(s:ByteArray):Bool:=eZ.any fun w=>decide (w=s)
theorem nf{s:ByteArray}:ng s=true↔s∈eZ:=by
 unfold ng;rw[List.any_eq_true];constructor
 ·rintro⟨w,h1,h2⟩;exact of_decide_eq_true h2 ▸ h1
 ·intro h;exact⟨s,h,by simp⟩
def ao(s:ByteArray):Bool:=tF s&&re s&& !ng s
structure Spl(h:ad)(sp:Nat):Prop where
 out:(h sp=some (.cells #[.int .u32 0,.int .i32 0,.int .u32 0,.map none] 250 (0,0)))\/
  ∃m,h sp=some (.cells #[.int .u32 1,.int .i32 0,.int .u32 0,.map (some m)] 250 (0,0))/\Mp h m .string (sD eZ)/\m≠sp
theorem Qx(w:World):(zeroValue 4).run Tryz.prog w=.ok (.bool false) w:=by
 have h:((Tryz.prog.info? 4).bind (·.zero))=some (.bool false):=by kernel_rfl
 cases h1:Tryz.prog.info? 4 with
 |none=>rw[h1]at h;cases h
 |some i=>rw[h1]at h;simp at h;simp[zeroValue,typeInfo,h1,h]
theorem Bd{h:ad}{s:ByteArray}{k:Value->ad->Prop}{m:Nat}(mp:Mp h m .string (sD eZ))(hk:∀t,t=ng s->k (.bool t) h):
 dq (fun _=>Tryz.prog) (fun _=>Instr.lookup 248 (.map (some m)) (.string s) false) h k:=by
 by_cases hs:s∈eZ
 ·exact uC Sd u9 mp (key:=.string s) (v:=.bool true) True.intro (List.mem_map.2 ⟨s,hs,rfl⟩) (hk true (nf.2 hs).symm)
 ·refine qV Sd u9 Qx mp (key:=.string s) True.intro ?_ (hk false ?_)
  ·intro p hp e;obtain⟨w,hw,rfl⟩:=List.mem_map.1 hp;cases e;exact hs hw
  ·cases hi:ng s with
   |false=>rfl
   |true=>exact absurd (nf.1 hi) hs
set_option maxHeartbeats 2000000 in
theorem JV{h:ad}{sp:Nat}{s:ByteArray}(q:Spl h sp):
 Ct 155 [.pointer (some ⟨sp,0,none⟩),.string s] h (fun v h'=>∃t,v=.bool t/\t=ao s/\Kp [sp] h h'/\Spl h' sp):=by
 obtain⟨A,hA⟩:=Ar.ex;refine ah A (ar T155.aA T155.bm) Tryz.func155 rfl (by kernel_rfl) ?_;have hn:A .iq s=(s.size:Int):=by rw[hA.iq]
 have rE:aS (A .iq s) s.size:=⟨hn⟩;have pE:∀z i,aS z i->A .byte s z=fW s i:=fun z i hz=>by
  rw[hA.byte];simp only[fW];rw[hz.eq];rfl
 generalize e1:A .aG .lss (A .iq s) 1=t1;generalize e2:A .aG .gtr (A .iq s) 12=t2;generalize e3:A .aG .lss (A .byte s 0) 97=t3;generalize e4:A .aG .gtr (A .byte s 0) 122=t4;have uu:t2=false->s.size<=12:=fun e=>by
  rw[e,hA.aG,hn]at e2;have:=of_decide_eq_false e2;omega
 have hf:tF s= !(t1||t2||t3||t4):=by rw[<-e1,<-e2,<-e3,<-e4,pE 0 0 ⟨rfl⟩,hn,hA.aG];rfl
 have h1s:t1=false->(0:Int)<=0/\0<(s.size:Int):=fun e=>by
  rw[e,hA.aG,hn]at e1;have:=of_decide_eq_false e1;omega
 have vC:∀(t:Bool) (b:Bool),t=false->tF s=false->t=ao s:=fun t b ht hq=>by rw[ht,ao,hq];rfl
 have DT:∀(t:Bool),t=true->t=t:=fun _ _=>rfl;cbv;rw[e1];cases t1 with
 |true=>cbv;exact⟨false,rfl,vC _ true rfl hf,Kp.refl _ _,q⟩
 |false=>
  have h1:=h1s rfl;cbv;rw[e2];cases t2 with
  |true=>cbv;exact⟨false,rfl,vC _ true rfl hf,Kp.refl _ _,q⟩
  |false=>
   cbv;refine⟨h1,?_⟩;cbv;rw[e3];cases t3 with
   |true=>cbv;exact⟨false,rfl,vC _ true rfl hf,Kp.refl _ _,q⟩
   |false=>
    cbv;refine⟨h1,?_⟩;cbv;rw[e4];cases t4 with
    |true=>cbv;exact⟨false,rfl,vC _ true rfl hf,Kp.refl _ _,q⟩
    |false=>
     cbv;have ZP:tF s=true:=hf;have uu:=uu rfl;clear hf e1 e2 e3 e4 h1s vC DT;refine aX.go (G:=Int) (fun z=>[(27,.v (.int .i64 z))]) (fun _=>[]) (fun n z h'=>∃i:Nat,aS z i/\n=s.size-i/\i<=s.size/\h'=h/\∀j,j<i->vA (fW s j)=true) s.size 0 ⟨?_,?_,?_⟩ ⟨0,⟨rfl⟩,rfl,by omega,rfl,fun j hj=>(by omega)⟩ ?_
     ·cbv
     ·cbv
     ·cbv
     ·intro n z h' hI;cbv;obtain⟨i,hz,Hh,hi,rfl,aO⟩:=hI;refine aQ (fun hc=>?_) (fun hc=>?_)
      ·rw[hz.gy (A:=A) rE]at hc;have aK:=of_decide_eq_true hc;clear hc;cbv;refine⟨hz.ix aK,?_⟩;cbv;rw[pE z i hz];generalize hw:fW s i=w;generalize e1:A .aG .lss w 97=t1;generalize e2:A .aG .gtr w 122=t2;generalize e3:A .aG .lss w 48=t3;generalize e4:A .aG .gtr w 57=t4;generalize e5:A .aG .neq w 95=t5;have jC:vA w= !((t1||t2)&&(t3||t4)&&t5):=by rw[<-e1,<-e2,<-e3,<-e4,<-e5,hA.aG];rfl
       have bad:vA w=false->ao s=false:=fun e=>by
        have:re s=false:=by unfold re;rw[List.all_eq_false];exact⟨i,by simp[aK],by rw[hw,e];simp⟩
        rw[ao,this];simp
       have kX:vA w=true->∀j,j<i+1->vA (fW s j)=true:=fun e j hj=>by
        rcases Nat.lt_or_ge j i with h|h
        ·exact aO j h
        ·have:j=i:=by omega
         rw[this,hw,e]
       cbv;cases t1 with
       |true=>
        cbv;rw[e3];cases t3 with
        |true=>
         cbv;rw[e5];cases t5 with
         |true=>cbv;exact⟨false,rfl,(bad (by rw[jC];rfl)).symm,Kp.refl _ _,q⟩
         |false=>cbv;exact⟨s.size-(i+1),_,by omega,⟨by cbv,by cbv,by cbv⟩,i+1,hz.succ (A:=A) (by omega),rfl,by omega,rfl,kX (by rw[jC];rfl)⟩
        |false=>
         cbv;rw[e4];cases t4 with
         |true=>
          cbv;rw[e5];cases t5 with
          |true=>cbv;exact⟨false,rfl,(bad (by rw[jC];rfl)).symm,Kp.refl _ _,q⟩
          |false=>cbv;exact⟨s.size-(i+1),_,by omega,⟨by cbv,by cbv,by cbv⟩,i+1,hz.succ (A:=A) (by omega),rfl,by omega,rfl,kX (by rw[jC];rfl)⟩
         |false=>cbv;exact⟨s.size-(i+1),_,by omega,⟨by cbv,by cbv,by cbv⟩,i+1,hz.succ (A:=A) (by omega),rfl,by omega,rfl,kX (by rw[jC];rfl)⟩
       |false=>
        cbv;rw[e2];cases t2 with
        |true=>
         cbv;rw[e3];cases t3 with
         |true=>
          cbv;rw[e5];cases t5 with
          |true=>cbv;exact⟨false,rfl,(bad (by rw[jC];rfl)).symm,Kp.refl _ _,q⟩
          |false=>cbv;exact⟨s.size-(i+1),_,by omega,⟨by cbv,by cbv,by cbv⟩,i+1,hz.succ (A:=A) (by omega),rfl,by omega,rfl,kX (by rw[jC];rfl)⟩
         |false=>
          cbv;rw[e4];cases t4 with
          |true=>
           cbv;rw[e5];cases t5 with
           |true=>cbv;exact⟨false,rfl,(bad (by rw[jC];rfl)).symm,Kp.refl _ _,q⟩
           |false=>cbv;exact⟨s.size-(i+1),_,by omega,⟨by cbv,by cbv,by cbv⟩,i+1,hz.succ (A:=A) (by omega),rfl,by omega,rfl,kX (by rw[jC];rfl)⟩
          |false=>cbv;exact⟨s.size-(i+1),_,by omega,⟨by cbv,by cbv,by cbv⟩,i+1,hz.succ (A:=A) (by omega),rfl,by omega,rfl,kX (by rw[jC];rfl)⟩
        |false=>cbv;exact⟨s.size-(i+1),_,by omega,⟨by cbv,by cbv,by cbv⟩,i+1,hz.succ (A:=A) (by omega),rfl,by omega,rfl,kX (by rw[jC];rfl)⟩
      ·rw[hz.gy (A:=A) rE]at hc;have iR:=of_decide_eq_false hc;cbv;have Li:re s=true:=by unfold re;rw[List.all_eq_true];intro j hj;rw[List.mem_range]at hj;exact aO j (by omega)
       rw[ai A];have fin:∀t,t=ng s->(A .not t)=ao s:=fun t ht=>by
        rw[ao,ZP,Li,ht,hA.not];simp
       rcases q.out with g| ⟨m,g,mp,hm⟩
       ·refine(LH (a1:=⟨sp,0,none⟩) (Q:=fun hq=>Kp [sp] h' hq/\∃m,h' m=none/\hq sp=some (.cells #[.int .u32 0,.int .i32 1,.int .u32 0,.map (some m)] 250 (0,0))/\Mp hq m .string (sD eZ)) (iW g rfl) (iW g rfl) (fun h1 hu=>?_)).mono (fun v h4 hR=>?_)
        ·have e1:=hu.exp g;have g1:=(congrFun e1 sp).trans af;refine(N1 g1).mono (fun v h2 hR=>?_);obtain⟨rfl,k2,m,hm,g2,DA⟩:=hR;have k1:Kp [sp] h' h1:=by rw[e1];exact Kp.set (by simp)
         refine⟨rfl,iW g2 rfl,iW g2 rfl,k1.trans k2,m,?_,g2,DA⟩;have bW:m≠sp:=fun e=>by rw[e,g1]at hm;cases hm
         rw[e1,aP bW]at hm;exact hm
        ·obtain⟨rfl,h2,h3,⟨k2,m,hm,g2,DA⟩,u3,u4⟩:=hR;have e3:=u3.exp g2;have g3:=(congrFun e3 sp).trans af;have e4:=u4.exp g3;have g4:=(congrFun e4 sp).trans af;rw[e3,jr]at e4;have k4:Kp [sp] h2 h4:=by rw[e4];exact Kp.set (by simp)
         have hms:m≠sp:=fun e=>by rw[e,g]at hm;cases hm
         have GN:=DA.kp k4 (by simpa using hms);cbv;rw[ai A];refine av g4 rfl rfl ?_;cbv;refine Bd GN (fun t ht=>?_);cbv;exact⟨_,rfl,fin t ht,k2.trans k4,⟨.inr ⟨m,g4,GN,hms⟩⟩⟩
       ·refine(HF (a1:=⟨sp,0,none⟩) (iW g rfl)).mono (fun v h4 hR=>?_);obtain⟨rfl,rfl⟩:=hR;cbv;rw[ai A];refine av g rfl rfl ?_;cbv;refine Bd mp (fun t ht=>?_);cbv;exact⟨_,rfl,fin t ht,Kp.refl _ _,q⟩
theorem PD{x:bT}{h:ad}{nb:Nat}{name:ByteArray}(g:h nb=some (.cells #[.string name] 9 (0,0))){z1:Int}{t1:Bool}{s1:ByteArray}:
 Ct 173 [.agg #[.string s1,.int .i64 z1,.bool t1],.pointer (some ⟨nb,0,none⟩)] h (fun v h'=>Le h h'/\∃t,v=.bool t/\t=decide (s1=name)):=by
 obtain⟨A,hA⟩:=Ar.ex;refine ah A (ar T173.aA T173.bm) Tryz.func173 rfl (by kernel_rfl) ?_;cbv;refine av g rfl rfl ?_;cbv;exact⟨Le.refl _,_,rfl,bR A _ _⟩
theorem Un{xs:List bT}{h:ad}{b:Option Addr}{len cap:Nat}(q:Sl 165 bt h (.slice b len cap) xs){nb:Nat}{name:ByteArray}(g:h nb=some (.cells #[.string name] 9 (0,0))):
 Ct 172 [.slice b len cap,.func (.func 173) #[] #[.pointer (some ⟨nb,0,none⟩)]] h (fun v h'=>Le h h'/\∃z:Int,v=.int .i64 z/\pG xs (fun x:bT=>decide (x.name=name)) z):=by
 obtain⟨A,hA⟩:=Ar.ex;have hlen:=q.len;obtain⟨ll,jS⟩:=q.bound;generalize hp:(fun x:bT=>decide (x.name=name))=p;refine ah A (ar T172.aA T172.bm) Tryz.func172 rfl (by kernel_rfl) ?_;cbv;refine aX.go (G:=Int) (fun z=>[(8,.v (.int .i64 z))]) (fun _=>[]) (fun n z h'=>∃i:Nat,aS z i/\n=len-i/\i<=len/\Le h h'/\∀j,j<i->∀y,xs[j]? =some y->p y=false) len 0 ⟨?_,?_,?_⟩ ⟨0,⟨rfl⟩,by omega,by omega,Le.refl _,fun j hj=>(by omega)⟩ ?_
 ·cbv
 ·cbv
 ·cbv
 ·intro n z h' hI;cbv;obtain⟨i,hz,hn,hi,hle,aO⟩:=hI;refine aQ (fun hc=>?_) (fun hc=>?_)
  ·have aK:=hz.lt hc;clear hc;cbv;obtain⟨x,hx⟩:=aI (xs:=xs) (i:=i) (by omega);refine⟨⟨q.bu (by omega),hz.ix aK⟩,?_⟩;cbv;refine(q.mono (hle.t _)).load hx hz.eq (fun cs aC=>?_);have aC:cs=[.string x.name,.int .i64 x.kind,.bool x.null]:=aC;subst aC;cbv;refine(PD (x:=x) (hle _ _ g)).mono (fun v h2 hR=>?_);obtain⟨cP,t,rfl,ht⟩:=hR;have ht:t=p x:=by rw[<-hp];exact ht
   cbv;cases t with
   |true=>cbv;exact⟨hle.trans cP,z,rfl,⟨.inr ⟨i,x,hz,hx,ht.symm,aO⟩⟩⟩
   |false=>
    cbv;refine⟨len-(i+1),_,by omega,⟨?_,?_,?_⟩,i+1,hz.succ (A:=A) (by omega),rfl,by omega,hle.trans cP,?_⟩
    ·cbv
    ·cbv
    ·cbv
    ·intro j hj y hy;rcases Nat.lt_or_ge j i with h|h
     ·exact aO j h y hy
     ·have:j=i:=by omega
      subst this;rw[hx]at hy;cases hy;exact ht.symm
  ·have iR:=hz.ge hc;cbv;refine⟨hle,-1,rfl,⟨.inl ⟨rfl,fun x hx=>?_⟩⟩⟩;obtain⟨j,hj⟩:=List.getElem?_of_mem hx;have:=(List.getElem?_eq_some_iff.1 hj).1;exact aO j (by omega) x hj
theorem Lu{cols:List bT}{h:ad}{b:Option Addr}{n c:Nat}(q:Sl 165 bt h (.slice b n c) cols){nm s:ByteArray}{k:Int}{only:Bool}:
 Ct 91 [.agg #[.string nm,.slice b n c,.int .i64 k,.bool only],.string s] h (fun v h'=>Le h h'/\∃z t z',v=.tuple #[.int .i64 z,.bool t]/\pG cols (fun x=>decide (x.name=s)) z'/\z=max z' 0/\t=decide (z'>=0)):=by
 obtain⟨A,hA⟩:=Ar.ex;refine ah A (ar T91.aA T91.bm) Tryz.func91 rfl (by kernel_rfl) ?_;cbv;intro nb h1 fk e1;have l1:Le h h1:=by rw[e1];exact Le.set fk
 have g1:=(congrFun e1 nb).trans af;cbv;refine(Un (q.mono (l1.t _)) g1).mono (fun v h2 hR=>?_);obtain⟨l2,z,rfl,hz⟩:=hR;cbv;exact⟨l1.trans l2,_,_,z,rfl,hz,by rw[hA.imax],bS A _ _⟩
theorem Kp.YN{n e:Nat}{c:Array Value}{fr:Nat×Nat}{tys:List Nat}{h h':ad}(x:Kp [n] h h')(g:h n=some (.cells c e fr))(he:e∉tys):cF tys h h':=fun b d e' Iz hm hb=>by
 by_cases BY:b=n
 ·rw[BY,g]at hb;cases hb;exact absurd hm he
 ·exact x b _ hb (by simpa using BY)
def dQ(cols:List bT)(i:Nat)(c:bT):Int:=
 if(!ao c.name||(cols.take i).any fun x=>decide (x.name=c.name))=true then 12 else if(decide (c.kind<1)||decide (c.kind>3))=true then 3 else 0
def gV(cols:List bT):Int:=((cols.zipIdx.map fun(c,i)=>dQ cols i c).find? (fun z=>z !=0)).getD 0
def gJ(s:AU):Int:=
 if(!ao s.name)=true then 12
 else if(decide ((s.cols.length:Int)<1)||decide ((s.cols.length:Int)>6))=true then 4
 else if gV s.cols≠0 then gV s.cols
 else if(decide (s.key<0)||decide (s.key>=(s.cols.length:Int)))=true then 1
 else if((s.cols[s.key.toNat]?).map (·.null)).getD false=true then 13 else 0
theorem wI{cols:List bT}{i:Nat}{c:bT}(hc:cols[i]? =some c)(aO:∀j,j<i->∀y,cols[j]? =some y->dQ cols j y=0)(bW:dQ cols i c≠0):gV cols=dQ cols i c:=by
 unfold gV;have:(cols.zipIdx.map fun(c,i)=>dQ cols i c).find? (fun z=>z !=0)=some (dQ cols i c):=by
  rw[List.find?_eq_some_iff_getElem];have aK:=(List.getElem?_eq_some_iff.1 hc).1;refine⟨by simpa using bW,i,by simpa using aK,?_,fun j hj=>?_⟩
  ·have:=(List.getElem?_eq_some_iff.1 hc).2;simp[this]
  ·have sw:j<cols.length:=by omega
   have:=aO j hj cols[j] (by simp[sw]);simp[this]
 rw[this];rfl
theorem rZ{cols:List bT}(aO:∀j,j<cols.length->∀y,cols[j]? =some y->dQ cols j y=0):gV cols=0:=by
 unfold gV;have:(cols.zipIdx.map fun(c,i)=>dQ cols i c).find? (fun z=>z !=0)=none:=by rw[List.find?_eq_none];intro x hx;obtain⟨⟨c,i⟩,hm,rfl⟩:=List.mem_map.1 hx;have:=List.mem_zipIdx_iff_getElem?.1 hm;have aK:=(List.getElem?_eq_some_iff.1 this).1;simp[aO i aK c this]
 rw[this];rfl
theorem KB{cols:List bT}{i:Nat}{c:bT}(hc:cols[i]? =some c){z':Int}(hr:pG cols (fun x=>decide (x.name=c.name)) z'):
 decide (max z' 0<(i:Int))=(cols.take i).any fun x=>decide (x.name=c.name):=by
 rcases hr.out with ⟨-,h⟩ | ⟨k,x,hk,hx,hp,aO⟩
 ·have:=h c (List.mem_of_getElem? hc);simp at this
 ·have hz:=hk.eq;by_cases aK:k<i
  ·rw[decide_eq_true (by omega),eq_comm,List.any_eq_true];exact⟨x,List.mem_of_getElem? (i:=k) (by rw[List.getElem?_take,if_pos aK];exact hx),hp⟩
  ·have hki:¬i<k:=fun h=>by have:=aO i h c hc;simp at this
   rw[decide_eq_false (by omega),eq_comm,List.any_eq_false];intro y hy;obtain⟨j,hj⟩:=List.getElem?_of_mem hy;rw[List.getElem?_take]at hj;split at hj
   ·rename_i jQ;have:=aO j (by omega) y hj;simpa using this
   ·cases hj
set_option maxHeartbeats 2000000 in
theorem FM{nm:ByteArray}{cols:List bT}{key:Int}{only:Bool}{h:ad}{b:Option Addr}{n c:Nat}(q:Sl 165 bt h (.slice b n c) cols):
 Ct 77 [.agg #[.string nm,.slice b n c,.int .i64 key,.bool only]] h (fun v h'=>Le h h'/\∃z,v=.int .i64 z/\z=gJ ⟨nm,cols,key,only⟩):=by
 obtain⟨A,hA⟩:=Ar.ex;have hlen:=q.len;obtain⟨ll,jS⟩:=q.bound;have hn:A .nat n=(cols.length:Int):=by rw[hA.nat,hlen];rfl
 have rE:aS (A .nat n) n:=⟨by rw[hA.nat];rfl⟩;generalize e1:A .aG .lss (A .nat n) 1=t1;generalize e2:A .aG .gtr (A .nat n) 6=t2;have f12:(decide ((cols.length:Int)<1)||decide ((cols.length:Int)>6))=(t1||t2):=by rw[<-e1,<-e2,hn,bE A,bJ A]
 refine ah A (ar T77.aA T77.bm) Tryz.func77 rfl (by kernel_rfl) ?_;cbv;intro sp h1 MR e0;have l1:Le h h1:=by rw[e0];exact Le.set MR
 have XE:=(congrFun e0 sp).trans af;have s1:Spl h1 sp:=⟨.inl XE⟩;have q1:=q.mono (l1.t _);clear e0;cbv;refine(JV s1).mono (fun v h2 hR=>?_);obtain⟨t,rfl,ht,k2,s2⟩:=hR;cbv;rw[hA.not];cases t with
 |false=>cbv;refine⟨l1.df (by simpa using MR) k2,12,rfl,?_⟩;unfold gJ;rw[<-ht];rfl
 |true=>
  cbv;rw[e1];have many:(t1||t2)=true->(4:Int)=gJ ⟨nm,cols,key,only⟩:=fun hm=>by
   unfold gJ;rw[<-ht,f12,hm];rfl
  cases t1 with
  |true=>cbv;exact⟨l1.df (by simpa using MR) k2,4,rfl,many rfl⟩
  |false=>
   cbv;rw[e2];cases t2 with
   |true=>cbv;exact⟨l1.df (by simpa using MR) k2,4,rfl,many rfl⟩
   |false=>
    clear many e1 e2;cbv;refine aX.go (G:=Int) (fun z=>[(25,.v (.int .i64 z))]) (fun _=>[(1,[.string nm,.slice b n c,.int .i64 key,.bool only])])
     (fun k z h'=>∃i:Nat,aS z i/\k=n-i/\i<=n/\Kp [sp] h1 h'/\Spl h' sp/\∀j,j<i->∀y,cols[j]? =some y->dQ cols j y=0) n 0 ⟨?_,?_,?_⟩ ⟨0,⟨rfl⟩,by omega,by omega,k2,s2,fun j hj=>(by omega)⟩ ?_
    ·cbv
    ·cbv
    ·cbv
    ·intro k z h' hI;cbv;obtain⟨i,hz,hk,hi,kp,sp',aO⟩:=hI;refine aQ (fun hc=>?_) (fun hc=>?_)
     ·have aK:=hz.lt hc;clear hc;cbv;obtain⟨x,hx⟩:=aI (xs:=cols) (i:=i) (by omega);have q':=q1.mono (Kp.YN kp XE (by decide));refine⟨⟨q.bu (by omega),hz.ix aK⟩,?_⟩;cbv;refine q'.load hx hz.eq (fun cs aC=>?_);have aC:cs=[.string x.name,.int .i64 x.kind,.bool x.null]:=aC;subst aC;generalize KF:x.name=xn at *;generalize Fh:x.kind=xk at *;cbv;refine(Lu q').mono (fun v h3 hR=>?_);obtain⟨l3,z3,t3,z',rfl,hr,Fg,ht3⟩:=hR;have s3:Spl h3 sp:=by
       rcases sp'.out with g| ⟨m,g,mp,hm⟩
       ·exact⟨.inl (l3 _ _ g)⟩
       ·exact⟨.inr ⟨m,l3 _ _ g,mp.kp (l3.kp []) (by simp),hm⟩⟩
      have kh:A .aG .lss z3 z=(cols.take i).any fun y=>decide (y.name=xn):=by rw[bE A,Fg,hz.eq,<-KF];exact KB hx (by rw[KF];exact hr)
      cbv;refine(JV s3).mono (fun v h4 hR=>?_);obtain⟨t,rfl,ht4,k4,s4⟩:=hR;have TD:=(kp.trans (l3.kp _)).trans k4;have Om:Le h h4:=l1.df (by simpa using MR) TD;have bad:∀e:Int,dQ cols i x=e->e≠0->e=gJ ⟨nm,cols,key,only⟩:=fun e he bW=>by
       have h5:=wI hx aO (by rw[he];exact bW);unfold gJ;rw[<-ht,f12];simp only[h5,he];rw[if_neg (by simp),if_neg (by simp),if_pos bW]
      have kX:dQ cols i x=0->∀j,j<i+1->∀y,cols[j]? =some y->dQ cols j y=0:=fun e j hj y hy=>by
       rcases Nat.lt_or_ge j i with jQ|jQ
       ·exact aO j jQ y hy
       ·have:j=i:=by omega
        subst this;rw[hx]at hy;cases hy;exact e
      generalize e1:A .aG .lss z3 z=u1 at *;generalize e2:A .aG .lss xk 1=u2;generalize e3:A .aG .gtr xk 3=u3;have Vs:dQ cols i x=if(!t||u1)=true then 12 else if(u2||u3)=true then 3 else 0:=by unfold dQ;rw[KF,Fh,<-ht4,<-kh,<-e2,<-e3,bE A,bJ A]
      cbv;rw[hA.not];cases t with
      |false=>cbv;exact⟨Om,12,rfl,bad 12 Vs (by decide)⟩
      |true=>
       cbv;try rw[e1]
       cases u1 with
       |true=>cbv;exact⟨Om,12,rfl,bad 12 Vs (by decide)⟩
       |false=>
        cbv;rw[e2];cases u2 with
        |true=>cbv;exact⟨Om,3,rfl,bad 3 Vs (by decide)⟩
        |false=>
         cbv;rw[e3];cases u3 with
         |true=>cbv;exact⟨Om,3,rfl,bad 3 Vs (by decide)⟩
         |false=>
          cbv;refine⟨n-(i+1),_,by omega,⟨?_,?_,?_⟩,i+1,hz.succ (A:=A) (by omega),rfl,by omega,TD,s4,kX Vs⟩
          ·cbv
          ·cbv
          ·cbv
     ·have iR:=hz.ge hc;have h0:gV cols=0:=rZ fun j hj y hy=>aO j (by omega) y hy;have Om:Le h h':=l1.df (by simpa using MR) kp;have q':=q1.mono (Kp.YN kp XE (by decide));generalize e1:A .aG .lss key 0=u1;generalize e2:A .aG .geq key (A .nat n)=u2;have hs:gJ ⟨nm,cols,key,only⟩=if(u1||u2)=true then 1 else if((cols[key.toNat]?).map (·.null)).getD false=true then 13 else 0:=by unfold gJ;rw[<-ht,f12];simp only[h0];rw[if_neg (by simp),if_neg (by simp),if_neg (by simp),<-e1,<-e2,bE A,bS A,hn]
      cbv;rw[e1];cases u1 with
      |true=>cbv;exact⟨Om,1,rfl,hs.symm⟩
      |false=>
       cbv;rw[e2];cases u2 with
       |true=>cbv;exact⟨Om,1,rfl,hs.symm⟩
       |false=>
        obtain⟨nO,nh⟩:=DH A e1 e2;obtain⟨x,hx⟩:=aI (xs:=cols) (i:=key.toNat) (by omega);rw[hx]at hs;cbv;refine⟨⟨q.bu (by omega),nO.ix nh⟩,?_⟩;cbv;refine q'.eE hx nO.eq (by decide) (fun cs aC=>?_);have aC:cs=[.string x.name,.int .i64 x.kind,.bool x.null]:=aC;subst aC;have hs:gJ ⟨nm,cols,key,only⟩=if x.null=true then 13 else 0:=hs
        generalize x.null=nl at *;cases nl with
        |true=>cbv;exact⟨Om,13,rfl,hs.symm⟩
        |false=>cbv;exact⟨Om,0,rfl,hs.symm⟩
theorem LV(a b:Int)(h:ad)(c1 c2:Value):Ct 112 [.agg #[.int .i64 a,c1,c2],.int .i64 b] h (fun v h'=>Le h h'/\∃z,v=.int .i64 z/\z=IntKind.i64.wrap (a-b)):=by obtain⟨A,hA⟩:=Ar.ex;refine ah A (ar T112.aA T112.bm) Tryz.func112 rfl (by kernel_rfl) ?_;cbv;exact⟨Le.refl _,_,rfl,by rw[hA.bA];rfl⟩
theorem bs109{xs:List (dO×Bool)}{h:ad}{b:Option Addr}{len cap:Nat}(q:Sl 55 cf h (.slice b len cap) xs)(lp:Int):
 Ct 111 [.slice b len cap,.int .i64 lp,.func (.func 112) #[] #[]] h (fun v h'=>Le h h'/\∃(z:Int) (t:Bool),v=.tuple #[.int .i64 z,.bool t]/\H5 (xs.map (fun x:dO×Bool=>IntKind.i64.wrap (x.1.s-lp))) z t):=by
 obtain⟨A,hA⟩:=Ar.ex;have hlen:=q.len;obtain⟨ll,jS⟩:=q.bound;have uq:(xs.map (fun x:dO×Bool=>IntKind.i64.wrap (x.1.s-lp))).length=len:=by simp[hlen]
 generalize hl:xs.map (fun x:dO×Bool=>IntKind.i64.wrap (x.1.s-lp))=l at uq;have mD:∀(i:Nat) x,xs[i]? =some x->l[i]? =some ((fun x:dO×Bool=>IntKind.i64.wrap (x.1.s-lp)) x):=fun i x hx=>by rw[<-hl];simp[hx]
 refine ah A (ar T111.aA T111.bm) Tryz.func111 rfl (by kernel_rfl) ?_;cbv;refine aX.go (G:=Int×Int) (fun g=>[(9,.v (.int .i64 g.1)),(10,.v (.int .i64 g.2))]) (fun _=>[])
  (fun n g h'=>∃i j:Nat,aS g.1 i/\aS g.2 j/\n=j-i/\i<=j/\j<=len/\Le h h'/\lX l 0 len=lX l i j) len (0,A .nat len) ⟨?_,?_,?_⟩ ⟨0,len,⟨rfl⟩,⟨by rw[hA.nat];rfl⟩,by omega,by omega,by omega,Le.refl _,rfl⟩ ?_
 ·cbv
 ·cbv
 ·cbv
 ·intro n g h' hI;cbv;obtain⟨i,j,hi,hj,hn,Rk,sw,hle,Rv⟩:=hI;refine aQ (fun hc=>?_) (fun hc=>?_)
  ·rw[hi.gy (A:=A) hj,decide_eq_true_eq]at hc;cbv;refine⟨by decide,?_⟩;cbv;have hm:=hi.mid (A:=A) hj (by omega) (by omega);obtain⟨x,hx⟩:=aI (xs:=xs) (i:=(i+j) / 2) (by omega);refine⟨⟨q.bu (by omega),hm.ix (by omega)⟩,?_⟩;cbv;refine(q.mono (hle.t _)).load hx hm.eq (fun cs aC=>?_);obtain⟨b1,n1,k1,b2,n2,k2,rfl,q1,q2,-⟩:=aC;cbv;refine(LV x.1.s lp _ _ _).mono (fun v h2 hR=>?_);obtain⟨cP,z,rfl,hz⟩:=hR;cbv;have hg:l.getD ((i+j) / 2) 0=z:=by rw[List.getD_eq_getElem?_getD,mD _ _ hx,hz];rfl
   have iS:=Rv;rw[lX.eq_1 l i j,if_pos hc,hg]at iS;refine aQ (fun je=>?_) (fun je=>?_)
   ·rw[hA.aG]at je;have BX:z<0:=of_decide_eq_true je;rw[if_pos BX]at iS;clear je BX;cbv;refine⟨j-((i+j) / 2+1),(_,g.2),by omega,⟨?_,?_,?_⟩,(i+j) / 2+1,j,hm.succ (A:=A) (by omega),hj,rfl,by omega,sw,hle.trans cP,iS⟩
    ·cbv
    ·cbv
    ·cbv
   ·rw[hA.aG]at je;have BX:¬z<0:=of_decide_eq_false je;rw[if_neg BX]at iS;clear je BX;cbv;refine⟨(i+j) / 2-i,(g.1,A .conv .i64 (A .bA .shr .u64 (A .conv .u64 (A .bA .add .i64 g.1 g.2)) 1)),by omega,⟨?_,?_,?_⟩,i,(i+j) / 2,hi,hm,rfl,by omega,by omega,hle.trans cP,iS⟩
    ·cbv
    ·cbv
    ·cbv
  ·rw[hi.gy (A:=A) hj,decide_eq_false_iff_not]at hc;cbv;have iS:=Rv;rw[lX.eq_1 l i j,if_neg hc]at iS;have gQ:=hi.gy (A:=A) (w:=A .nat len) (j:=len) ⟨by rw[hA.nat];rfl⟩;refine aQ (fun je=>?_) (fun je=>?_)
   ·rw[je];rw[gQ,decide_eq_true_eq]at je;cbv;obtain⟨x,hx⟩:=aI (xs:=xs) (i:=i) (by omega);refine⟨⟨q.bu (by omega),hi.ix (by omega)⟩,?_⟩;cbv;refine(q.mono (hle.t _)).load hx hi.eq (fun cs aC=>?_);obtain⟨b1,n1,k1,b2,n2,k2,rfl,q1,q2,-⟩:=aC;cbv;refine(LV x.1.s lp _ _ _).mono (fun v h2 hR=>?_);obtain⟨cP,z,rfl,hz⟩:=hR;cbv;refine⟨hle.trans cP,_,_,rfl,⟨i,hi,?_,?_⟩⟩
    ·rw[uq];exact iS.symm
    ·rw[hA.aG];have hg:l.getD i 0=z:=by rw[List.getD_eq_getElem?_getD,mD _ _ hx,hz];rfl
     rw[hg,uq];simp[aG,je];rfl
   ·rw[je];rw[gQ,decide_eq_false_iff_not]at je;cbv;refine⟨hle,_,_,rfl,⟨i,hi,?_,?_⟩⟩
    ·rw[uq];exact iS.symm
    ·rw[uq];simp[je]
theorem CV{h:ad}{c tb wb ct cw:Nat}{T:List cE}{W:List (dO×Bool)}{H Wt:List bZ}{e:Int}(q:jh h c tb wb ct cw T W H Wt e)(lp:Int):
 Ct 49 [.pointer (some ⟨c,0,none⟩),.int .i64 lp] h (fun v h'=>Le h h'/\∃z t,v=.tuple #[.int .i64 z,.bool t]/\H5 (W.map (fun x=>IntKind.i64.wrap (x.1.s-lp))) z t):=by
 obtain⟨A,hA⟩:=Ar.ex;obtain⟨n1,n2,b3,n3,c3,b4,n4,c4,o,g0,g1,g2,g3,g4,g5,g6,g7⟩:=q.out;refine ah A (ar T49.aA T49.bm) Tryz.func49 rfl (by kernel_rfl) ?_;cbv;rw[ai A];rw[ai A];refine av g0 rfl rfl ?_;cbv;refine(bs109 (g5.sl g4) lp).mono (fun v h2 hR=>?_);obtain⟨l2,z,t,rfl,hz⟩:=hR;cbv;exact⟨l2,z,t,rfl,hz⟩
theorem zo{h:ad}{c tb wb ct cw:Nat}{T:List cE}{W:List (dO×Bool)}{H Wt:List bZ}{e:Int}(q:jh h c tb wb ct cw T W H Wt e)(name:ByteArray):
 Ct 105 [.pointer (some ⟨c,0,none⟩),.string name] h (fun v h'=>Le h h'/\∃z t,v=.tuple #[.int .i64 z,.bool t]/\H5 (T.map (fun x=>eX x.S.name name)) z t):=by
 obtain⟨A,hA⟩:=Ar.ex;obtain⟨n1,n2,b3,n3,c3,b4,n4,c4,o,g0,g1,g2,g3,g4,g5,g6,g7⟩:=q.out;refine ah A (ar T105.aA T105.bm) Tryz.func105 rfl (by kernel_rfl) ?_;cbv;rw[ai A];rw[ai A];refine av g0 rfl rfl ?_;cbv;refine(bs98 (g3.sl g2) name).mono (fun v h2 hR=>?_);obtain⟨l2,z,t,rfl,hz⟩:=hR;cbv;exact⟨l2,z,t,rfl,hz⟩
theorem Ks{xs:List cE}{x:cE}{h:ad}{b vb:Option Addr}{n cv:Nat}(q:Sl 51 cY h (.slice b n n) xs)(qv:Sl 51 cY h (.slice vb 1 cv) [x]){z:Int}{i:Nat}(hz:aS z i)(hi:i<=n)(hn:n<=2^38):
 Ct 106 [.slice b n n,.int .i64 z,.slice vb 1 cv] h (fun v h'=>Le h h'/\∃nb c m,v=.slice (some ⟨nb,0,none⟩) m c/\h nb=none/\m=n+1/\dI 51 cY h' nb c (xs.take i++[x]++xs.drop i)):=by
 obtain⟨A,hA⟩:=Ar.ex;have hlen:=q.len;have rE:aS (A .nat n) n:=⟨by rw[hA.nat];rfl⟩;have Iu:aS (A .nat 1) 1:=⟨by rw[hA.nat];rfl⟩;have e1:A .aG .eql (A .nat 1) 0=false:=by rw[aw A,hA.nat];rfl
 have e2:A .aG .eql z (A .nat n)=decide (i=n):=by rw[aw A,hA.nat];have:=hz.eq;rw[decide_eq_decide];simp only[Int.ofNat_eq_natCast];omega
 have e3:A .aG .gtr (A .bA .add .i64 (A .nat n) (A .nat 1)) (A .nat n)=true:=by rw[bJ A,decide_eq_true_eq,hA.bA,hA.nat];simp only[bA,Int.ofNat_eq_natCast];rw[IntWalk.i64_in _ (by omega)];omega
 have hw:=(rE.add (A:=A) Iu (by omega)).sub (A:=A) hz (by omega) (by omega);have cU:=oU hw (bytes:=80) (by omega) (by decide);have oK:0<=z/\z<=(n:Int):=by have:=hz.eq;omega
 refine ah A (ar T106.aA T106.bm) Tryz.func106 rfl (by kernel_rfl) ?_;cbv;refine⟨oK,?_⟩;cbv;rw[e1];cbv;rw[e2];by_cases eW:i=n
 ·rw[decide_eq_true eW];cbv;refine lM q qv (by omega) rfl (by decide) (by omega) (fun nb c h1 fk l1 hc ho=>?_);cbv;refine⟨l1,nb,c,_,rfl,fk,rfl,?_⟩;rw[eW,hlen,List.take_length,List.drop_length,List.append_nil];exact ho
 ·rw[decide_eq_false eW];cbv;rw[e3];cbv;refine⟨oK,?_⟩;cbv;refine⟨cU,?_⟩;cbv;rw[dM (A:=A) hz];rw[dM (A:=A) hw];refine jO (q.EL (A:=A) hi) (by omega) rfl (by decide) (by omega) rfl rfl (fun nb c h1 fk l1 hc ho=>?_);obtain⟨m,hm⟩:∃m,m=n+1:=⟨_,rfl⟩;rw[show i+(n+1-i)=m by omega];have hmN:aS (A .nat m) m:=⟨by rw[hA.nat];rfl⟩;have hcN:aS (A .nat c) c:=⟨by rw[hA.nat];rfl⟩;have Y2:0<=z/\z<=(m:Int):=by have:=hz.eq;omega
  have mJ:=hz.add (A:=A) Iu (by omega);have Us:0<=A .bA .add .i64 z (A .nat 1)/\A .bA .add .i64 z (A .nat 1)<=(m:Int):=by have:=mJ.eq;omega
  have aK:(xs.take i).length=i:=by rw[List.length_take];omega
  cbv;refine⟨Y2,?_⟩;cbv;rw[rU (A:=A) hz (by omega),eO (A:=A) hz];have qv1:=qv.mono (l1.t _);refine rX ho (by decide) (i:=i) (by omega) qv1 (by omega) (by omega) (by omega) rfl (fun h2 k2 t2 o2=>?_);rw[List.take_take,Nat.min_self,List.drop_eq_nil_of_le (by omega),List.append_nil]at o2;have l2:Le h h2:=l1.df (by simpa using fk) k2;have q2:=q.mono (l2.t _);generalize ((min 1 (m-i):Nat):Int)=w1;cbv;refine⟨Us,?_⟩;cbv;refine⟨oK,?_⟩;cbv;rw[rU (A:=A) mJ (by omega),eO (A:=A) mJ,eO (A:=A) hz,eO (A:=A) hz];refine rX o2 (by decide) (i:=i+1) (by simp;omega) (q2.tW (A:=A) hz hi rfl rfl) (by omega) (by omega) (by omega) rfl (fun h3 k3 t3 o3=>?_);generalize ((min (n-i) (m-(i+1)):Nat):Int)=w2;cbv;refine⟨l2.df (by simpa using fk) k3,nb,c,m,rfl,fk,hm,?_⟩;have e5:(List.take i xs++[x]).length=i+1:=by simp;omega
  have e6:List.take (i+1) (List.take i xs++[x])=List.take i xs++[x]:=List.take_of_length_le (by omega);have e7:List.drop (i+1+(n-i)) (List.take i xs++[x])=[]:=List.drop_eq_nil_of_le (by omega);rw[e6,e7,List.append_nil]at o3;exact o3
theorem Kr{xs:List (dO×Bool)}{x:dO×Bool}{h:ad}{b vb:Option Addr}{n cv:Nat}(q:Sl 55 cf h (.slice b n n) xs)(qv:Sl 55 cf h (.slice vb 1 cv) [x]){z:Int}{i:Nat}(hz:aS z i)(hi:i<=n)(hn:n<=2^38):
 Ct 51 [.slice b n n,.int .i64 z,.slice vb 1 cv] h (fun v h'=>Le h h'/\∃nb c m,v=.slice (some ⟨nb,0,none⟩) m c/\h nb=none/\m=n+1/\dI 55 cf h' nb c (xs.take i++[x]++xs.drop i)):=by
 obtain⟨A,hA⟩:=Ar.ex;have hlen:=q.len;have rE:aS (A .nat n) n:=⟨by rw[hA.nat];rfl⟩;have Iu:aS (A .nat 1) 1:=⟨by rw[hA.nat];rfl⟩;have e1:A .aG .eql (A .nat 1) 0=false:=by rw[aw A,hA.nat];rfl
 have e2:A .aG .eql z (A .nat n)=decide (i=n):=by rw[aw A,hA.nat];have:=hz.eq;rw[decide_eq_decide];simp only[Int.ofNat_eq_natCast];omega
 have e3:A .aG .gtr (A .bA .add .i64 (A .nat n) (A .nat 1)) (A .nat n)=true:=by rw[bJ A,decide_eq_true_eq,hA.bA,hA.nat];simp only[bA,Int.ofNat_eq_natCast];rw[IntWalk.i64_in _ (by omega)];omega
 have hw:=(rE.add (A:=A) Iu (by omega)).sub (A:=A) hz (by omega) (by omega);have cU:=oU hw (bytes:=56) (by omega) (by decide);have oK:0<=z/\z<=(n:Int):=by have:=hz.eq;omega
 refine ah A (ar T51.aA T51.bm) Tryz.func51 rfl (by kernel_rfl) ?_;cbv;refine⟨oK,?_⟩;cbv;rw[e1];cbv;rw[e2];by_cases eW:i=n
 ·rw[decide_eq_true eW];cbv;refine lM q qv (by omega) rfl (by decide) (by omega) (fun nb c h1 fk l1 hc ho=>?_);cbv;refine⟨l1,nb,c,_,rfl,fk,rfl,?_⟩;rw[eW,hlen,List.take_length,List.drop_length,List.append_nil];exact ho
 ·rw[decide_eq_false eW];cbv;rw[e3];cbv;refine⟨oK,?_⟩;cbv;refine⟨cU,?_⟩;cbv;rw[dM (A:=A) hz];rw[dM (A:=A) hw];refine jO (q.EL (A:=A) hi) (by omega) rfl (by decide) (by omega) rfl rfl (fun nb c h1 fk l1 hc ho=>?_);obtain⟨m,hm⟩:∃m,m=n+1:=⟨_,rfl⟩;rw[show i+(n+1-i)=m by omega];have hmN:aS (A .nat m) m:=⟨by rw[hA.nat];rfl⟩;have hcN:aS (A .nat c) c:=⟨by rw[hA.nat];rfl⟩;have Y2:0<=z/\z<=(m:Int):=by have:=hz.eq;omega
  have mJ:=hz.add (A:=A) Iu (by omega);have Us:0<=A .bA .add .i64 z (A .nat 1)/\A .bA .add .i64 z (A .nat 1)<=(m:Int):=by have:=mJ.eq;omega
  have aK:(xs.take i).length=i:=by rw[List.length_take];omega
  cbv;refine⟨Y2,?_⟩;cbv;rw[rU (A:=A) hz (by omega),eO (A:=A) hz];have qv1:=qv.mono (l1.t _);refine rX ho (by decide) (i:=i) (by omega) qv1 (by omega) (by omega) (by omega) rfl (fun h2 k2 t2 o2=>?_);rw[List.take_take,Nat.min_self,List.drop_eq_nil_of_le (by omega),List.append_nil]at o2;have l2:Le h h2:=l1.df (by simpa using fk) k2;have q2:=q.mono (l2.t _);generalize ((min 1 (m-i):Nat):Int)=w1;cbv;refine⟨Us,?_⟩;cbv;refine⟨oK,?_⟩;cbv;rw[rU (A:=A) mJ (by omega),eO (A:=A) mJ,eO (A:=A) hz,eO (A:=A) hz];refine rX o2 (by decide) (i:=i+1) (by simp;omega) (q2.tW (A:=A) hz hi rfl rfl) (by omega) (by omega) (by omega) rfl (fun h3 k3 t3 o3=>?_);generalize ((min (n-i) (m-(i+1)):Nat):Int)=w2;cbv;refine⟨l2.df (by simpa using fk) k3,nb,c,m,rfl,fk,hm,?_⟩;have e5:(List.take i xs++[x]).length=i+1:=by simp;omega
  have e6:List.take (i+1) (List.take i xs++[x])=List.take i xs++[x]:=List.take_of_length_le (by omega);have e7:List.drop (i+1+(n-i)) (List.take i xs++[x])=[]:=List.drop_eq_nil_of_le (by omega);rw[e6,e7,List.append_nil]at o3;exact o3
theorem gj.form{h:ad}{v:Value}{d:DB}(q:gj h v d):∃b1 n1 c1 b2 n2 c2 b3 n3 c3 b4 n4 c4,v=.agg #[.slice b1 n1 c1,.slice b2 n2 c2,.slice b3 n3 c3,.slice b4 n4 c4]:=by obtain⟨b1,n1,c1,b2,n2,c2,b3,n3,c3,b4,n4,c4,ws,rfl,-⟩:=q.out;exact⟨_,_,_,_,_,_,_,_,_,_,_,_,rfl⟩
theorem gj.mono{h h':ad}{v:Value}{d:DB}(q:gj h v d)(l:Le h h'):gj h' v d:=by obtain⟨b1,n1,c1,b2,n2,c2,b3,n3,c3,b4,n4,c4,ws,rfl,q1,q2,q3,q4,q5⟩:=q.out;exact⟨_,_,_,_,_,_,_,_,_,_,_,_,ws,rfl,q1.mono (l.t _),q2.mono (l.t _),q3.mono (l.t _),q4.mono (l.t _),q5⟩
theorem lS{d:DB}{h:ad}{v:Value}(q:gj h v d):Ct 50 [v] h (fun v' h'=>Le h h'/\gj h' v' d):=by refine(QM q).mono (fun v h1 hR=>?_);obtain⟨l1,tb,wb,n1,n2,b3,n3,c3,b4,n4,c4,W,su,vM,rfl,g1,g2,g3,g4,g5,g6,g7⟩:=hR;exact⟨l1,⟨_,_,_,_,_,_,_,_,_,_,_,_,W,rfl,g2.sl g1,g4.sl g3,g5,g6,by rw[g7,List.map_map];simp[Function.comp_def]⟩⟩
def oh(d:DB)(w:List dO):DB:={ d with au:=w }
def ij(d:DB)(lp:Int)(i:Nat)(is:Bool):DB×Int:=
 if(decide (lp<0)||decide (lp>=8))=true then(d,1)
 else if is=true then(d,7)
 else(oh d (d.au.take i++[⟨lp,[],[]⟩]++d.au.drop i),0)
theorem P7{d:DB}{h:ad}{v:Value}(q:gj h v d)(lp:Int)(hlen:d.au.length<=2^37):
 Ct 25 [v,.int .i64 lp] h (fun v' h'=>∃v1 e z i is,v'=.tuple #[v1,.int .i64 e]/\Le h h'/\gj h' v1 (ij d lp i is).1/\e=(ij d lp i is).2/\aS z i/\H5 (d.au.map fun x=>IntKind.i64.wrap (x.s-lp)) z is):=by
 obtain⟨A,hA⟩:=Ar.ex;obtain⟨b1,n1,c1,b2,n2,c2,b3,n3,c3,b4,n4,c4,rfl⟩:=q.form;generalize e1:A .aG .lss lp 0=u1;generalize e2:A .aG .geq lp 8=u2;have uu:(decide (lp<0)||decide (lp>=8))=(u1||u2):=by rw[<-e1,<-e2,bE A,bS A]
 refine ah A (ar T25.aA T25.bm) Tryz.func25 rfl (by kernel_rfl) ?_;cbv;refine(Az q).mono (fun v h1 hR=>?_);obtain⟨l1,c,tb,wb,ct,cw,W,rfl,hc,su,vM,tR,rH,hW,RO,Lz,cs⟩:=hR;cbv;refine(CV cs lp).mono (fun v h2 hR=>?_);obtain⟨l2,z,t,rfl,hb⟩:=hR;have nj:H5 (d.au.map fun x=>IntKind.i64.wrap (x.s-lp)) z t:=by rw[hW,List.map_map]at hb;exact hb
 have jS:=nj;obtain⟨i,hz,hi,ht⟩:=jS.out;have gh:=l1.trans l2;have q2:=q.mono gh;have arg:(u1||u2)=true->ij d lp i t=(d,1):=fun e=>by unfold ij;rw[uu,e];rfl
 have is7:(u1||u2)=false->t=true->ij d lp i t=(d,7):=fun e et=>by unfold ij;rw[uu,e,et];rfl
 have new:(u1||u2)=false->t=false->ij d lp i t=(oh d (d.au.take i++[⟨lp,[],[]⟩]++d.au.drop i),0):=fun e et=>by unfold ij;rw[uu,e,et];rfl
 have fin:∀(e:Int) (v:Value) (h3:ad),Le h h3->ij d lp i t=(d,e)->gj h3 v d->∃v1 e1 z i is,Value.tuple #[v,.int .i64 e]=.tuple #[v1,.int .i64 e1]/\Le h h3/\gj h3 v1 (ij d lp i is).1/\e1=(ij d lp i is).2/\aS z i/\H5 (d.au.map fun x=>IntKind.i64.wrap (x.s-lp)) z is:=
  fun e v h3 l3 hr hd=>⟨v,e,z,i,t,rfl,l3,by rw[hr];exact hd,by rw[hr],hz,nj⟩
 cbv;rw[e1];cases u1 with
 |true=>cbv;refine(lS q2).mono (fun v h3 hR=>?_);obtain⟨l3,hd⟩:=hR;obtain⟨b1,n1,c1,b2,n2,c2,b3,n3,c3,b4,n4,c4,rfl⟩:=hd.form;cbv;exact fin 1 _ _ (gh.trans l3) (arg rfl) hd
 |false=>
  cbv;rw[e2];cases u2 with
  |true=>cbv;refine(lS q2).mono (fun v h3 hR=>?_);obtain⟨l3,hd⟩:=hR;obtain⟨b1,n1,c1,b2,n2,c2,b3,n3,c3,b4,n4,c4,rfl⟩:=hd.form;cbv;exact fin 1 _ _ (gh.trans l3) (arg rfl) hd
  |false=>
   cases t with
   |true=>cbv;refine(lS q2).mono (fun v h3 hR=>?_);obtain⟨l3,hd⟩:=hR;obtain⟨b1,n1,c1,b2,n2,c2,b3,n3,c3,b4,n4,c4,rfl⟩:=hd.form;cbv;exact fin 7 _ _ (gh.trans l3) (is7 rfl rfl) hd
   |false=>
    have IB:=cs.mono l2;obtain⟨m1,m2,x3,m3,k3,x4,m4,k4,o,g0,g1,g2,g3,g4,g5,g6,g7⟩:=IB.out;have kh:i<=W.length:=by have:=Ax (d.au.map fun x=>IntKind.i64.wrap (x.s-lp)) 0 (d.au.map fun x=>IntKind.i64.wrap (x.s-lp)).length (Nat.zero_le _);rw[hi,hW];simpa using this.1
    cbv;rw[ai A];rw[ai A];refine av g0 rfl rfl ?_;cbv;intro nb h3 fk e3;have l3:Le h2 h3:=by rw[e3];exact Le.set fk
    have gx:=(congrFun e3 nb).trans af;have sx:Sl 55 cf h3 (.slice (some ⟨nb,0,none⟩) 1 1) [((⟨lp,[],[]⟩:dO),true)]:=by
     refine Sl.fresh (xs:=[((⟨lp,[],[]⟩:dO),true)]) gx ⟨by simp[cf],fun j y hj=>?_⟩ (by simp) (by simp);have yF:j=0:=by have:=(List.getElem?_eq_some_iff.1 hj).1;simp at this;exact this
     subst yF;simp at hj;subst hj;exact⟨none,0,0,none,0,0,rfl,Sl.nil,Sl.nil,fun _=>rfl⟩
    have em:m2=cw:=by rw[g4,Lz]
    subst em;have hil2:i<=m2:=by omega
    have hm38:m2<=2^38:=by rw[Lz,hW,List.length_map];omega
    cbv;refine(Kr ((g5.sl g4).mono (l3.t _)) sx hz hil2 hm38).mono (fun v h4 hR=>?_);obtain⟨l4,wb2,cw2,m5,rfl,hwb2,XJ,ow⟩:=hR;have VR:=l4 _ _ (l3 _ _ g0);cbv;rw[ai A];rw[ai A];refine jz VR (by simp) (fun h5 e5=>?_);have gc5:=(congrFun e5 c).trans af;have k5:Kp [c] h4 h5:=by rw[e5];exact Kp.set (by simp)
    have t5:∀tys,128∉tys->cF tys h4 h5:=fun tys hn=>by rw[e5];exact cF.set VR hn
    have yz:Le h h5:=((gh.trans l3).trans l4).df (by simpa using hc) k5;have Hq:gj h5 (.agg #[.slice (some ⟨tb,0,none⟩) m1 ct,.slice (some ⟨wb2,0,none⟩) m5 cw2,.slice x3 m3 k3,.slice x4 m4 k4]) (oh d (d.au.take i++[⟨lp,[],[]⟩]++d.au.drop i)):=by
     have tK:=l3.trans l4;refine⟨_,_,_,_,_,_,_,_,_,_,_,_,_,rfl,((g3.sl g2).mono (tK.t _)).mono (t5 _ (by decide)),(ow.sl ?_).mono (t5 _ (by decide)),(g6.mono (tK.t _)).mono (t5 _ (by decide)),(g7.mono (tK.t _)).mono (t5 _ (by decide)),?_⟩
     ·rw[XJ];simp;omega
     ·rw[hW];simp[oh,List.map_take,List.map_drop,Function.comp_def]
    cbv;rw[ai A];refine av gc5 rfl rfl ?_;cbv;refine(lS Hq).mono (fun v h6 hR=>?_);obtain⟨l6,hd⟩:=hR;have jZ:=new rfl rfl;have kV:=hd;generalize oh d (d.au.take i++[⟨lp,[],[]⟩]++d.au.drop i)=d' at *;obtain⟨b1,n1,c1,b2,n2,c2,b3,n3,c3,b4,n4,c4,rfl⟩:=hd.form;cbv;exact⟨_,0,z,i,false,rfl,yz.trans l6,by rw[jZ];exact kV,by rw[jZ],hz,nj⟩
def lD(d:DB)(t:List cE):DB:={ d with aE:=t }
def iV(d:DB)(s:AU)(is:Bool):Int:=
 if gJ s≠0 then gJ s
 else if is=true then 7
 else if decide (d.aE.length>=8)=true then 4
 else if decide (d.au.length>0)=true then 18 else 0
def jE(d:DB)(s:AU)(i:Nat)(is:Bool):DB×Int:=
 if iV d s is=0 then(lD d (d.aE.take i++[⟨s,[]⟩]++d.aE.drop i),0)else(d,iV d s is)
theorem LP{d:DB}{h:ad}{v:Value}(q:gj h v d){nm:ByteArray}{cols:List bT}{key:Int}{only:Bool}{sb:Option Addr}{sn sc:Nat}(qs:Sl 165 bt h (.slice sb sn sc) cols)(hlen:d.aE.length<=2^37)(hlw:d.au.length<=2^37):
 Ct 45 [v,.agg #[.string nm,.slice sb sn sc,.int .i64 key,.bool only]] h (fun v' h'=>∃v1 e z i is,v'=.tuple #[v1,.int .i64 e]/\Le h h'/\gj h' v1 (jE d ⟨nm,cols,key,only⟩ i is).1/\e=(jE d ⟨nm,cols,key,only⟩ i is).2/\aS z i/\H5 (d.aE.map fun x=>eX x.S.name nm) z is):=by
 obtain⟨A,hA⟩:=Ar.ex;have q0:=q;obtain⟨b1,n1,c1,b2,n2,c2,b3,n3,c3,b4,n4,c4,ws,rfl,q1,q2,-,-,qw⟩:=q0.out;refine ah A (ar T45.aA T45.bm) Tryz.func45 rfl (by kernel_rfl) ?_;cbv;refine(Az q).mono (fun v h1 hR=>?_);obtain⟨l1,c,tb,wb,ct,cw,W,rfl,hc,su,vM,tR,rH,hW,RO,Lz,cs⟩:=hR;cbv;refine(FM (key:=key) (only:=only) (nm:=nm) (qs.mono (l1.t _))).mono (fun v h2 hR=>?_);obtain⟨l2,e0,rfl,lk⟩:=hR;cbv;refine(Ap (cs.mono l2) tR rH).mono (fun v h3 hR=>?_);obtain⟨rfl,k3,LN⟩:=hR;have H8:Le h h3:=(l1.trans l2).df (by simpa using hc) k3;cbv;refine(zo LN nm).mono (fun v h4 hR=>?_);obtain⟨l4,z,t,rfl,hb⟩:=hR;rw[if_pos rfl]at LN;obtain⟨i,hz,hi,ht⟩:=hb.out;have bad:∀(E:Int) (v:Value) {hh:ad},Le h hh->E≠0->iV d ⟨nm,cols,key,only⟩ t=E->gj hh v d->∃v1 e1 z i is,Value.tuple #[v,.int .i64 E]=.tuple #[v1,.int .i64 e1]/\Le h hh/\gj hh v1 (jE d ⟨nm,cols,key,only⟩ i is).1/\e1=(jE d ⟨nm,cols,key,only⟩ i is).2/\aS z i/\H5 (d.aE.map fun x=>eX x.S.name nm) z is:=fun E v hh l hE hc hd=>by
  have:jE d ⟨nm,cols,key,only⟩ i t=(d,E):=by unfold jE;rw[hc,if_neg hE]
  exact⟨v,E,z,i,t,rfl,l,by rw[this];exact hd,by rw[this],hz,hb⟩
 cases t with
 |true=>
  cbv;refine(Ap (LN.mono l4) tR rH).mono (fun v h5 hR=>?_);obtain⟨rfl,k5,FH⟩:=hR;have yz:Le h h5:=(H8.trans l4).df (by simpa using hc) k5;obtain⟨E,hE⟩:∃E,E=(if e0=0 then 7 else e0):=⟨_,rfl⟩;rw[<-hE]at FH;have Ru:iV d ⟨nm,cols,key,only⟩ true=E:=by unfold iV;rw[hE,<-lk];by_cases h0:e0=0<;>simp[h0]
  cbv;obtain⟨m1,m2,x3,m3,k3,x4,m4,k4,o,g0,go,g2,g3,g4,g5,g6,g7⟩:=FH.out;generalize ez:A .aG .neq E 0=u;rw[aB A]at ez;rw[ai A];refine av g0 rfl rfl ?_;cbv;rw[aB A,ez];cases u with
  |true=>cbv;rw[ai A];refine av g0 rfl rfl ?_;cbv;refine(lS (q.mono yz)).mono (fun v h6 hR=>?_);obtain⟨l6,hd⟩:=hR;have kV:=hd;obtain⟨b1,n1,c1,b2,n2,c2,b3,n3,c3,b4,n4,c4,rfl⟩:=hd.form;cbv;refine av (l6 _ _ g0) rfl rfl ?_;cbv;refine⟨⟨_,rfl,rfl⟩,?_⟩;cbv;refine av (l6 _ _ g0) rfl rfl ?_;cbv;refine⟨⟨_,rfl,rfl⟩,?_⟩;cbv;exact bad _ _ (yz.trans l6) (of_decide_eq_true ez) Ru kV
  |false=>exact absurd (of_decide_eq_false ez) (by rw[hE];by_cases h0:e0=0<;>simp[h0])
 |false=>
  generalize eg:A .aG .geq (A .nat n1) 8=ug;generalize ew:A .aG .gtr (A .nat n2) 0=uw;have hg:ug=decide (d.aE.length>=8):=by rw[<-eg,bS A,hA.nat,q1.len,decide_eq_decide];simp only[Int.ofNat_eq_natCast];omega
  have hw:uw=decide (d.au.length>0):=by
   rw[<-ew,bJ A,hA.nat,q2.len,decide_eq_decide];simp only[Int.ofNat_eq_natCast];have:ws.length=d.au.length:=by rw[<-qw,List.length_map]
   omega
  cbv;rw[eg];cases ug with
  |true=>
   cbv;refine(Ap (LN.mono l4) tR rH).mono (fun v h5 hR=>?_);obtain⟨rfl,k5,FH⟩:=hR;have yz:Le h h5:=(H8.trans l4).df (by simpa using hc) k5;obtain⟨E,hE⟩:∃E,E=(if e0=0 then 4 else e0):=⟨_,rfl⟩;rw[<-hE]at FH;have Ru:iV d ⟨nm,cols,key,only⟩ false=E:=by unfold iV;rw[hE,<-lk,<-hg];by_cases h0:e0=0<;>simp[h0]
   cbv;obtain⟨m1,m2,x3,m3,k3,x4,m4,k4,o,g0,go,g2,g3,g4,g5,g6,g7⟩:=FH.out;generalize ez:A .aG .neq E 0=u;rw[aB A]at ez;rw[ai A];refine av g0 rfl rfl ?_;cbv;rw[aB A,ez];cases u with
   |true=>cbv;rw[ai A];refine av g0 rfl rfl ?_;cbv;refine(lS (q.mono yz)).mono (fun v h6 hR=>?_);obtain⟨l6,hd⟩:=hR;have kV:=hd;obtain⟨b1,n1,c1,b2,n2,c2,b3,n3,c3,b4,n4,c4,rfl⟩:=hd.form;cbv;refine av (l6 _ _ g0) rfl rfl ?_;cbv;refine⟨⟨_,rfl,rfl⟩,?_⟩;cbv;refine av (l6 _ _ g0) rfl rfl ?_;cbv;refine⟨⟨_,rfl,rfl⟩,?_⟩;cbv;exact bad _ _ (yz.trans l6) (of_decide_eq_true ez) Ru kV
   |false=>exact absurd (of_decide_eq_false ez) (by rw[hE];by_cases h0:e0=0<;>simp[h0])
  |false=>
   cbv;rw[ew];cases uw with
   |true=>
    cbv;refine(Ap (LN.mono l4) tR rH).mono (fun v h5 hR=>?_);obtain⟨rfl,k5,FH⟩:=hR;have yz:Le h h5:=(H8.trans l4).df (by simpa using hc) k5;obtain⟨E,hE⟩:∃E,E=(if e0=0 then 18 else e0):=⟨_,rfl⟩;rw[<-hE]at FH;have Ru:iV d ⟨nm,cols,key,only⟩ false=E:=by unfold iV;rw[hE,<-lk,<-hg,<-hw];by_cases h0:e0=0<;>simp[h0]
    cbv;obtain⟨m1,m2,x3,m3,k3,x4,m4,k4,o,g0,go,g2,g3,g4,g5,g6,g7⟩:=FH.out;generalize ez:A .aG .neq E 0=u;rw[aB A]at ez;rw[ai A];refine av g0 rfl rfl ?_;cbv;rw[aB A,ez];cases u with
    |true=>cbv;rw[ai A];refine av g0 rfl rfl ?_;cbv;refine(lS (q.mono yz)).mono (fun v h6 hR=>?_);obtain⟨l6,hd⟩:=hR;have kV:=hd;obtain⟨b1,n1,c1,b2,n2,c2,b3,n3,c3,b4,n4,c4,rfl⟩:=hd.form;cbv;refine av (l6 _ _ g0) rfl rfl ?_;cbv;refine⟨⟨_,rfl,rfl⟩,?_⟩;cbv;refine av (l6 _ _ g0) rfl rfl ?_;cbv;refine⟨⟨_,rfl,rfl⟩,?_⟩;cbv;exact bad _ _ (yz.trans l6) (of_decide_eq_true ez) Ru kV
    |false=>exact absurd (of_decide_eq_false ez) (by rw[hE];by_cases h0:e0=0<;>simp[h0])
   |false=>
    have FH:=LN.mono l4;have yz:Le h h4:=H8.trans l4;obtain⟨E,hE⟩:∃E,E=e0:=⟨_,rfl⟩;rw[<-hE]at FH;have Ru:iV d ⟨nm,cols,key,only⟩ false=E:=by unfold iV;rw[hE,<-lk,<-hg,<-hw];by_cases h0:e0=0<;>simp[h0]
    cbv;obtain⟨m1,m2,x3,m3,k3,x4,m4,k4,o,g0,go,g2,g3,g4,g5,g6,g7⟩:=FH.out;generalize ez:A .aG .neq E 0=u;rw[aB A]at ez;rw[ai A];refine av g0 rfl rfl ?_;cbv;rw[aB A,ez];cases u with
    |true=>cbv;rw[ai A];refine av g0 rfl rfl ?_;cbv;refine(lS (q.mono yz)).mono (fun v h6 hR=>?_);obtain⟨l6,hd⟩:=hR;have kV:=hd;obtain⟨b1,n1,c1,b2,n2,c2,b3,n3,c3,b4,n4,c4,rfl⟩:=hd.form;cbv;refine av (l6 _ _ g0) rfl rfl ?_;cbv;refine⟨⟨_,rfl,rfl⟩,?_⟩;cbv;refine av (l6 _ _ g0) rfl rfl ?_;cbv;refine⟨⟨_,rfl,rfl⟩,?_⟩;cbv;exact bad _ _ (yz.trans l6) (of_decide_eq_true ez) Ru kV
    |false=>
     have hE0:E=0:=by have:=of_decide_eq_false ez;omega
     cbv;rw[ai A];rw[ai A];refine av g0 rfl rfl ?_;cbv;have sT:cY.R h4 [.string nm,.slice sb sn sc,.int .i64 key,.bool only,.slice none 0 0] ⟨⟨nm,cols,key,only⟩,[]⟩:=⟨_,_,_,_,_,_,rfl,qs.mono (yz.t _),Sl.nil⟩;refine(QL sT).mono (fun v h6 hR=>?_);obtain⟨l6,d0,d1,d2,d3,d4,rfl,rT⟩:=hR;obtain⟨w1,w2,w3,w4,w5,w6,he,rT1,rT2⟩:=rT;cases he;have g06:=l6 _ _ g0;cbv;refine av g06 rfl rfl ?_;cbv;refine⟨⟨_,rfl,rfl⟩,?_⟩;cbv;intro nb h7 fk e7;have l7:Le h6 h7:=by rw[e7];exact Le.set fk
     have gx:=(congrFun e7 nb).trans af;have sx:Sl 51 cY h7 (.slice (some ⟨nb,0,none⟩) 1 1) [(⟨⟨nm,cols,key,only⟩,[]⟩:cE)]:=by
      refine Sl.fresh (xs:=[(⟨⟨nm,cols,key,only⟩,[]⟩:cE)]) gx ⟨by simp[cY],fun j y hj=>?_⟩ (by simp) (by simp);have yF:j=0:=by have:=(List.getElem?_eq_some_iff.1 hj).1;simp at this;exact this
      subst yF;simp at hj;subst hj;exact⟨_,_,_,_,_,_,rfl,rT1.mono (l7.t _),rT2.mono (l7.t _)⟩
     have XH:=l7 _ _ g06;have em:m1=ct:=by rw[g2,RO]
     subst em;have kh:i<=m1:=by have:=(Ax (d.aE.map fun x=>eX x.S.name nm) 0 (d.aE.map fun x=>eX x.S.name nm).length (Nat.zero_le _)).1;rw[hi,g2];simpa using this
     cbv;refine av XH rfl rfl ?_;cbv;refine⟨⟨_,rfl,rfl⟩,?_⟩;cbv;refine(Ks ((g3.sl g2).mono ((l6.trans l7).t _)) sx hz kh (by omega)).mono (fun v h8 hR=>?_);obtain⟨l8,tb2,ct2,m5,rfl,htb2,XJ,ot⟩:=hR;have g08:=l8 _ _ XH;cbv;rw[ai A];rw[ai A];refine jz g08 (by simp) (fun h9 e9=>?_);have gc9:=(congrFun e9 c).trans af;have k9:Kp [c] h8 h9:=by rw[e9];exact Kp.set (by simp)
     have t9:∀tys,128∉tys->cF tys h8 h9:=fun tys hn=>by rw[e9];exact cF.set g08 hn
     have lh9:Le h h9:=(((yz.trans l6).trans l7).trans l8).df (by simpa using hc) k9;have Hq:gj h9 (.agg #[.slice (some ⟨tb2,0,none⟩) m5 ct2,.slice (some ⟨wb,0,none⟩) m2 cw,.slice x3 m3 k3,.slice x4 m4 k4]) (lD d (d.aE.take i++[⟨⟨nm,cols,key,only⟩,[]⟩]++d.aE.drop i)):=by
      have l48:=(l6.trans l7).trans l8;refine⟨_,_,_,_,_,_,_,_,_,_,_,_,_,rfl,(ot.sl ?_).mono (t9 _ (by decide)),((g5.sl g4).mono (l48.t _)).mono (t9 _ (by decide)),(g6.mono (l48.t _)).mono (t9 _ (by decide)),(g7.mono (l48.t _)).mono (t9 _ (by decide)),?_⟩
      ·rw[XJ];simp;omega
      ·rw[hW];simp[lD,Function.comp_def]
     cbv;rw[ai A];refine av gc9 rfl rfl ?_;cbv;refine(lS Hq).mono (fun v kx hR=>?_);obtain⟨mZ,hd⟩:=hR;have jZ:jE d ⟨nm,cols,key,only⟩ i false=(lD d (d.aE.take i++[⟨⟨nm,cols,key,only⟩,[]⟩]++d.aE.drop i),0):=by unfold jE;rw[if_pos (Ru.trans hE0)]
     have kV:=hd;generalize lD d (d.aE.take i++[⟨⟨nm,cols,key,only⟩,[]⟩]++d.aE.drop i)=d' at *;obtain⟨b1,n1,c1,b2,n2,c2,b3,n3,c3,b4,n4,c4,rfl⟩:=hd.form;cbv;exact⟨_,0,z,i,false,rfl,lh9.trans mZ,by rw[jZ];exact kV,by rw[jZ],hz,hb⟩
end Go.S
