import Derived.Test.YtekoaiendgjkdaaGreatDA
import Derived.Test.YtekoaiendgjkdaaGreatRd
set_option linter.unusedVariables false
set_option linter.unusedSimpArgs false
set_option linter.unusedSectionVars false
set_option maxRecDepth 100000
namespace Go.S
open Go.Sx Go.Proofs
def eZ(s:ByteArray)(i:Nat):Int:=((s.data.getD i 0).toNat:Int)
def tF(z:Int):Bool:= !((decide (z<97)||decide (z>122))&&(decide (z<48)||decide (z>57))&&(z !=95))
def rv(s:ByteArray):Bool:= !(decide ((s.size:Int)<1)||decide ((s.size:Int)>12)||decide (eZ s 0<97)||decide (eZ s 0>122))
def pA(s:ByteArray):Bool:=(List.range s.size).all fun i=>tF (eZ s i)
def lX(s:ByteArray):Bool:=eC.any fun w=>decide (w=s)
theorem lW{s:ByteArray}:lX s=true↔s∈eC:=by
 unfold lX;rw[List.any_eq_true];constructor
 ·rintro⟨w,h1,h2⟩;exact of_decide_eq_true h2 ▸ h1
 ·intro h;exact⟨s,h,by simp⟩
def ai(s:ByteArray):Bool:=rv s&&pA s&& !lX s
structure XX(h:ad)(sp:Nat):Prop where
 out:(h sp=some (.cells #[.int .u32 0,.int .i32 0,.int .u32 0,.map none] 250 (0,0)))\/
  ∃m,h sp=some (.cells #[.int .u32 1,.int .i32 0,.int .u32 0,.map (some m)] 250 (0,0))/\Mp h m .string (qJ eC)/\m≠sp
theorem MH(w:World):(zeroValue 4).run Tryz.prog w=.ok (.bool false) w:=by
 have h:((Tryz.prog.info? 4).bind (·.zero))=some (.bool false):=by kernel_rfl
 cases h1:Tryz.prog.info? 4 with
 |none=>rw[h1]at h;cases h
 |some i=>rw[h1]at h;simp at h;simp[zeroValue,typeInfo,h1,h]
theorem yE{h:ad}{s:ByteArray}{k:Value->ad->Prop}{m:Nat}(mp:Mp h m .string (qJ eC))(hk:∀t,t=lX s->k (.bool t) h):
 cX (fun _=>Tryz.prog) (fun _=>Instr.lookup 248 (.map (some m)) (.string s) false) h k:=by
 by_cases hs:s∈eC
 ·exact sw N5 u9 mp (key:=.string s) (v:=.bool true) True.intro (List.mem_map.2 ⟨s,hs,rfl⟩) (hk true (lW.2 hs).symm)
 ·refine pr N5 u9 MH mp (key:=.string s) True.intro ?_ (hk false ?_)
  ·intro p hp e;obtain⟨w,hw,rfl⟩:=List.mem_map.1 hp;cases e;exact hs hw
  ·cases hi:lX s with
   |false=>rfl
   |true=>exact absurd (lW.1 hi) hs
set_option maxHeartbeats 2000000 in
theorem Gx{h:ad}{sp:Nat}{s:ByteArray}(q:XX h sp):
 Ct 155 [.pointer (some ⟨sp,0,none⟩),.string s] h (fun v h'=>∃t,v=.bool t/\t=ai s/\Kp [sp] h h'/\XX h' sp):=by
 obtain⟨A,hA⟩:=Ar.ex;refine af A (ar Xw.aw Xw.aZ) Tryz.func155 rfl (by kernel_rfl) ?_;have hn:A .gD s=(s.size:Int):=by rw[hA.gD]
 have pN:aO (A .gD s) s.size:=⟨hn⟩;have oe:∀z i,aO z i->A .byte s z=eZ s i:=fun z i hz=>by
  rw[hA.byte];simp only[eZ];rw[hz.eq];rfl
 generalize e1:A .aD .lss (A .gD s) 1=t1;generalize e2:A .aD .gtr (A .gD s) 12=t2;generalize e3:A .aD .lss (A .byte s 0) 97=t3;generalize e4:A .aD .gtr (A .byte s 0) 122=t4;have vq:t2=false->s.size<=12:=fun e=>by
  rw[e,hA.aD,hn]at e2;have:=of_decide_eq_false e2;omega
 have hf:rv s= !(t1||t2||t3||t4):=by rw[<-e1,<-e2,<-e3,<-e4,oe 0 0 ⟨rfl⟩,hn,hA.aD];rfl
 have UK:t1=false->(0:Int)<=0/\0<(s.size:Int):=fun e=>by
  rw[e,hA.aD,hn]at e1;have:=of_decide_eq_false e1;omega
 have tH:∀(t:Bool) (b:Bool),t=false->rv s=false->t=ai s:=fun t b ht hq=>by rw[ht,ai,hq];rfl
 have Be:∀(t:Bool),t=true->t=t:=fun _ _=>rfl;cbv;rw[e1];cases t1 with
 |true=>cbv;exact⟨false,rfl,tH _ true rfl hf,Kp.refl _ _,q⟩
 |false=>
  have h1:=UK rfl;cbv;rw[e2];cases t2 with
  |true=>cbv;exact⟨false,rfl,tH _ true rfl hf,Kp.refl _ _,q⟩
  |false=>
   cbv;refine⟨h1,?_⟩;cbv;rw[e3];cases t3 with
   |true=>cbv;exact⟨false,rfl,tH _ true rfl hf,Kp.refl _ _,q⟩
   |false=>
    cbv;refine⟨h1,?_⟩;cbv;rw[e4];cases t4 with
    |true=>cbv;exact⟨false,rfl,tH _ true rfl hf,Kp.refl _ _,q⟩
    |false=>
     cbv;have Ui:rv s=true:=hf;have vq:=vq rfl;clear hf e1 e2 e3 e4 UK tH Be;refine aX.go (G:=Int) (fun z=>[(27,.v (.int .i64 z))]) (fun _=>[]) (fun n z h'=>∃i:Nat,aO z i/\n=s.size-i/\i<=s.size/\h'=h/\∀j,j<i->tF (eZ s j)=true) s.size 0 ⟨?_,?_,?_⟩ ⟨0,⟨rfl⟩,rfl,by omega,rfl,fun j hj=>(by omega)⟩ ?_
     ·cbv
     ·cbv
     ·cbv
     ·intro n z h' hI;cbv;obtain⟨i,hz,D4,hi,rfl,aJ⟩:=hI;refine aL (fun hc=>?_) (fun hc=>?_)
      ·rw[hz.gK (A:=A) pN]at hc;have aG:=of_decide_eq_true hc;clear hc;cbv;refine⟨hz.ix aG,?_⟩;cbv;rw[oe z i hz];generalize hw:eZ s i=w;generalize e1:A .aD .lss w 97=t1;generalize e2:A .aD .gtr w 122=t2;generalize e3:A .aD .lss w 48=t3;generalize e4:A .aD .gtr w 57=t4;generalize e5:A .aD .neq w 95=t5;have jh:tF w= !((t1||t2)&&(t3||t4)&&t5):=by rw[<-e1,<-e2,<-e3,<-e4,<-e5,hA.aD];rfl
       have bad:tF w=false->ai s=false:=fun e=>by
        have:pA s=false:=by unfold pA;rw[List.all_eq_false];exact⟨i,by simp[aG],by rw[hw,e];simp⟩
        rw[ai,this];simp
       have jZ:tF w=true->∀j,j<i+1->tF (eZ s j)=true:=fun e j hj=>by
        rcases Nat.lt_or_ge j i with h|h
        ·exact aJ j h
        ·have:j=i:=by omega
         rw[this,hw,e]
       cbv;cases t1 with
       |true=>
        cbv;rw[e3];cases t3 with
        |true=>
         cbv;rw[e5];cases t5 with
         |true=>cbv;exact⟨false,rfl,(bad (by rw[jh];rfl)).symm,Kp.refl _ _,q⟩
         |false=>cbv;exact⟨s.size-(i+1),_,by omega,⟨by cbv,by cbv,by cbv⟩,i+1,hz.succ (A:=A) (by omega),rfl,by omega,rfl,jZ (by rw[jh];rfl)⟩
        |false=>
         cbv;rw[e4];cases t4 with
         |true=>
          cbv;rw[e5];cases t5 with
          |true=>cbv;exact⟨false,rfl,(bad (by rw[jh];rfl)).symm,Kp.refl _ _,q⟩
          |false=>cbv;exact⟨s.size-(i+1),_,by omega,⟨by cbv,by cbv,by cbv⟩,i+1,hz.succ (A:=A) (by omega),rfl,by omega,rfl,jZ (by rw[jh];rfl)⟩
         |false=>cbv;exact⟨s.size-(i+1),_,by omega,⟨by cbv,by cbv,by cbv⟩,i+1,hz.succ (A:=A) (by omega),rfl,by omega,rfl,jZ (by rw[jh];rfl)⟩
       |false=>
        cbv;rw[e2];cases t2 with
        |true=>
         cbv;rw[e3];cases t3 with
         |true=>
          cbv;rw[e5];cases t5 with
          |true=>cbv;exact⟨false,rfl,(bad (by rw[jh];rfl)).symm,Kp.refl _ _,q⟩
          |false=>cbv;exact⟨s.size-(i+1),_,by omega,⟨by cbv,by cbv,by cbv⟩,i+1,hz.succ (A:=A) (by omega),rfl,by omega,rfl,jZ (by rw[jh];rfl)⟩
         |false=>
          cbv;rw[e4];cases t4 with
          |true=>
           cbv;rw[e5];cases t5 with
           |true=>cbv;exact⟨false,rfl,(bad (by rw[jh];rfl)).symm,Kp.refl _ _,q⟩
           |false=>cbv;exact⟨s.size-(i+1),_,by omega,⟨by cbv,by cbv,by cbv⟩,i+1,hz.succ (A:=A) (by omega),rfl,by omega,rfl,jZ (by rw[jh];rfl)⟩
          |false=>cbv;exact⟨s.size-(i+1),_,by omega,⟨by cbv,by cbv,by cbv⟩,i+1,hz.succ (A:=A) (by omega),rfl,by omega,rfl,jZ (by rw[jh];rfl)⟩
        |false=>cbv;exact⟨s.size-(i+1),_,by omega,⟨by cbv,by cbv,by cbv⟩,i+1,hz.succ (A:=A) (by omega),rfl,by omega,rfl,jZ (by rw[jh];rfl)⟩
      ·rw[hz.gK (A:=A) pN]at hc;have iu:=of_decide_eq_false hc;cbv;have HM:pA s=true:=by unfold pA;rw[List.all_eq_true];intro j hj;rw[List.mem_range]at hj;exact aJ j (by omega)
       rw[aj A];have fin:∀t,t=lX s->(A .not t)=ai s:=fun t ht=>by
        rw[ai,Ui,HM,ht,hA.not];simp
       rcases q.out with g| ⟨m,g,mp,hm⟩
       ·refine(Ic (a1:=⟨sp,0,none⟩) (Q:=fun hq=>Kp [sp] h' hq/\∃m,h' m=none/\hq sp=some (.cells #[.int .u32 0,.int .i32 1,.int .u32 0,.map (some m)] 250 (0,0))/\Mp hq m .string (qJ eC)) (ik g rfl) (ik g rfl) (fun h1 hu=>?_)).mono (fun v h4 hR=>?_)
        ·have e1:=hu.exp g;have g1:=(congrFun e1 sp).trans ah;refine(J7 g1).mono (fun v h2 hR=>?_);obtain⟨rfl,k2,m,hm,g2,A2⟩:=hR;have k1:Kp [sp] h' h1:=by rw[e1];exact Kp.set (by simp)
         refine⟨rfl,ik g2 rfl,ik g2 rfl,k1.trans k2,m,?_,g2,A2⟩;have bU:m≠sp:=fun e=>by rw[e,g1]at hm;cases hm
         rw[e1,aU bU]at hm;exact hm
        ·obtain⟨rfl,h2,h3,⟨k2,m,hm,g2,A2⟩,u3,u4⟩:=hR;have e3:=u3.exp g2;have g3:=(congrFun e3 sp).trans ah;have e4:=u4.exp g3;have g4:=(congrFun e4 sp).trans ah;rw[e3,iM]at e4;have k4:Kp [sp] h2 h4:=by rw[e4];exact Kp.set (by simp)
         have hms:m≠sp:=fun e=>by rw[e,g]at hm;cases hm
         have DH:=A2.kp k4 (by simpa using hms);cbv;rw[aj A];refine ay g4 rfl rfl ?_;cbv;refine yE DH (fun t ht=>?_);cbv;exact⟨_,rfl,fin t ht,k2.trans k4,⟨.inr ⟨m,g4,DH,hms⟩⟩⟩
       ·refine(El (a1:=⟨sp,0,none⟩) (ik g rfl)).mono (fun v h4 hR=>?_);obtain⟨rfl,rfl⟩:=hR;cbv;rw[aj A];refine ay g rfl rfl ?_;cbv;refine yE mp (fun t ht=>?_);cbv;exact⟨_,rfl,fin t ht,Kp.refl _ _,q⟩
theorem LN{x:bS}{h:ad}{nb:Nat}{name:ByteArray}(g:h nb=some (.cells #[.string name] 9 (0,0))){z1:Int}{t1:Bool}{s1:ByteArray}:
 Ct 173 [.agg #[.string s1,.int .i64 z1,.bool t1],.pointer (some ⟨nb,0,none⟩)] h (fun v h'=>Le h h'/\∃t,v=.bool t/\t=decide (s1=name)):=by
 obtain⟨A,hA⟩:=Ar.ex;refine af A (ar Xi.aw Xi.aZ) Tryz.func173 rfl (by kernel_rfl) ?_;cbv;refine ay g rfl rfl ?_;cbv;exact⟨Le.refl _,_,rfl,bL A _ _⟩
theorem Pj{xs:List bS}{h:ad}{b:Option Addr}{len cap:Nat}(q:Sl 165 bp h (.slice b len cap) xs){nb:Nat}{name:ByteArray}(g:h nb=some (.cells #[.string name] 9 (0,0))):
 Ct 172 [.slice b len cap,.func (.func 173) #[] #[.pointer (some ⟨nb,0,none⟩)]] h (fun v h'=>Le h h'/\∃z:Int,v=.int .i64 z/\pa xs (fun x:bS=>decide (x.name=name)) z):=by
 obtain⟨A,hA⟩:=Ar.ex;have hlen:=q.len;obtain⟨ke,jt⟩:=q.bound;generalize hp:(fun x:bS=>decide (x.name=name))=p;refine af A (ar Xj.aw Xj.aZ) Tryz.func172 rfl (by kernel_rfl) ?_;cbv;refine aX.go (G:=Int) (fun z=>[(8,.v (.int .i64 z))]) (fun _=>[]) (fun n z h'=>∃i:Nat,aO z i/\n=len-i/\i<=len/\Le h h'/\∀j,j<i->∀y,xs[j]? =some y->p y=false) len 0 ⟨?_,?_,?_⟩ ⟨0,⟨rfl⟩,by omega,by omega,Le.refl _,fun j hj=>(by omega)⟩ ?_
 ·cbv
 ·cbv
 ·cbv
 ·intro n z h' hI;cbv;obtain⟨i,hz,hn,hi,hle,aJ⟩:=hI;refine aL (fun hc=>?_) (fun hc=>?_)
  ·have aG:=hz.lt hc;clear hc;cbv;obtain⟨x,hx⟩:=aE (xs:=xs) (i:=i) (by omega);refine⟨⟨q.bF (by omega),hz.ix aG⟩,?_⟩;cbv;refine(q.mono (hle.t _)).load hx hz.eq (fun cs aF=>?_);have aF:cs=[.string x.name,.int .i64 x.kind,.bool x.null]:=aF;subst aF;cbv;refine(LN (x:=x) (hle _ _ g)).mono (fun v h2 hR=>?_);obtain⟨cB,t,rfl,ht⟩:=hR;have ht:t=p x:=by rw[<-hp];exact ht
   cbv;cases t with
   |true=>cbv;exact⟨hle.trans cB,z,rfl,⟨.inr ⟨i,x,hz,hx,ht.symm,aJ⟩⟩⟩
   |false=>
    cbv;refine⟨len-(i+1),_,by omega,⟨?_,?_,?_⟩,i+1,hz.succ (A:=A) (by omega),rfl,by omega,hle.trans cB,?_⟩
    ·cbv
    ·cbv
    ·cbv
    ·intro j hj y hy;rcases Nat.lt_or_ge j i with h|h
     ·exact aJ j h y hy
     ·have:j=i:=by omega
      subst this;rw[hx]at hy;cases hy;exact ht.symm
  ·have iu:=hz.ge hc;cbv;refine⟨hle,-1,rfl,⟨.inl ⟨rfl,fun x hx=>?_⟩⟩⟩;obtain⟨j,hj⟩:=List.getElem?_of_mem hx;have:=(List.getElem?_eq_some_iff.1 hj).1;exact aJ j (by omega) x hj
theorem QI{cols:List bS}{h:ad}{b:Option Addr}{n c:Nat}(q:Sl 165 bp h (.slice b n c) cols){nm s:ByteArray}{k:Int}{only:Bool}:
 Ct 91 [.agg #[.string nm,.slice b n c,.int .i64 k,.bool only],.string s] h (fun v h'=>Le h h'/\∃z t z',v=.tuple #[.int .i64 z,.bool t]/\pa cols (fun x=>decide (x.name=s)) z'/\z=max z' 0/\t=decide (z'>=0)):=by
 obtain⟨A,hA⟩:=Ar.ex;refine af A (ar T91.aw T91.aZ) Tryz.func91 rfl (by kernel_rfl) ?_;cbv;intro nb h1 eJ e1;have l1:Le h h1:=by rw[e1];exact Le.set eJ
 have g1:=(congrFun e1 nb).trans ah;cbv;refine(Pj (q.mono (l1.t _)) g1).mono (fun v h2 hR=>?_);obtain⟨l2,z,rfl,hz⟩:=hR;cbv;exact⟨l1.trans l2,_,_,z,rfl,hz,by rw[hA.imax],bQ A _ _⟩
theorem Kp.S6{n e:Nat}{c:Array Value}{fr:Nat×Nat}{tys:List Nat}{h h':ad}(x:Kp [n] h h')(g:h n=some (.cells c e fr))(he:e∉tys):cG tys h h':=fun b d e' HT hm hb=>by
 by_cases Bs:b=n
 ·rw[Bs,g]at hb;cases hb;exact absurd hm he
 ·exact x b _ hb (by simpa using Bs)
def dw(cols:List bS)(i:Nat)(c:bS):Int:=
 if(!ai c.name||(cols.take i).any fun x=>decide (x.name=c.name))=true then 12 else if(decide (c.kind<1)||decide (c.kind>3))=true then 3 else 0
def fT(cols:List bS):Int:=((cols.zipIdx.map fun(c,i)=>dw cols i c).find? (fun z=>z !=0)).getD 0
def fx(s:Ao):Int:=
 if(!ai s.name)=true then 12
 else if(decide ((s.cols.length:Int)<1)||decide ((s.cols.length:Int)>6))=true then 4
 else if fT s.cols≠0 then fT s.cols
 else if(decide (s.key<0)||decide (s.key>=(s.cols.length:Int)))=true then 1
 else if((s.cols[s.key.toNat]?).map (·.null)).getD false=true then 13 else 0
theorem uE{cols:List bS}{i:Nat}{c:bS}(hc:cols[i]? =some c)(aJ:∀j,j<i->∀y,cols[j]? =some y->dw cols j y=0)(bU:dw cols i c≠0):fT cols=dw cols i c:=by
 unfold fT;have:(cols.zipIdx.map fun(c,i)=>dw cols i c).find? (fun z=>z !=0)=some (dw cols i c):=by
  rw[List.find?_eq_some_iff_getElem];have aG:=(List.getElem?_eq_some_iff.1 hc).1;refine⟨by simpa using bU,i,by simpa using aG,?_,fun j hj=>?_⟩
  ·have:=(List.getElem?_eq_some_iff.1 hc).2;simp[this]
  ·have re:j<cols.length:=by omega
   have:=aJ j hj cols[j] (by simp[re]);simp[this]
 rw[this];rfl
theorem qy{cols:List bS}(aJ:∀j,j<cols.length->∀y,cols[j]? =some y->dw cols j y=0):fT cols=0:=by
 unfold fT;have:(cols.zipIdx.map fun(c,i)=>dw cols i c).find? (fun z=>z !=0)=none:=by rw[List.find?_eq_none];intro x hx;obtain⟨⟨c,i⟩,hm,rfl⟩:=List.mem_map.1 hx;have:=List.mem_zipIdx_iff_getElem?.1 hm;have aG:=(List.getElem?_eq_some_iff.1 this).1;simp[aJ i aG c this]
 rw[this];rfl
theorem Hd{cols:List bS}{i:Nat}{c:bS}(hc:cols[i]? =some c){z':Int}(hr:pa cols (fun x=>decide (x.name=c.name)) z'):
 decide (max z' 0<(i:Int))=(cols.take i).any fun x=>decide (x.name=c.name):=by
 rcases hr.out with ⟨-,h⟩ | ⟨k,x,hk,hx,hp,aJ⟩
 ·have:=h c (List.mem_of_getElem? hc);simp at this
 ·have hz:=hk.eq;by_cases aG:k<i
  ·rw[decide_eq_true (by omega),eq_comm,List.any_eq_true];exact⟨x,List.mem_of_getElem? (i:=k) (by rw[List.getElem?_take,if_pos aG];exact hx),hp⟩
  ·have hki:¬i<k:=fun h=>by have:=aJ i h c hc;simp at this
   rw[decide_eq_false (by omega),eq_comm,List.any_eq_false];intro y hy;obtain⟨j,hj⟩:=List.getElem?_of_mem hy;rw[List.getElem?_take]at hj;split at hj
   ·rename_i ji;have:=aJ j (by omega) y hj;simpa using this
   ·cases hj
set_option maxHeartbeats 2000000 in
theorem CR{nm:ByteArray}{cols:List bS}{key:Int}{only:Bool}{h:ad}{b:Option Addr}{n c:Nat}(q:Sl 165 bp h (.slice b n c) cols):
 Ct 77 [.agg #[.string nm,.slice b n c,.int .i64 key,.bool only]] h (fun v h'=>Le h h'/\∃z,v=.int .i64 z/\z=fx ⟨nm,cols,key,only⟩):=by
 obtain⟨A,hA⟩:=Ar.ex;have hlen:=q.len;obtain⟨ke,jt⟩:=q.bound;have hn:A .nat n=(cols.length:Int):=by rw[hA.nat,hlen];rfl
 have pN:aO (A .nat n) n:=⟨by rw[hA.nat];rfl⟩;generalize e1:A .aD .lss (A .nat n) 1=t1;generalize e2:A .aD .gtr (A .nat n) 6=t2;have f12:(decide ((cols.length:Int)<1)||decide ((cols.length:Int)>6))=(t1||t2):=by rw[<-e1,<-e2,hn,bt A,bB A]
 refine af A (ar T77.aw T77.aZ) Tryz.func77 rfl (by kernel_rfl) ?_;cbv;intro sp h1 Ng e0;have l1:Le h h1:=by rw[e0];exact Le.set Ng
 have R4:=(congrFun e0 sp).trans ah;have s1:XX h1 sp:=⟨.inl R4⟩;have q1:=q.mono (l1.t _);clear e0;cbv;refine(Gx s1).mono (fun v h2 hR=>?_);obtain⟨t,rfl,ht,k2,s2⟩:=hR;cbv;rw[hA.not];cases t with
 |false=>cbv;refine⟨l1.cO (by simpa using Ng) k2,12,rfl,?_⟩;unfold fx;rw[<-ht];rfl
 |true=>
  cbv;rw[e1];have many:(t1||t2)=true->(4:Int)=fx ⟨nm,cols,key,only⟩:=fun hm=>by
   unfold fx;rw[<-ht,f12,hm];rfl
  cases t1 with
  |true=>cbv;exact⟨l1.cO (by simpa using Ng) k2,4,rfl,many rfl⟩
  |false=>
   cbv;rw[e2];cases t2 with
   |true=>cbv;exact⟨l1.cO (by simpa using Ng) k2,4,rfl,many rfl⟩
   |false=>
    clear many e1 e2;cbv;refine aX.go (G:=Int) (fun z=>[(25,.v (.int .i64 z))]) (fun _=>[(1,[.string nm,.slice b n c,.int .i64 key,.bool only])])
     (fun k z h'=>∃i:Nat,aO z i/\k=n-i/\i<=n/\Kp [sp] h1 h'/\XX h' sp/\∀j,j<i->∀y,cols[j]? =some y->dw cols j y=0) n 0 ⟨?_,?_,?_⟩ ⟨0,⟨rfl⟩,by omega,by omega,k2,s2,fun j hj=>(by omega)⟩ ?_
    ·cbv
    ·cbv
    ·cbv
    ·intro k z h' hI;cbv;obtain⟨i,hz,hk,hi,kp,sp',aJ⟩:=hI;refine aL (fun hc=>?_) (fun hc=>?_)
     ·have aG:=hz.lt hc;clear hc;cbv;obtain⟨x,hx⟩:=aE (xs:=cols) (i:=i) (by omega);have q':=q1.mono (Kp.S6 kp R4 (by decide));refine⟨⟨q.bF (by omega),hz.ix aG⟩,?_⟩;cbv;refine q'.load hx hz.eq (fun cs aF=>?_);have aF:cs=[.string x.name,.int .i64 x.kind,.bool x.null]:=aF;subst aF;generalize KT:x.name=xn at *;generalize Hk:x.kind=xk at *;cbv;refine(QI q').mono (fun v h3 hR=>?_);obtain⟨l3,z3,t3,z',rfl,hr,Hg,ht3⟩:=hR;have s3:XX h3 sp:=by
       rcases sp'.out with g| ⟨m,g,mp,hm⟩
       ·exact⟨.inl (l3 _ _ g)⟩
       ·exact⟨.inr ⟨m,l3 _ _ g,mp.kp (l3.kp []) (by simp),hm⟩⟩
      have jG:A .aD .lss z3 z=(cols.take i).any fun y=>decide (y.name=xn):=by rw[bt A,Hg,hz.eq,<-KT];exact Hd hx (by rw[KT];exact hr)
      cbv;refine(Gx s3).mono (fun v h4 hR=>?_);obtain⟨t,rfl,ht4,k4,s4⟩:=hR;have O7:=(kp.trans (l3.kp _)).trans k4;have Ku:Le h h4:=l1.cO (by simpa using Ng) O7;have bad:∀e:Int,dw cols i x=e->e≠0->e=fx ⟨nm,cols,key,only⟩:=fun e he bU=>by
       have h5:=uE hx aJ (by rw[he];exact bU);unfold fx;rw[<-ht,f12];simp only[h5,he];rw[if_neg (by simp),if_neg (by simp),if_pos bU]
      have jZ:dw cols i x=0->∀j,j<i+1->∀y,cols[j]? =some y->dw cols j y=0:=fun e j hj y hy=>by
       rcases Nat.lt_or_ge j i with ji|ji
       ·exact aJ j ji y hy
       ·have:j=i:=by omega
        subst this;rw[hx]at hy;cases hy;exact e
      generalize e1:A .aD .lss z3 z=u1 at *;generalize e2:A .aD .lss xk 1=u2;generalize e3:A .aD .gtr xk 3=u3;have Qg:dw cols i x=if(!t||u1)=true then 12 else if(u2||u3)=true then 3 else 0:=by unfold dw;rw[KT,Hk,<-ht4,<-jG,<-e2,<-e3,bt A,bB A]
      cbv;rw[hA.not];cases t with
      |false=>cbv;exact⟨Ku,12,rfl,bad 12 Qg (by decide)⟩
      |true=>
       cbv;try rw[e1]
       cases u1 with
       |true=>cbv;exact⟨Ku,12,rfl,bad 12 Qg (by decide)⟩
       |false=>
        cbv;rw[e2];cases u2 with
        |true=>cbv;exact⟨Ku,3,rfl,bad 3 Qg (by decide)⟩
        |false=>
         cbv;rw[e3];cases u3 with
         |true=>cbv;exact⟨Ku,3,rfl,bad 3 Qg (by decide)⟩
         |false=>
          cbv;refine⟨n-(i+1),_,by omega,⟨?_,?_,?_⟩,i+1,hz.succ (A:=A) (by omega),rfl,by omega,O7,s4,jZ Qg⟩
          ·cbv
          ·cbv
          ·cbv
     ·have iu:=hz.ge hc;have h0:fT cols=0:=qy fun j hj y hy=>aJ j (by omega) y hy;have Ku:Le h h':=l1.cO (by simpa using Ng) kp;have q':=q1.mono (Kp.S6 kp R4 (by decide));generalize e1:A .aD .lss key 0=u1;generalize e2:A .aD .geq key (A .nat n)=u2;have hs:fx ⟨nm,cols,key,only⟩=if(u1||u2)=true then 1 else if((cols[key.toNat]?).map (·.null)).getD false=true then 13 else 0:=by unfold fx;rw[<-ht,f12];simp only[h0];rw[if_neg (by simp),if_neg (by simp),if_neg (by simp),<-e1,<-e2,bt A,bQ A,hn]
      cbv;rw[e1];cases u1 with
      |true=>cbv;exact⟨Ku,1,rfl,hs.symm⟩
      |false=>
       cbv;rw[e2];cases u2 with
       |true=>cbv;exact⟨Ku,1,rfl,hs.symm⟩
       |false=>
        obtain⟨mD,ni⟩:=A7 A e1 e2;obtain⟨x,hx⟩:=aE (xs:=cols) (i:=key.toNat) (by omega);rw[hx]at hs;cbv;refine⟨⟨q.bF (by omega),mD.ix ni⟩,?_⟩;cbv;refine q'.fF hx mD.eq (by decide) (fun cs aF=>?_);have aF:cs=[.string x.name,.int .i64 x.kind,.bool x.null]:=aF;subst aF;have hs:fx ⟨nm,cols,key,only⟩=if x.null=true then 13 else 0:=hs
        generalize x.null=nl at *;cases nl with
        |true=>cbv;exact⟨Ku,13,rfl,hs.symm⟩
        |false=>cbv;exact⟨Ku,0,rfl,hs.symm⟩
theorem Iu(a b:Int)(h:ad)(c1 c2:Value):Ct 112 [.agg #[.int .i64 a,c1,c2],.int .i64 b] h (fun v h'=>Le h h'/\∃z,v=.int .i64 z/\z=IntKind.i64.wrap (a-b)):=by obtain⟨A,hA⟩:=Ar.ex;refine af A (ar XK.aw XK.aZ) Tryz.func112 rfl (by kernel_rfl) ?_;cbv;exact⟨Le.refl _,_,rfl,by rw[hA.bu];rfl⟩
theorem Vp{xs:List (dr×Bool)}{h:ad}{b:Option Addr}{len cap:Nat}(q:Sl 55 bO h (.slice b len cap) xs)(j9:Int):
 Ct 111 [.slice b len cap,.int .i64 j9,.func (.func 112) #[] #[]] h (fun v h'=>Le h h'/\∃(z:Int) (t:Bool),v=.tuple #[.int .i64 z,.bool t]/\EG (xs.map (fun x:dr×Bool=>IntKind.i64.wrap (x.1.s-j9))) z t):=by
 obtain⟨A,hA⟩:=Ar.ex;have hlen:=q.len;obtain⟨ke,jt⟩:=q.bound;have rZ:(xs.map (fun x:dr×Bool=>IntKind.i64.wrap (x.1.s-j9))).length=len:=by simp[hlen]
 generalize hl:xs.map (fun x:dr×Bool=>IntKind.i64.wrap (x.1.s-j9))=l at rZ;have lu:∀(i:Nat) x,xs[i]? =some x->l[i]? =some ((fun x:dr×Bool=>IntKind.i64.wrap (x.1.s-j9)) x):=fun i x hx=>by rw[<-hl];simp[hx]
 refine af A (ar XM.aw XM.aZ) Tryz.func111 rfl (by kernel_rfl) ?_;cbv;refine aX.go (G:=Int×Int) (fun g=>[(9,.v (.int .i64 g.1)),(10,.v (.int .i64 g.2))]) (fun _=>[])
  (fun n g h'=>∃i j:Nat,aO g.1 i/\aO g.2 j/\n=j-i/\i<=j/\j<=len/\Le h h'/\kX l 0 len=kX l i j) len (0,A .nat len) ⟨?_,?_,?_⟩ ⟨0,len,⟨rfl⟩,⟨by rw[hA.nat];rfl⟩,by omega,by omega,by omega,Le.refl _,rfl⟩ ?_
 ·cbv
 ·cbv
 ·cbv
 ·intro n g h' hI;cbv;obtain⟨i,j,hi,hj,hn,Ns,re,hle,NC⟩:=hI;refine aL (fun hc=>?_) (fun hc=>?_)
  ·rw[hi.gK (A:=A) hj,decide_eq_true_eq]at hc;cbv;refine⟨by decide,?_⟩;cbv;have hm:=hi.mid (A:=A) hj (by omega) (by omega);obtain⟨x,hx⟩:=aE (xs:=xs) (i:=(i+j) / 2) (by omega);refine⟨⟨q.bF (by omega),hm.ix (by omega)⟩,?_⟩;cbv;refine(q.mono (hle.t _)).load hx hm.eq (fun cs aF=>?_);obtain⟨b1,n1,k1,b2,n2,k2,rfl,q1,q2,-⟩:=aF;cbv;refine(Iu x.1.s j9 _ _ _).mono (fun v h2 hR=>?_);obtain⟨cB,z,rfl,hz⟩:=hR;cbv;have hg:l.getD ((i+j) / 2) 0=z:=by rw[List.getD_eq_getElem?_getD,lu _ _ hx,hz];rfl
   have gZ:=NC;rw[kX.eq_1 l i j,if_pos hc,hg]at gZ;refine aL (fun iC=>?_) (fun iC=>?_)
   ·rw[hA.aD]at iC;have zG:z<0:=of_decide_eq_true iC;rw[if_pos zG]at gZ;clear iC zG;cbv;refine⟨j-((i+j) / 2+1),(_,g.2),by omega,⟨?_,?_,?_⟩,(i+j) / 2+1,j,hm.succ (A:=A) (by omega),hj,rfl,by omega,re,hle.trans cB,gZ⟩
    ·cbv
    ·cbv
    ·cbv
   ·rw[hA.aD]at iC;have zG:¬z<0:=of_decide_eq_false iC;rw[if_neg zG]at gZ;clear iC zG;cbv;refine⟨(i+j) / 2-i,(g.1,A .conv .i64 (A .bu .shr .u64 (A .conv .u64 (A .bu .add .i64 g.1 g.2)) 1)),by omega,⟨?_,?_,?_⟩,i,(i+j) / 2,hi,hm,rfl,by omega,by omega,hle.trans cB,gZ⟩
    ·cbv
    ·cbv
    ·cbv
  ·rw[hi.gK (A:=A) hj,decide_eq_false_iff_not]at hc;cbv;have gZ:=NC;rw[kX.eq_1 l i j,if_neg hc]at gZ;have gM:=hi.gK (A:=A) (w:=A .nat len) (j:=len) ⟨by rw[hA.nat];rfl⟩;refine aL (fun iC=>?_) (fun iC=>?_)
   ·rw[iC];rw[gM,decide_eq_true_eq]at iC;cbv;obtain⟨x,hx⟩:=aE (xs:=xs) (i:=i) (by omega);refine⟨⟨q.bF (by omega),hi.ix (by omega)⟩,?_⟩;cbv;refine(q.mono (hle.t _)).load hx hi.eq (fun cs aF=>?_);obtain⟨b1,n1,k1,b2,n2,k2,rfl,q1,q2,-⟩:=aF;cbv;refine(Iu x.1.s j9 _ _ _).mono (fun v h2 hR=>?_);obtain⟨cB,z,rfl,hz⟩:=hR;cbv;refine⟨hle.trans cB,_,_,rfl,⟨i,hi,?_,?_⟩⟩
    ·rw[rZ];exact gZ.symm
    ·rw[hA.aD];have hg:l.getD i 0=z:=by rw[List.getD_eq_getElem?_getD,lu _ _ hx,hz];rfl
     rw[hg,rZ];simp[aD,iC];rfl
   ·rw[iC];rw[gM,decide_eq_false_iff_not]at iC;cbv;refine⟨hle,_,_,rfl,⟨i,hi,?_,?_⟩⟩
    ·rw[rZ];exact gZ.symm
    ·rw[rZ];simp[iC]
theorem AA{h:ad}{c tb wb ct cw:Nat}{T:List cA}{W:List (dr×Bool)}{H Wt:List bK}{e:Int}(q:iG h c tb wb ct cw T W H Wt e)(j9:Int):
 Ct 49 [.pointer (some ⟨c,0,none⟩),.int .i64 j9] h (fun v h'=>Le h h'/\∃z t,v=.tuple #[.int .i64 z,.bool t]/\EG (W.map (fun x=>IntKind.i64.wrap (x.1.s-j9))) z t):=by
 obtain⟨A,hA⟩:=Ar.ex;obtain⟨n1,n2,b3,n3,c3,b4,n4,c4,o,g0,g1,g2,g3,g4,g5,g6,g7⟩:=q.out;refine af A (ar T49.aw T49.aZ) Tryz.func49 rfl (by kernel_rfl) ?_;cbv;rw[aj A];rw[aj A];refine ay g0 rfl rfl ?_;cbv;refine(Vp (g5.sl g4) j9).mono (fun v h2 hR=>?_);obtain⟨l2,z,t,rfl,hz⟩:=hR;cbv;exact⟨l2,z,t,rfl,hz⟩
theorem wZ{h:ad}{c tb wb ct cw:Nat}{T:List cA}{W:List (dr×Bool)}{H Wt:List bK}{e:Int}(q:iG h c tb wb ct cw T W H Wt e)(name:ByteArray):
 Ct 105 [.pointer (some ⟨c,0,none⟩),.string name] h (fun v h'=>Le h h'/\∃z t,v=.tuple #[.int .i64 z,.bool t]/\EG (T.map (fun x=>eG x.S.name name)) z t):=by
 obtain⟨A,hA⟩:=Ar.ex;obtain⟨n1,n2,b3,n3,c3,b4,n4,c4,o,g0,g1,g2,g3,g4,g5,g6,g7⟩:=q.out;refine af A (ar XS.aw XS.aZ) Tryz.func105 rfl (by kernel_rfl) ?_;cbv;rw[aj A];rw[aj A];refine ay g0 rfl rfl ?_;cbv;refine(bs98 (g3.sl g2) name).mono (fun v h2 hR=>?_);obtain⟨l2,z,t,rfl,hz⟩:=hR;cbv;exact⟨l2,z,t,rfl,hz⟩
theorem GZ{xs:List cA}{x:cA}{h:ad}{b vb:Option Addr}{n cv:Nat}(q:Sl 51 cJ h (.slice b n n) xs)(qv:Sl 51 cJ h (.slice vb 1 cv) [x]){z:Int}{i:Nat}(hz:aO z i)(hi:i<=n)(hn:n<=2^38):
 Ct 106 [.slice b n n,.int .i64 z,.slice vb 1 cv] h (fun v h'=>Le h h'/\∃nb c m,v=.slice (some ⟨nb,0,none⟩) m c/\h nb=none/\m=n+1/\dn 51 cJ h' nb c (xs.take i++[x]++xs.drop i)):=by
 obtain⟨A,hA⟩:=Ar.ex;have hlen:=q.len;have pN:aO (A .nat n) n:=⟨by rw[hA.nat];rfl⟩;have EY:aO (A .nat 1) 1:=⟨by rw[hA.nat];rfl⟩;have e1:A .aD .eql (A .nat 1) 0=false:=by rw[av A,hA.nat];rfl
 have e2:A .aD .eql z (A .nat n)=decide (i=n):=by rw[av A,hA.nat];have:=hz.eq;rw[decide_eq_decide];simp only[Int.ofNat_eq_natCast];omega
 have e3:A .aD .gtr (A .bu .add .i64 (A .nat n) (A .nat 1)) (A .nat n)=true:=by rw[bB A,decide_eq_true_eq,hA.bu,hA.nat];simp only[bu,Int.ofNat_eq_natCast];rw[IntWalk.i64_in _ (by omega)];omega
 have hw:=(pN.add (A:=A) EY (by omega)).sub (A:=A) hz (by omega) (by omega);have cT:=nz hw (bytes:=80) (by omega) (by decide);have nf:0<=z/\z<=(n:Int):=by have:=hz.eq;omega
 refine af A (ar XR.aw XR.aZ) Tryz.func106 rfl (by kernel_rfl) ?_;cbv;refine⟨nf,?_⟩;cbv;rw[e1];cbv;rw[e2];by_cases fR:i=n
 ·rw[decide_eq_true fR];cbv;refine kJ q qv (by omega) rfl (by decide) (by omega) (fun nb c h1 eJ l1 hc ho=>?_);cbv;refine⟨l1,nb,c,_,rfl,eJ,rfl,?_⟩;rw[fR,hlen,List.take_length,List.drop_length,List.append_nil];exact ho
 ·rw[decide_eq_false fR];cbv;rw[e3];cbv;refine⟨nf,?_⟩;cbv;refine⟨cT,?_⟩;cbv;rw[dI (A:=A) hz];rw[dI (A:=A) hw];refine je (q.BU (A:=A) hi) (by omega) rfl (by decide) (by omega) rfl rfl (fun nb c h1 eJ l1 hc ho=>?_);obtain⟨m,hm⟩:∃m,m=n+1:=⟨_,rfl⟩;rw[show i+(n+1-i)=m by omega];have hmN:aO (A .nat m) m:=⟨by rw[hA.nat];rfl⟩;have hcN:aO (A .nat c) c:=⟨by rw[hA.nat];rfl⟩;have hzm:0<=z/\z<=(m:Int):=by have:=hz.eq;omega
  have mC:=hz.add (A:=A) EY (by omega);have Po:0<=A .bu .add .i64 z (A .nat 1)/\A .bu .add .i64 z (A .nat 1)<=(m:Int):=by have:=mC.eq;omega
  have aG:(xs.take i).length=i:=by rw[List.length_take];omega
  cbv;refine⟨hzm,?_⟩;cbv;rw[pZ (A:=A) hz (by omega),dZ (A:=A) hz];have qv1:=qv.mono (l1.t _);refine qq ho (by decide) (i:=i) (by omega) qv1 (by omega) (by omega) (by omega) rfl (fun h2 k2 t2 o2=>?_);rw[List.take_take,Nat.min_self,List.drop_eq_nil_of_le (by omega),List.append_nil]at o2;have l2:Le h h2:=l1.cO (by simpa using eJ) k2;have q2:=q.mono (l2.t _);generalize ((min 1 (m-i):Nat):Int)=w1;cbv;refine⟨Po,?_⟩;cbv;refine⟨nf,?_⟩;cbv;rw[pZ (A:=A) mC (by omega),dZ (A:=A) mC,dZ (A:=A) hz,dZ (A:=A) hz];refine qq o2 (by decide) (i:=i+1) (by simp;omega) (q2.rK (A:=A) hz hi rfl rfl) (by omega) (by omega) (by omega) rfl (fun h3 k3 t3 o3=>?_);generalize ((min (n-i) (m-(i+1)):Nat):Int)=w2;cbv;refine⟨l2.cO (by simpa using eJ) k3,nb,c,m,rfl,eJ,hm,?_⟩;have e5:(List.take i xs++[x]).length=i+1:=by simp;omega
  have e6:List.take (i+1) (List.take i xs++[x])=List.take i xs++[x]:=List.take_of_length_le (by omega);have e7:List.drop (i+1+(n-i)) (List.take i xs++[x])=[]:=List.drop_eq_nil_of_le (by omega);rw[e6,e7,List.append_nil]at o3;exact o3
theorem GY{xs:List (dr×Bool)}{x:dr×Bool}{h:ad}{b vb:Option Addr}{n cv:Nat}(q:Sl 55 bO h (.slice b n n) xs)(qv:Sl 55 bO h (.slice vb 1 cv) [x]){z:Int}{i:Nat}(hz:aO z i)(hi:i<=n)(hn:n<=2^38):
 Ct 51 [.slice b n n,.int .i64 z,.slice vb 1 cv] h (fun v h'=>Le h h'/\∃nb c m,v=.slice (some ⟨nb,0,none⟩) m c/\h nb=none/\m=n+1/\dn 55 bO h' nb c (xs.take i++[x]++xs.drop i)):=by
 obtain⟨A,hA⟩:=Ar.ex;have hlen:=q.len;have pN:aO (A .nat n) n:=⟨by rw[hA.nat];rfl⟩;have EY:aO (A .nat 1) 1:=⟨by rw[hA.nat];rfl⟩;have e1:A .aD .eql (A .nat 1) 0=false:=by rw[av A,hA.nat];rfl
 have e2:A .aD .eql z (A .nat n)=decide (i=n):=by rw[av A,hA.nat];have:=hz.eq;rw[decide_eq_decide];simp only[Int.ofNat_eq_natCast];omega
 have e3:A .aD .gtr (A .bu .add .i64 (A .nat n) (A .nat 1)) (A .nat n)=true:=by rw[bB A,decide_eq_true_eq,hA.bu,hA.nat];simp only[bu,Int.ofNat_eq_natCast];rw[IntWalk.i64_in _ (by omega)];omega
 have hw:=(pN.add (A:=A) EY (by omega)).sub (A:=A) hz (by omega) (by omega);have cT:=nz hw (bytes:=56) (by omega) (by decide);have nf:0<=z/\z<=(n:Int):=by have:=hz.eq;omega
 refine af A (ar T51.aw T51.aZ) Tryz.func51 rfl (by kernel_rfl) ?_;cbv;refine⟨nf,?_⟩;cbv;rw[e1];cbv;rw[e2];by_cases fR:i=n
 ·rw[decide_eq_true fR];cbv;refine kJ q qv (by omega) rfl (by decide) (by omega) (fun nb c h1 eJ l1 hc ho=>?_);cbv;refine⟨l1,nb,c,_,rfl,eJ,rfl,?_⟩;rw[fR,hlen,List.take_length,List.drop_length,List.append_nil];exact ho
 ·rw[decide_eq_false fR];cbv;rw[e3];cbv;refine⟨nf,?_⟩;cbv;refine⟨cT,?_⟩;cbv;rw[dI (A:=A) hz];rw[dI (A:=A) hw];refine je (q.BU (A:=A) hi) (by omega) rfl (by decide) (by omega) rfl rfl (fun nb c h1 eJ l1 hc ho=>?_);obtain⟨m,hm⟩:∃m,m=n+1:=⟨_,rfl⟩;rw[show i+(n+1-i)=m by omega];have hmN:aO (A .nat m) m:=⟨by rw[hA.nat];rfl⟩;have hcN:aO (A .nat c) c:=⟨by rw[hA.nat];rfl⟩;have hzm:0<=z/\z<=(m:Int):=by have:=hz.eq;omega
  have mC:=hz.add (A:=A) EY (by omega);have Po:0<=A .bu .add .i64 z (A .nat 1)/\A .bu .add .i64 z (A .nat 1)<=(m:Int):=by have:=mC.eq;omega
  have aG:(xs.take i).length=i:=by rw[List.length_take];omega
  cbv;refine⟨hzm,?_⟩;cbv;rw[pZ (A:=A) hz (by omega),dZ (A:=A) hz];have qv1:=qv.mono (l1.t _);refine qq ho (by decide) (i:=i) (by omega) qv1 (by omega) (by omega) (by omega) rfl (fun h2 k2 t2 o2=>?_);rw[List.take_take,Nat.min_self,List.drop_eq_nil_of_le (by omega),List.append_nil]at o2;have l2:Le h h2:=l1.cO (by simpa using eJ) k2;have q2:=q.mono (l2.t _);generalize ((min 1 (m-i):Nat):Int)=w1;cbv;refine⟨Po,?_⟩;cbv;refine⟨nf,?_⟩;cbv;rw[pZ (A:=A) mC (by omega),dZ (A:=A) mC,dZ (A:=A) hz,dZ (A:=A) hz];refine qq o2 (by decide) (i:=i+1) (by simp;omega) (q2.rK (A:=A) hz hi rfl rfl) (by omega) (by omega) (by omega) rfl (fun h3 k3 t3 o3=>?_);generalize ((min (n-i) (m-(i+1)):Nat):Int)=w2;cbv;refine⟨l2.cO (by simpa using eJ) k3,nb,c,m,rfl,eJ,hm,?_⟩;have e5:(List.take i xs++[x]).length=i+1:=by simp;omega
  have e6:List.take (i+1) (List.take i xs++[x])=List.take i xs++[x]:=List.take_of_length_le (by omega);have e7:List.drop (i+1+(n-i)) (List.take i xs++[x])=[]:=List.drop_eq_nil_of_le (by omega);rw[e6,e7,List.append_nil]at o3;exact o3
theorem gA.form{h:ad}{v:Value}{d:DB}(q:gA h v d):∃b1 n1 c1 b2 n2 c2 b3 n3 c3 b4 n4 c4,v=.agg #[.slice b1 n1 c1,.slice b2 n2 c2,.slice b3 n3 c3,.slice b4 n4 c4]:=by obtain⟨b1,n1,c1,b2,n2,c2,b3,n3,c3,b4,n4,c4,ws,rfl,-⟩:=q.out;exact⟨_,_,_,_,_,_,_,_,_,_,_,_,rfl⟩
theorem gA.mono{h h':ad}{v:Value}{d:DB}(q:gA h v d)(l:Le h h'):gA h' v d:=by obtain⟨b1,n1,c1,b2,n2,c2,b3,n3,c3,b4,n4,c4,ws,rfl,q1,q2,q3,q4,q5⟩:=q.out;exact⟨_,_,_,_,_,_,_,_,_,_,_,_,ws,rfl,q1.mono (l.t _),q2.mono (l.t _),q3.mono (l.t _),q4.mono (l.t _),q5⟩
theorem kQ{d:DB}{h:ad}{v:Value}(q:gA h v d):Ct 50 [v] h (fun v' h'=>Le h h'/\gA h' v' d):=by refine(MY q).mono (fun v h1 hR=>?_);obtain⟨l1,tb,wb,n1,n2,b3,n3,c3,b4,n4,c4,W,qG,tQ,rfl,g1,g2,g3,g4,g5,g6,g7⟩:=hR;exact⟨l1,⟨_,_,_,_,_,_,_,_,_,_,_,_,W,rfl,g2.sl g1,g4.sl g3,g5,g6,by rw[g7,List.map_map];simp[Function.comp_def]⟩⟩
def mQ(d:DB)(w:List dr):DB:={ d with aq:=w }
def gj(d:DB)(j9:Int)(i:Nat)(is:Bool):DB×Int:=
 if(decide (j9<0)||decide (j9>=8))=true then(d,1)
 else if is=true then(d,7)
 else(mQ d (d.aq.take i++[⟨j9,[],[]⟩]++d.aq.drop i),0)
theorem Mh{d:DB}{h:ad}{v:Value}(q:gA h v d)(j9:Int)(hlen:d.aq.length<=2^37):
 Ct 25 [v,.int .i64 j9] h (fun v' h'=>∃v1 e z i is,v'=.tuple #[v1,.int .i64 e]/\Le h h'/\gA h' v1 (gj d j9 i is).1/\e=(gj d j9 i is).2/\aO z i/\EG (d.aq.map fun x=>IntKind.i64.wrap (x.s-j9)) z is):=by
 obtain⟨A,hA⟩:=Ar.ex;obtain⟨b1,n1,c1,b2,n2,c2,b3,n3,c3,b4,n4,c4,rfl⟩:=q.form;generalize e1:A .aD .lss j9 0=u1;generalize e2:A .aD .geq j9 8=u2;have vq:(decide (j9<0)||decide (j9>=8))=(u1||u2):=by rw[<-e1,<-e2,bt A,bQ A]
 refine af A (ar T25.aw T25.aZ) Tryz.func25 rfl (by kernel_rfl) ?_;cbv;refine(yc q).mono (fun v h1 hR=>?_);obtain⟨l1,c,tb,wb,ct,cw,W,rfl,hc,qG,tQ,rI,pQ,hW,NO,H5,cs⟩:=hR;cbv;refine(AA cs j9).mono (fun v h2 hR=>?_);obtain⟨l2,z,t,rfl,hb⟩:=hR;have oC:EG (d.aq.map fun x=>IntKind.i64.wrap (x.s-j9)) z t:=by rw[hW,List.map_map]at hb;exact hb
 have jt:=oC;obtain⟨i,hz,hi,ht⟩:=jt.out;have fO:=l1.trans l2;have q2:=q.mono fO;have arg:(u1||u2)=true->gj d j9 i t=(d,1):=fun e=>by unfold gj;rw[vq,e];rfl
 have is7:(u1||u2)=false->t=true->gj d j9 i t=(d,7):=fun e et=>by unfold gj;rw[vq,e,et];rfl
 have new:(u1||u2)=false->t=false->gj d j9 i t=(mQ d (d.aq.take i++[⟨j9,[],[]⟩]++d.aq.drop i),0):=fun e et=>by unfold gj;rw[vq,e,et];rfl
 have fin:∀(e:Int) (v:Value) (h3:ad),Le h h3->gj d j9 i t=(d,e)->gA h3 v d->∃v1 e1 z i is,Value.tuple #[v,.int .i64 e]=.tuple #[v1,.int .i64 e1]/\Le h h3/\gA h3 v1 (gj d j9 i is).1/\e1=(gj d j9 i is).2/\aO z i/\EG (d.aq.map fun x=>IntKind.i64.wrap (x.s-j9)) z is:=
  fun e v h3 l3 hr hd=>⟨v,e,z,i,t,rfl,l3,by rw[hr];exact hd,by rw[hr],hz,oC⟩
 cbv;rw[e1];cases u1 with
 |true=>cbv;refine(kQ q2).mono (fun v h3 hR=>?_);obtain⟨l3,hd⟩:=hR;obtain⟨b1,n1,c1,b2,n2,c2,b3,n3,c3,b4,n4,c4,rfl⟩:=hd.form;cbv;exact fin 1 _ _ (fO.trans l3) (arg rfl) hd
 |false=>
  cbv;rw[e2];cases u2 with
  |true=>cbv;refine(kQ q2).mono (fun v h3 hR=>?_);obtain⟨l3,hd⟩:=hR;obtain⟨b1,n1,c1,b2,n2,c2,b3,n3,c3,b4,n4,c4,rfl⟩:=hd.form;cbv;exact fin 1 _ _ (fO.trans l3) (arg rfl) hd
  |false=>
   cases t with
   |true=>cbv;refine(kQ q2).mono (fun v h3 hR=>?_);obtain⟨l3,hd⟩:=hR;obtain⟨b1,n1,c1,b2,n2,c2,b3,n3,c3,b4,n4,c4,rfl⟩:=hd.form;cbv;exact fin 7 _ _ (fO.trans l3) (is7 rfl rfl) hd
   |false=>
    have E2:=cs.mono l2;obtain⟨m1,m2,x3,m3,k3,x4,m4,k4,o,g0,g1,g2,g3,g4,g5,g6,g7⟩:=E2.out;have jG:i<=W.length:=by have:=x9 (d.aq.map fun x=>IntKind.i64.wrap (x.s-j9)) 0 (d.aq.map fun x=>IntKind.i64.wrap (x.s-j9)).length (Nat.zero_le _);rw[hi,hW];simpa using this.1
    cbv;rw[aj A];rw[aj A];refine ay g0 rfl rfl ?_;cbv;intro nb h3 eJ e3;have l3:Le h2 h3:=by rw[e3];exact Le.set eJ
    have gx:=(congrFun e3 nb).trans ah;have sx:Sl 55 bO h3 (.slice (some ⟨nb,0,none⟩) 1 1) [((⟨j9,[],[]⟩:dr),true)]:=by
     refine Sl.fresh (xs:=[((⟨j9,[],[]⟩:dr),true)]) gx ⟨by simp[bO],fun j y hj=>?_⟩ (by simp) (by simp);have zB:j=0:=by have:=(List.getElem?_eq_some_iff.1 hj).1;simp at this;exact this
     subst zB;simp at hj;subst hj;exact⟨none,0,0,none,0,0,rfl,Sl.nil,Sl.nil,fun _=>rfl⟩
    have em:m2=cw:=by rw[g4,H5]
    subst em;have hil2:i<=m2:=by omega
    have hm38:m2<=2^38:=by rw[H5,hW,List.length_map];omega
    cbv;refine(GY ((g5.sl g4).mono (l3.t _)) sx hz hil2 hm38).mono (fun v h4 hR=>?_);obtain⟨l4,X4,cw2,m5,rfl,hwb2,YX,ow⟩:=hR;have Qw:=l4 _ _ (l3 _ _ g0);cbv;rw[aj A];rw[aj A];refine kP Qw (by simp) (fun h5 e5=>?_);have gc5:=(congrFun e5 c).trans ah;have k5:Kp [c] h4 h5:=by rw[e5];exact Kp.set (by simp)
    have t5:∀tys,128∉tys->cG tys h4 h5:=fun tys hn=>by rw[e5];exact cG.set Qw hn
    have wa:Le h h5:=((fO.trans l3).trans l4).cO (by simpa using hc) k5;have D8:gA h5 (.agg #[.slice (some ⟨tb,0,none⟩) m1 ct,.slice (some ⟨X4,0,none⟩) m5 cw2,.slice x3 m3 k3,.slice x4 m4 k4]) (mQ d (d.aq.take i++[⟨j9,[],[]⟩]++d.aq.drop i)):=by
     have rC:=l3.trans l4;refine⟨_,_,_,_,_,_,_,_,_,_,_,_,_,rfl,((g3.sl g2).mono (rC.t _)).mono (t5 _ (by decide)),(ow.sl ?_).mono (t5 _ (by decide)),(g6.mono (rC.t _)).mono (t5 _ (by decide)),(g7.mono (rC.t _)).mono (t5 _ (by decide)),?_⟩
     ·rw[YX];simp;omega
     ·rw[hW];simp[mQ,List.map_take,List.map_drop,Function.comp_def]
    cbv;rw[aj A];refine ay gc5 rfl rfl ?_;cbv;refine(kQ D8).mono (fun v h6 hR=>?_);obtain⟨l6,hd⟩:=hR;have js:=new rfl rfl;have jY:=hd;generalize mQ d (d.aq.take i++[⟨j9,[],[]⟩]++d.aq.drop i)=d' at *;obtain⟨b1,n1,c1,b2,n2,c2,b3,n3,c3,b4,n4,c4,rfl⟩:=hd.form;cbv;exact⟨_,0,z,i,false,rfl,wa.trans l6,by rw[js];exact jY,by rw[js],hz,oC⟩
def kj(d:DB)(t:List cA):DB:={ d with aB:=t }
def ij(d:DB)(s:Ao)(is:Bool):Int:=
 if fx s≠0 then fx s
 else if is=true then 7
 else if decide (d.aB.length>=8)=true then 4
 else if decide (d.aq.length>0)=true then 18 else 0
def iX(d:DB)(s:Ao)(i:Nat)(is:Bool):DB×Int:=
 if ij d s is=0 then(kj d (d.aB.take i++[⟨s,[]⟩]++d.aB.drop i),0)else(d,ij d s is)
theorem Ip{d:DB}{h:ad}{v:Value}(q:gA h v d){nm:ByteArray}{cols:List bS}{key:Int}{only:Bool}{sb:Option Addr}{sn sc:Nat}(qs:Sl 165 bp h (.slice sb sn sc) cols)(hlen:d.aB.length<=2^37)(hlw:d.aq.length<=2^37):
 Ct 45 [v,.agg #[.string nm,.slice sb sn sc,.int .i64 key,.bool only]] h (fun v' h'=>∃v1 e z i is,v'=.tuple #[v1,.int .i64 e]/\Le h h'/\gA h' v1 (iX d ⟨nm,cols,key,only⟩ i is).1/\e=(iX d ⟨nm,cols,key,only⟩ i is).2/\aO z i/\EG (d.aB.map fun x=>eG x.S.name nm) z is):=by
 obtain⟨A,hA⟩:=Ar.ex;have q0:=q;obtain⟨b1,n1,c1,b2,n2,c2,b3,n3,c3,b4,n4,c4,ws,rfl,q1,q2,-,-,qw⟩:=q0.out;refine af A (ar T45.aw T45.aZ) Tryz.func45 rfl (by kernel_rfl) ?_;cbv;refine(yc q).mono (fun v h1 hR=>?_);obtain⟨l1,c,tb,wb,ct,cw,W,rfl,hc,qG,tQ,rI,pQ,hW,NO,H5,cs⟩:=hR;cbv;refine(CR (key:=key) (only:=only) (nm:=nm) (qs.mono (l1.t _))).mono (fun v h2 hR=>?_);obtain⟨l2,e0,rfl,kZ⟩:=hR;cbv;refine(xV (cs.mono l2) rI pQ).mono (fun v h3 hR=>?_);obtain⟨rfl,k3,Im⟩:=hR;have EK:Le h h3:=(l1.trans l2).cO (by simpa using hc) k3;cbv;refine(wZ Im nm).mono (fun v h4 hR=>?_);obtain⟨l4,z,t,rfl,hb⟩:=hR;rw[if_pos rfl]at Im;obtain⟨i,hz,hi,ht⟩:=hb.out;have bad:∀(E:Int) (v:Value) {hh:ad},Le h hh->E≠0->ij d ⟨nm,cols,key,only⟩ t=E->gA hh v d->∃v1 e1 z i is,Value.tuple #[v,.int .i64 E]=.tuple #[v1,.int .i64 e1]/\Le h hh/\gA hh v1 (iX d ⟨nm,cols,key,only⟩ i is).1/\e1=(iX d ⟨nm,cols,key,only⟩ i is).2/\aO z i/\EG (d.aB.map fun x=>eG x.S.name nm) z is:=fun E v hh l hE hc hd=>by
  have:iX d ⟨nm,cols,key,only⟩ i t=(d,E):=by unfold iX;rw[hc,if_neg hE]
  exact⟨v,E,z,i,t,rfl,l,by rw[this];exact hd,by rw[this],hz,hb⟩
 cases t with
 |true=>
  cbv;refine(xV (Im.mono l4) rI pQ).mono (fun v h5 hR=>?_);obtain⟨rfl,k5,CM⟩:=hR;have wa:Le h h5:=(EK.trans l4).cO (by simpa using hc) k5;obtain⟨E,hE⟩:∃E,E=(if e0=0 then 7 else e0):=⟨_,rfl⟩;rw[<-hE]at CM;have NA:ij d ⟨nm,cols,key,only⟩ true=E:=by unfold ij;rw[hE,<-kZ];by_cases h0:e0=0<;>simp[h0]
  cbv;obtain⟨m1,m2,x3,m3,k3,x4,m4,k4,o,g0,go,g2,g3,g4,g5,g6,g7⟩:=CM.out;generalize ez:A .aD .neq E 0=u;rw[aC A]at ez;rw[aj A];refine ay g0 rfl rfl ?_;cbv;rw[aC A,ez];cases u with
  |true=>cbv;rw[aj A];refine ay g0 rfl rfl ?_;cbv;refine(kQ (q.mono wa)).mono (fun v h6 hR=>?_);obtain⟨l6,hd⟩:=hR;have jY:=hd;obtain⟨b1,n1,c1,b2,n2,c2,b3,n3,c3,b4,n4,c4,rfl⟩:=hd.form;cbv;refine ay (l6 _ _ g0) rfl rfl ?_;cbv;refine⟨⟨_,rfl,rfl⟩,?_⟩;cbv;refine ay (l6 _ _ g0) rfl rfl ?_;cbv;refine⟨⟨_,rfl,rfl⟩,?_⟩;cbv;exact bad _ _ (wa.trans l6) (of_decide_eq_true ez) NA jY
  |false=>exact absurd (of_decide_eq_false ez) (by rw[hE];by_cases h0:e0=0<;>simp[h0])
 |false=>
  generalize eg:A .aD .geq (A .nat n1) 8=ug;generalize ew:A .aD .gtr (A .nat n2) 0=uw;have hg:ug=decide (d.aB.length>=8):=by rw[<-eg,bQ A,hA.nat,q1.len,decide_eq_decide];simp only[Int.ofNat_eq_natCast];omega
  have hw:uw=decide (d.aq.length>0):=by
   rw[<-ew,bB A,hA.nat,q2.len,decide_eq_decide];simp only[Int.ofNat_eq_natCast];have:ws.length=d.aq.length:=by rw[<-qw,List.length_map]
   omega
  cbv;rw[eg];cases ug with
  |true=>
   cbv;refine(xV (Im.mono l4) rI pQ).mono (fun v h5 hR=>?_);obtain⟨rfl,k5,CM⟩:=hR;have wa:Le h h5:=(EK.trans l4).cO (by simpa using hc) k5;obtain⟨E,hE⟩:∃E,E=(if e0=0 then 4 else e0):=⟨_,rfl⟩;rw[<-hE]at CM;have NA:ij d ⟨nm,cols,key,only⟩ false=E:=by unfold ij;rw[hE,<-kZ,<-hg];by_cases h0:e0=0<;>simp[h0]
   cbv;obtain⟨m1,m2,x3,m3,k3,x4,m4,k4,o,g0,go,g2,g3,g4,g5,g6,g7⟩:=CM.out;generalize ez:A .aD .neq E 0=u;rw[aC A]at ez;rw[aj A];refine ay g0 rfl rfl ?_;cbv;rw[aC A,ez];cases u with
   |true=>cbv;rw[aj A];refine ay g0 rfl rfl ?_;cbv;refine(kQ (q.mono wa)).mono (fun v h6 hR=>?_);obtain⟨l6,hd⟩:=hR;have jY:=hd;obtain⟨b1,n1,c1,b2,n2,c2,b3,n3,c3,b4,n4,c4,rfl⟩:=hd.form;cbv;refine ay (l6 _ _ g0) rfl rfl ?_;cbv;refine⟨⟨_,rfl,rfl⟩,?_⟩;cbv;refine ay (l6 _ _ g0) rfl rfl ?_;cbv;refine⟨⟨_,rfl,rfl⟩,?_⟩;cbv;exact bad _ _ (wa.trans l6) (of_decide_eq_true ez) NA jY
   |false=>exact absurd (of_decide_eq_false ez) (by rw[hE];by_cases h0:e0=0<;>simp[h0])
  |false=>
   cbv;rw[ew];cases uw with
   |true=>
    cbv;refine(xV (Im.mono l4) rI pQ).mono (fun v h5 hR=>?_);obtain⟨rfl,k5,CM⟩:=hR;have wa:Le h h5:=(EK.trans l4).cO (by simpa using hc) k5;obtain⟨E,hE⟩:∃E,E=(if e0=0 then 18 else e0):=⟨_,rfl⟩;rw[<-hE]at CM;have NA:ij d ⟨nm,cols,key,only⟩ false=E:=by unfold ij;rw[hE,<-kZ,<-hg,<-hw];by_cases h0:e0=0<;>simp[h0]
    cbv;obtain⟨m1,m2,x3,m3,k3,x4,m4,k4,o,g0,go,g2,g3,g4,g5,g6,g7⟩:=CM.out;generalize ez:A .aD .neq E 0=u;rw[aC A]at ez;rw[aj A];refine ay g0 rfl rfl ?_;cbv;rw[aC A,ez];cases u with
    |true=>cbv;rw[aj A];refine ay g0 rfl rfl ?_;cbv;refine(kQ (q.mono wa)).mono (fun v h6 hR=>?_);obtain⟨l6,hd⟩:=hR;have jY:=hd;obtain⟨b1,n1,c1,b2,n2,c2,b3,n3,c3,b4,n4,c4,rfl⟩:=hd.form;cbv;refine ay (l6 _ _ g0) rfl rfl ?_;cbv;refine⟨⟨_,rfl,rfl⟩,?_⟩;cbv;refine ay (l6 _ _ g0) rfl rfl ?_;cbv;refine⟨⟨_,rfl,rfl⟩,?_⟩;cbv;exact bad _ _ (wa.trans l6) (of_decide_eq_true ez) NA jY
    |false=>exact absurd (of_decide_eq_false ez) (by rw[hE];by_cases h0:e0=0<;>simp[h0])
   |false=>
    have CM:=Im.mono l4;have wa:Le h h4:=EK.trans l4;obtain⟨E,hE⟩:∃E,E=e0:=⟨_,rfl⟩;rw[<-hE]at CM;have NA:ij d ⟨nm,cols,key,only⟩ false=E:=by unfold ij;rw[hE,<-kZ,<-hg,<-hw];by_cases h0:e0=0<;>simp[h0]
    cbv;obtain⟨m1,m2,x3,m3,k3,x4,m4,k4,o,g0,go,g2,g3,g4,g5,g6,g7⟩:=CM.out;generalize ez:A .aD .neq E 0=u;rw[aC A]at ez;rw[aj A];refine ay g0 rfl rfl ?_;cbv;rw[aC A,ez];cases u with
    |true=>cbv;rw[aj A];refine ay g0 rfl rfl ?_;cbv;refine(kQ (q.mono wa)).mono (fun v h6 hR=>?_);obtain⟨l6,hd⟩:=hR;have jY:=hd;obtain⟨b1,n1,c1,b2,n2,c2,b3,n3,c3,b4,n4,c4,rfl⟩:=hd.form;cbv;refine ay (l6 _ _ g0) rfl rfl ?_;cbv;refine⟨⟨_,rfl,rfl⟩,?_⟩;cbv;refine ay (l6 _ _ g0) rfl rfl ?_;cbv;refine⟨⟨_,rfl,rfl⟩,?_⟩;cbv;exact bad _ _ (wa.trans l6) (of_decide_eq_true ez) NA jY
    |false=>
     have hE0:E=0:=by have:=of_decide_eq_false ez;omega
     cbv;rw[aj A];rw[aj A];refine ay g0 rfl rfl ?_;cbv;have sT:cJ.R h4 [.string nm,.slice sb sn sc,.int .i64 key,.bool only,.slice none 0 0] ⟨⟨nm,cols,key,only⟩,[]⟩:=⟨_,_,_,_,_,_,rfl,qs.mono (wa.t _),Sl.nil⟩;refine(MX sT).mono (fun v h6 hR=>?_);obtain⟨l6,d0,d1,d2,d3,d4,rfl,rT⟩:=hR;obtain⟨w1,w2,w3,w4,w5,w6,he,rT1,rT2⟩:=rT;cases he;have g06:=l6 _ _ g0;cbv;refine ay g06 rfl rfl ?_;cbv;refine⟨⟨_,rfl,rfl⟩,?_⟩;cbv;intro nb h7 eJ e7;have l7:Le h6 h7:=by rw[e7];exact Le.set eJ
     have gx:=(congrFun e7 nb).trans ah;have sx:Sl 51 cJ h7 (.slice (some ⟨nb,0,none⟩) 1 1) [(⟨⟨nm,cols,key,only⟩,[]⟩:cA)]:=by
      refine Sl.fresh (xs:=[(⟨⟨nm,cols,key,only⟩,[]⟩:cA)]) gx ⟨by simp[cJ],fun j y hj=>?_⟩ (by simp) (by simp);have zB:j=0:=by have:=(List.getElem?_eq_some_iff.1 hj).1;simp at this;exact this
      subst zB;simp at hj;subst hj;exact⟨_,_,_,_,_,_,rfl,rT1.mono (l7.t _),rT2.mono (l7.t _)⟩
     have R7:=l7 _ _ g06;have em:m1=ct:=by rw[g2,NO]
     subst em;have jG:i<=m1:=by have:=(x9 (d.aB.map fun x=>eG x.S.name nm) 0 (d.aB.map fun x=>eG x.S.name nm).length (Nat.zero_le _)).1;rw[hi,g2];simpa using this
     cbv;refine ay R7 rfl rfl ?_;cbv;refine⟨⟨_,rfl,rfl⟩,?_⟩;cbv;refine(GZ ((g3.sl g2).mono ((l6.trans l7).t _)) sx hz jG (by omega)).mono (fun v h8 hR=>?_);obtain⟨l8,tb2,ct2,m5,rfl,htb2,YX,ot⟩:=hR;have g08:=l8 _ _ R7;cbv;rw[aj A];rw[aj A];refine kP g08 (by simp) (fun h9 e9=>?_);have gc9:=(congrFun e9 c).trans ah;have k9:Kp [c] h8 h9:=by rw[e9];exact Kp.set (by simp)
     have t9:∀tys,128∉tys->cG tys h8 h9:=fun tys hn=>by rw[e9];exact cG.set g08 hn
     have lh9:Le h h9:=(((wa.trans l6).trans l7).trans l8).cO (by simpa using hc) k9;have D8:gA h9 (.agg #[.slice (some ⟨tb2,0,none⟩) m5 ct2,.slice (some ⟨wb,0,none⟩) m2 cw,.slice x3 m3 k3,.slice x4 m4 k4]) (kj d (d.aB.take i++[⟨⟨nm,cols,key,only⟩,[]⟩]++d.aB.drop i)):=by
      have l48:=(l6.trans l7).trans l8;refine⟨_,_,_,_,_,_,_,_,_,_,_,_,_,rfl,(ot.sl ?_).mono (t9 _ (by decide)),((g5.sl g4).mono (l48.t _)).mono (t9 _ (by decide)),(g6.mono (l48.t _)).mono (t9 _ (by decide)),(g7.mono (l48.t _)).mono (t9 _ (by decide)),?_⟩
      ·rw[YX];simp;omega
      ·rw[hW];simp[kj,Function.comp_def]
     cbv;rw[aj A];refine ay gc9 rfl rfl ?_;cbv;refine(kQ D8).mono (fun v lz hR=>?_);obtain⟨lS,hd⟩:=hR;have js:iX d ⟨nm,cols,key,only⟩ i false=(kj d (d.aB.take i++[⟨⟨nm,cols,key,only⟩,[]⟩]++d.aB.drop i),0):=by unfold iX;rw[if_pos (NA.trans hE0)]
     have jY:=hd;generalize kj d (d.aB.take i++[⟨⟨nm,cols,key,only⟩,[]⟩]++d.aB.drop i)=d' at *;obtain⟨b1,n1,c1,b2,n2,c2,b3,n3,c3,b4,n4,c4,rfl⟩:=hd.form;cbv;exact⟨_,0,z,i,false,rfl,lh9.trans lS,by rw[js];exact jY,by rw[js],hz,hb⟩
end Go.S
