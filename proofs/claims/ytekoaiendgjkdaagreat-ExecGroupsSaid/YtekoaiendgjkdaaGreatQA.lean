import Derived.Test.YtekoaiendgjkdaaGreatVA
import Derived.Test.YtekoaiendgjkdaaGreatSxB
import Derived.RecoverIn
import Derived.Test.YtekoaiendgjkdaaGreatNA
import Derived.Test.YtekoaiendgjkdaaGreatSA
set_option linter.unusedVariables false
set_option linter.unusedSimpArgs false
set_option linter.unusedSectionVars false
namespace Go.S
def CX:By->Option By
 | []=>none
 |c::r=>match decide (c.toNat=46)with
  |true=>some r
  |false=>CX r
def pC(s:ByteArray):Option ByteArray:=match CX s.data.toList with
 |some r=>some (aM r)
 |none=>none
def pW(name gKM:ByteArray):Bool:=decide (name=gKM)||((pC name).isNone&&decide (pC gKM=some name))
def js(name:ByteArray):List cK->Int->Option Int->Int×Int
 | [],_,none=>(0,2)
 | [],_,some a=>(a,0)
 |c::r,i,at_=>match pW name c.name with
  |false=>js name r (i+1) at_
  |true=>match at_ with
   |some _=>(0,12)
   |none=>js name r (i+1) (some i)
def gS(name:ByteArray)(cols:List cK):Int×Int:=js name cols 0 none
def ek(op:Int):Int:=
 if op=1\/op=2 then 0 else if op=3\/op=4\/op=5 then 1 else if 6<=op/\op<=16 then 2 else -1
def QA(k want:Int):Bool:=decide (k=0)||decide (k=want)
def hKN(op a b:Int):Int:=if op=8\/op=9\/op=10\/op=11\/op=12\/op=13 then(if a=0 then b else a)else if op=4\/op=14\/op=15\/op=16 then 2 else 1
def eKD(op:Int):Int:=if op=4\/op=14\/op=15\/op=16 then 2 else 1
def ER(op a b:Int):Int×Int:=
 if op=5 then(1,0)else if(!QA a (hKN op a b)|| !QA b (hKN op a b))=true then(0,3)else(eKD op,0)
def VS(l:List Int)(a:Int):Int:=(l[a.toNat]?).getD 0
def Ag(n:Nd)(l:List Int)(cols:List cK):Int×Int:=
 if ek n.op<0\/(ek n.op>0/\(n.a<0\/n.a>=l.length))\/(ek n.op>1/\(n.b<0\/n.b>=l.length))then(0,1)
 else if n.op=1 then(n.v.k,fv n.v)
 else if n.op=2 then
  match gS n.name cols with
  | (c,e)=>if e≠0 then(0,e)else(match cols[c.toNat]? with
   |some c=>(c.kind,0)
   |none=>(0,0))
 else if ek n.op=1 then ER n.op (VS l n.a) (VS l n.a)else ER n.op (VS l n.a) (VS l n.b)
def eK(cols:List cK):List Nd->List Int->List Int×Int
 | [],l=>(l,0)
 |n::r,l=>match Ag n l cols with
  | (k,e)=>if e≠0 then(l,e)else eK cols r (l++[k])
def Af(l:List Int):Int:=(l.getLast?).getD 0
def jv(e:List Nd)(cols:List cK):Int×Int:=
 if e.length<1\/e.length>60 then(0,1)else match eK cols e []with
  | (l,f)=>if f≠0 then(0,f)else(Af l,0)
def bD(b:Bool):cO:=match b with
 |true=>⟨1,1,b0⟩
 |false=>⟨1,0,b0⟩
def rr(x:Int):Bool:=decide (-9223372036854775808<=x)&&decide (x<=9223372036854775807)
def xK(x:Int):Option cO:=if rr x=true then some ⟨2,x,b0⟩else none
def eD(op a b:Int):Option cO:=if op=4 then xK (-a)else if op=14 then xK (a+b)else if op=15 then xK (a-b)else xK (a*b)
def re(a b:cO):Bool:=decide (a.k=b.k)&&decide (a.n=b.n)&&decide (a.s=b.s)
def oT(op:Int)(a b:cO):cO:=
 if re a (bD (decide (op=6)))=true then a else if re b (bD (decide (op=6)))=true then b
 else if a.k=0\/b.k=0 then v0 else bD (!decide (op=6))
def qK(op:Int)(a b:cO):Option cO:=
 if op=5 then some (bD (decide (a.k=0)))
 else if op=6\/op=7 then some (oT op a b)
 else if a.k=0\/b.k=0 then some v0
 else if op=3 then some (bD (decide (a.n=0)))
 else if op=8 then some (bD (decide (bC a b=0)))
 else if op=9 then some (bD (decide (bC a b≠0)))
 else if op=10 then some (bD (decide (bC a b<0)))
 else if op=11 then some (bD (decide (bC a b<=0)))
 else if op=12 then some (bD (decide (bC a b>0)))
 else if op=13 then some (bD (decide (bC a b>=0)))
 else eD op a.n b.n
def fT(l:List cO)(a:Int):cO:=(l[a.toNat]?).getD v0
def xM(n:Nd)(l:List cO)(cols:List cK)(r:Row):Option cO:=
 if n.op=1 then some n.v
 else if n.op=2 then(match gS n.name cols with
  | (c,_)=>some (fT r c))
 else if ek n.op=1 then qK n.op (fT l n.a) (fT l n.a)else qK n.op (fT l n.a) (fT l n.b)
def gM(cols:List cK)(r:Row):List Nd->List cO->Option (List cO)
 | [],l=>some l
 |n::e,l=>match xM n l cols r with
  |some v=>gM cols r e (l++[v])
  |none=>none
def xV(l:List cO):cO:=(l.getLast?).getD v0
def eP(e:List Nd)(cols:List cK)(r:Row):cO×Int:=match jv e cols with
 | (_,f)=>if f≠0 then(v0,f)else match gM cols r e []with
  |some l=>(xV l,0)
  |none=>(v0,11)
set_option maxRecDepth 100000
set_option maxHeartbeats 8000000
open Go.Sx Go.Proofs
def eXE(s:ByteArray):Prop:=∀i,i<s.size->(s.data.getD i 0).toNat<128
theorem XU{P:Program}{ty:TypeId}{h:ad}{r pos:Nat}{s:ByteArray}(g:h r=some (.stringIter s pos))(ha:∀i,i<s.size->(s.data.getD i 0).toNat<128)
 {k:Value->ad->Prop} (h0:s.size<=pos->k (.tuple #[.bool false]) h)
 (hK:∀h' z b,pos<s.size->h'=bU h r (.stringIter s (pos+1))->aS z pos->b=((s.data.getD pos 0).toNat:Int)->k (.tuple #[.bool true,.int .i64 z,.int .i32 b]) h'):
 fW (fun _=>P) (fun _=>Instr.next (.pointer (some ⟨r,0,none⟩)) true ty) h k:=XV g ha h0 (fun h' hp e=>hK h' _ _ hp e ⟨rfl⟩ rfl)
theorem bQJ(c:UInt8)(r:By):CX (c::r)=match decide (c.toNat=46)with
 |true=>some r
 |false=>CX r:=rfl
theorem Xc{s:ByteArray}(hs:eXE s)(mX:s.size<=2^40){h:ad}{k:Value->ad->Prop}
 (hk:∀h' v t,Le h h'->(t=true->pC s=some v)->(t=false->pC s=none)->k (.tuple #[.string v,.bool t]) h'):
 Ct 329 [.string s] h k:=by
 obtain⟨A,hA⟩:=Ar.ex;have Cv:aS (A .jO s) s.size:=⟨by rw[hA.jO]⟩;refine ah A (ax fKg.aK fKg.bF) Tryz.func329 rfl (by kernel_rfl) ?_;cbv;refine Sp u9 (fun r h1 hr e1=>?_);obtain⟨I,aY⟩:∃I:Nat->Unit->ad->Prop,∀m g h',I m g h'=∃i t,Av s i t/\CX t=CX s.data.toList/\h'=bU h r (.stringIter s i)/\m=t.length:=⟨_,fun _ _ _=>rfl⟩;have hJ:I s.data.toList.length () h1:=by rw[aY];exact⟨0,_,Av.start s,rfl,e1,rfl⟩
 have hle:∀o,Le h (bU h r o):=fun o=>Le.set hr;cbv;refine aX.go (G:=Unit) (fun _=>[]) (fun _=>[]) (fun m g h'=>I m g h') s.data.toList.length () ⟨?_,?_,?_⟩ hJ ?_
 ·cbv
 ·cbv
 ·cbv
 ·intro m g h' hI;rw[aY]at hI;cbv;obtain⟨i,t,q,hd,e',hm⟩:=hI;have gr:h' r=some (.stringIter s i):=by rw[e'];exact ae
  have hl:=q.len;have wE:Le h h':=by rw[e'];exact hle _
  refine XU gr hs (fun oX=>?_) (fun h2 z b hp e2 hz hb=>?_)
  ·have ht:t=[]:=by
    cases t with
    |nil=>rfl
    |cons c r=>have:(c::r).length=r.length+1:=rfl;omega
   subst ht;have hb:pC s=none:=by unfold pC;rw[<-hd];rfl
   have af:=hk h' ⟨#[]⟩ false wE (fun e=>by cases e) (fun _=>hb);cbv;exact af
  ·cases t with
   |nil=>have:([]:By).length=0:=rfl;omega
   |cons c rest=>
    have yW:b=(c.toNat:Int):=by
     rw[hb];have h3:=q.byte (A:=A) (z:=z) hz;rw[hA.byte]at h3;have e1:z.toNat=i:=by have:=hz.eq;omega
     simp only[e1]at h3;exact h3
    have f1:A .aI .eql b 46=decide (c.toNat=46):=by rw[aA A,decide_eq_decide,yW];omega
    have pz:Le h h2:=by rw[e2,e',oW];exact hle _
    rw[bQJ]at hd;have tW:(c::rest).length=rest.length+1:=rfl;have qn:=q.next;have cZ:=hz.succ (A:=A) (by omega);have cJ:0<=A .bB .add .i64 z 1/\A .bB .add .i64 z 1<=(s.size:Int):=by have h1:=cZ.eq;have h2:=Cv.eq;omega
    have eM:A .sub s (A .bB .add .i64 z 1) (A .jO s)=aM rest:=by
     have qC:aS (A .jO s) (i+1+rest.length):=by
      have h5:i+1+rest.length=s.size:=by omega
      rw[h5];exact Cv
     have:=qn.sub (A:=A) cZ (n:=rest.length) qC;rw[mQM (mQt _)]at this;exact this
    have aP:rest.length<m:=by omega
    clear hb;cbv;rw[f1];clear f1;generalize decide (c.toNat=46)=u at *;cases u with
    |true=>
     have hd:some rest=CX s.data.toList:=hd;have jZf:pC s=some (aM rest):=by unfold pC;rw[<-hd]
     obtain⟨vb,gJL⟩:∃vb,aM rest=vb:=⟨_,rfl⟩;rw[gJL]at jZf eM;have af:=hk h2 vb true pz (fun _=>jZf) (fun e=>by cases e);clear aY hJ;cbv;refine⟨cJ,?_⟩;cbv;try rw[eM]
     exact af
    |false=>
     have hd:CX rest=CX s.data.toList:=hd;have cD:I rest.length () h2:=by rw[aY];exact⟨i+1,rest,qn,hd,by rw[e2,e',oW],rfl⟩
     clear aY hJ hk;cbv;refine⟨rest.length,(),aP,⟨?_,?_,?_⟩,cD⟩
     ·cbv
     ·cbv
     ·cbv
structure Nm(s:ByteArray):Prop where
 dQu:eXE s
 sz:s.size<=2^40
theorem dXt{name:ByteArray}{c:cK}(hn:Nm name)(hc:Nm c.name){h:ad}{k:Value->ad->Prop}(hk:∀h' t,Le h h'->t=pW name c.name->k (.bool t) h'):
 Ct 312 [.string name,.agg #[.string c.name,.int .i64 c.kind,.bool c.null]] h k:=by
 obtain⟨A,hA⟩:=Ar.ex;obtain⟨cn,ck,cl⟩:=c;have hc:Nm cn:=hc;have f1:A .iQ .eql name cn=decide (name=cn):=cS A ..;have ht:pW name cn=(decide (name=cn)||((pC name).isNone&&decide (pC cn=some name))):=rfl;have hk:∀h',Le h h'->k (.bool (pW name cn)) h':=fun h' l=>hk h' _ l rfl;refine ah A (ax fKv.aK fKv.bF) Tryz.func312 rfl (by kernel_rfl) ?_;cbv;rw[f1];clear f1;by_cases he:name=cn
 ·have af:=hk h (Le.refl _);rw[ht,kS he]at af;have af:k (.bool true) h:=af;rw[kS he];cbv;exact af
 ·rw[nM he]at ht |-;cbv;refine Xc hn.dQu hn.sz (fun h1 v1 t1 l1 a1 b1=>?_);cbv;refine Xc hc.dQu hc.sz (fun h2 v2 t2 l2 a2 b2=>?_);have AV:A .not t1= !t1:=by rw[hA.not]
  have f2:A .iQ .eql name v2=decide (name=v2):=cS A ..;have hk:=hk h2 (l1.trans l2);rw[ht]at hk;cases t1 with
  |true=>rw[a1 rfl]at hk;have af:k (.bool false) h2:=hk;cbv;rw[AV];cbv;exact af
  |false=>
   rw[b1 rfl]at hk;cases t2 with
   |false=>rw[b2 rfl]at hk;have hd:decide ((none:Option ByteArray)=some name)=false:=nM (by intro h;cases h);rw[hd]at hk;have af:k (.bool false) h2:=hk;cbv;rw[AV];cbv;exact af
   |true=>
    rw[a2 rfl]at hk;have hd:decide (some v2=some name)=decide (name=v2):=by rw[decide_eq_decide];constructor<;>(intro h;cases h;rfl)
    rw[hd]at hk;have af:k (.bool (decide (name=v2))) h2:=hk;rw[<-f2]at af;cbv;rw[AV];cbv;exact af
theorem pf{name:ByteArray}{c:cK}{l:List cK}{i:Int}{at_:Option Int}:js name (c::l) i at_=match pW name c.name with
 |false=>js name l (i+1) at_
 |true=>match at_ with
  |some _=>(0,12)
  |none=>js name l (i+1) (some i):=rfl
theorem QE{name:ByteArray}:∀(l:List cK) (i:Int) (at_:Option Int) (r:Int×Int),js name l i at_=r->(at_=none\/∃a,at_=some a/\0<=a/\a<i)->0<=i->r.2=0->0<=r.1/\r.1<i+l.length:=by
 intro l;induction l with
 |nil=>
  intro i at_ r h ha hi h0;cases at_ with
  |none=>have h:((0:Int),(2:Int))=r:=h;subst h;cases h0
  |some a=>
   have h:(a,(0:Int))=r:=h;subst h;rcases ha with ha| ⟨b,ha,h1,h2⟩
   ·cases ha
   ·cases ha;exact⟨h1,by show a<i+((0:Nat):Int);omega⟩
 |cons c l ih=>
  intro i at_ r h ha hi h0;rw[pf]at h;have hlen:((c::l).length:Int)=l.length+1:=by simp
  cases ht:pW name c.name with
  |false=>
   rw[ht]at h;have:=ih (i+1) at_ r h (by
    rcases ha with ha| ⟨a,ha,h1,h2⟩
    ·exact .inl ha
    ·exact .inr ⟨a,ha,h1,by omega⟩) (by omega) h0
   omega
  |true=>
   rw[ht]at h;cases at_ with
   |some a=>cases h;cases h0
   |none=>have:=ih (i+1) (some i) r h (.inr ⟨i,rfl,hi,by omega⟩) (by omega) h0;omega
theorem cKX{name:ByteArray}(hn:Nm name){cols:List cK}(hc:∀c∈cols,Nm c.name){h:ad}{b:Option Addr}{n cp:Nat}(q:Sl 165 bI h (.slice b n cp) cols){k:Value->ad->Prop}
 (hk:∀h' z e,Le h h'->gS name cols=(z,e)->(e=0->0<=z/\z<cols.length)->k (.tuple #[.int .i64 z,.int .i64 e]) h'):
 Ct 284 [.string name,.slice b n cp] h k:=by
 obtain⟨A,hA⟩:=Ar.ex;have hlen:=q.len;have sM:=q.bound;have hk:∀h' z e,Le h h'->gS name cols=(z,e)->k (.tuple #[.int .i64 z,.int .i64 e]) h':=fun h' z e l he=>hk h' z e l he (fun h0=>by
  have:=QE cols 0 none (z,e) he (.inl rfl) (by decide) h0;simpa using this)
 obtain⟨R,hR⟩:∃R,gS name cols=R:=⟨_,rfl⟩;rw[hR]at hk;obtain⟨I,aY⟩:∃I:Nat->Int×Int->ad->Prop,∀m g h',I m g h'=∃i,aS g.1 i/\i<=n/\m=n-i/\Le h h'/\((g.2=-1/\js name (cols.drop i) g.1 none=R)\/(0<=g.2/\js name (cols.drop i) g.1 (some g.2)=R)):=⟨_,fun _ _ _=>rfl⟩;have hJ:I n (0,-1) h:=by rw[aY];exact⟨0,⟨rfl⟩,mQr _,rfl,Le.refl _,.inl ⟨rfl,hR⟩⟩
 refine ah A (ax fKP.aK fKP.bF) Tryz.func284 rfl (by kernel_rfl) ?_;cbv;refine aX.go (G:=Int×Int) (fun g=>[(11,.v (.int .i64 g.1)),(6,.v (.int .i64 g.2))]) (fun _=>[]) (fun m g h'=>I m g h') n (0,-1) ⟨?_,?_,?_⟩ hJ ?_
 ·cbv
 ·cbv
 ·cbv
 ·intro m g h1 hI;rw[aY]at hI;cbv;obtain⟨i,hz,hi,hm,l1,gR⟩:=hI;obtain⟨z,a⟩:=g;have hz:aS z i:=hz;have gR:(a=-1/\js name (cols.drop i) z none=R)\/(0<=a/\js name (cols.drop i) z (some a)=R):=gR;have f1:A .aI .lss z (A .nat n)=decide (i<n):=hz.iJ (aS.nat n);have f2:A .aI .geq a 0=decide (a>=0):=cf A ..;have f3:A .aI .lss a 0=decide (a<0):=bm A ..;rw[f1];by_cases aP:i<n
  ·obtain⟨c,wG⟩:=aE (xs:=cols) (i:=i) (by omega);have CG:=hc c (GD wG);have cJ:b.isSome=true/\0<=z/\z<(n:Int):=⟨q.aT (by omega),hz.ix aP⟩;have cN:=hz.eq;have cZ:=hz.succ (A:=A) (by omega);have jV:A .bB .add .i64 z 1=z+1:=tI A _ _ (by omega);have hd:cols.drop i=c::cols.drop (i+1):=by obtain⟨h1,h2⟩:=HH.1 wG;rw[mQy h1,h2]
   rw[hd,pf,pf]at gR;have cD:∀a2 h2,Le h h2->((a2=-1/\js name (cols.drop (i+1)) (z+1) none=R)\/(0<=a2/\js name (cols.drop (i+1)) (z+1) (some a2)=R))->I (n-(i+1)) (A .bB .add .i64 z 1,a2) h2:=fun a2 h2 l hh=>by
    rw[aY];exact⟨i+1,cZ,aP,rfl,l,by rw[jV];exact hh⟩
   have kX:n-(i+1)<m:=by omega
   clear aY hJ jV hd;rw[kS aP];cbv;refine⟨cJ,?_⟩;cbv;refine(q.mono (l1.t _)).load wG cN (fun cs ay=>?_);obtain⟨cn,ck,cl⟩:=c;have ay:cs=[.string cn,.int .i64 ck,.bool cl]:=ay;subst ay;cbv;refine dXt (c:=⟨cn,ck,cl⟩) hn CG (fun h2 t l2 ht=>?_);have jZ:=l1.trans l2;replace gR:(a=-1/\(match pW name cn with
    |false=>js name (cols.drop (i+1)) (z+1) none
    |true=>js name (cols.drop (i+1)) (z+1) (some z))=R)\/(0<=a/\(match pW name cn with
    |false=>js name (cols.drop (i+1)) (z+1) (some a)
    |true=>(0,12))=R):=gR
   have ht:t=pW name cn:=ht;rw[<-ht]at gR;have AV:A .not t= !t:=by rw[hA.not]
   cases t with
   |false=>
    have hI:=cD a h2 jZ gR;clear cD hk gR;cbv;rw[AV];cbv;refine⟨n-(i+1),(A .bB .add .i64 z 1,a),kX,⟨?_,?_,?_⟩,hI⟩
    ·cbv
    ·cbv
    ·cbv
   |true=>
    rcases gR with ⟨ha,gR⟩ | ⟨ha,gR⟩
    ·have Ws:decide (a>=0)=false:=nM (by omega);have hI:=cD z h2 jZ (.inr ⟨by have:=hz.eq;omega,gR⟩);clear cD hk gR;cbv;rw[AV];cbv;rw[f2,Ws];cbv;refine⟨n-(i+1),(A .bB .add .i64 z 1,z),kX,⟨?_,?_,?_⟩,hI⟩
     ·cbv
     ·cbv
     ·cbv
    ·have Ws:decide (a>=0)=true:=kS (by omega);have af:=hk h2 0 12 jZ gR.symm;clear cD hk gR;cbv;rw[AV];cbv;rw[f2,Ws];cbv;exact af
  ·have hd:cols.drop i=[]:=mQR (by omega);rw[hd]at gR;rw[nM aP];rcases gR with ⟨ha,gR⟩ | ⟨ha,gR⟩
   ·have af:=hk h1 0 2 l1 gR.symm;have Ws:decide (a<0)=true:=kS (by omega);clear aY hJ hk gR;cbv;rw[f3,Ws];cbv;exact af
   ·have af:=hk h1 a 0 l1 gR.symm;have Ws:decide (a<0)=false:=nM (by omega);clear aY hJ hk gR;cbv;rw[f3,Ws];cbv;exact af
theorem SE(op:Int){h:ad}{k:Value->ad->Prop}(hk:∀z,z=ek op->k (.int .i64 z) h):Ct 285 [.int .i64 op] h k:=by
 obtain⟨A,hA⟩:=Ar.ex;refine ah A (ax fKO.aK fKO.bF) Tryz.func285 rfl (by kernel_rfl) ?_;cbv;repeat' (refine bh (fun hc=>?_) (fun hc=>?_)<;>(try rw[hc])<;>cbv)
 all_goals
  refine hk _ ?_;simp only[aA A,cf A,vM A,mQD,decide_eq_false_iff_not]at *;unfold ek;repeat' split
  all_goals omega
theorem fJi(a b:Int){h:ad}{k:Value->ad->Prop}(hk:∀t,t=QA a b->k (.bool t) h):Ct 328 [.int .i64 a,.int .i64 b] h k:=by
 obtain⟨A,hA⟩:=Ar.ex;refine ah A (ax fKh.aK fKh.bF) Tryz.func328 rfl (by kernel_rfl) ?_;cbv;repeat' (refine bh (fun hc=>?_) (fun hc=>?_)<;>(try rw[hc])<;>cbv)
 all_goals
  refine hk _ ?_;simp only[aA A,mQD,decide_eq_false_iff_not]at *;unfold QA;simp[*]
theorem cJI(op a b:Int){h:ad}{k:Value->ad->Prop}(hk:∀z e,(z,e)=ER op a b->k (.tuple #[.int .i64 z,.int .i64 e]) h):Ct 311 [.int .i64 op,.int .i64 a,.int .i64 b] h k:=by
 obtain⟨A,hA⟩:=Ar.ex;refine ah A (ax fKw.aK fKw.bF) Tryz.func311 rfl (by kernel_rfl) ?_;cbv;repeat' (first
  | (refine bh (fun hc=>?_) (fun hc=>?_)<;>(try rw[hc])<;>cbv)
  | (refine fJi _ _ (fun t ht=>?_);cbv))
 all_goals
  refine hk _ _ ?_;simp only[aA A,hA.not,mQD,decide_eq_false_iff_not]at *;simp only[ER,hKN,eKD,QA]at *;simp_all
theorem tJ(b:Bool){h:ad}{k:Value->ad->Prop}(hk:∀v,v=(bD b).v->k v h):Ct 313 [.bool b] h k:=by
 obtain⟨A,hA⟩:=Ar.ex;refine ah A (ax fKu.aK fKu.bF) Tryz.func313 rfl (by kernel_rfl) ?_;cbv;cases b with
 |true=>exact hk _ rfl
 |false=>exact hk _ rfl
theorem OY(v:cO){h:ad}{k:Value->ad->Prop}(hk:k (.bool (decide (v.k=0))) h):Ct 314 [v.v] h k:=by obtain⟨A,hA⟩:=Ar.ex;obtain⟨vk,vn,vs⟩:=v;have f1:A .aI .eql vk 0=decide (vk=0):=aA A ..;have hk:k (.bool (decide (vk=0))) h:=hk;refine ah A (ax fKt.aK fKt.bF) Tryz.func314 rfl (by kernel_rfl) ?_;cbv;rw[f1];exact hk
abbrev Yn:List PanicEntry:=[{ v:=.iface 35 (.int .i64 11),recovered:=false }]
abbrev dQB(f:FuncId)(args:List Value)(h:ad)(R:Value->ad->Prop)(K:List PanicEntry->ad->Prop):Prop:=Rr (fun _=>Tryz.prog) f args h R K
def Mf(n:Nat):Bool:=[345,331,333,330,332,316,286,247].contains n
theorem Dl(n:Int)(o:Bool){h:ad}{R:Value->ad->Prop}{K:List PanicEntry->ad->Prop}(h1:o=false->R (.int .i64 n) h)(h2:o=true->K Yn h):
 dQB 345 [.int .i64 n,.bool o] h R K:=by
 obtain⟨A,hA⟩:=Ar.ex;refine mQ A (tK fJZ.aK fJZ.bF Mf [] (fun c _ h=>K c h)) Tryz.func345 rfl (by kernel_rfl) (fun _ _ _ q=>q) ?_;cbv;cases o with
 |true=>cbv;exact h2 rfl
 |false=>cbv;exact h1 rfl
theorem jP{x:Int}:rr x=true↔-9223372036854775808<=x/\x<=9223372036854775807:=by unfold rr;rw[mQG,mQD,mQD]
theorem tC{x:Int}:rr x=false↔¬(-9223372036854775808<=x/\x<=9223372036854775807):=by rw[<-jP];simp
theorem hZm(a b:Int)(ha:rr a=true)(hb:rr b=true){h:ad}{R:Value->ad->Prop}{K:List PanicEntry->ad->Prop}(h1:rr (a+b)=true->R (.int .i64 (a+b)) h)(h2:rr (a+b)=false->K Yn h):
 dQB 331 [.int .i64 a,.int .i64 b] h R K:=by
 obtain⟨A,hA⟩:=Ar.ex;rw[jP]at ha hb;have e1:b>0->A .bB .sub .i64 9223372036854775807 b=9223372036854775807-b:=fun g=>zK A _ _ (by omega);have e2:b<0->A .bB .sub .i64 (-9223372036854775808) b=-9223372036854775808-b:=fun g=>zK A _ _ (by omega);refine mQ A (tK fKe.aK fKe.bF Mf [] (fun c _ h=>K c h)) Tryz.func331 rfl (by kernel_rfl) (fun _ _ _ q=>q) ?_;cbv;repeat' (refine bh (fun hc=>?_) (fun hc=>?_)<;>(try rw[hc])<;>cbv)
 all_goals (refine Dl _ _ (fun ho=>?_) (fun ho=>?_))
 all_goals (cbv)
 all_goals (try (simp only[bO A,bm A,aA A,mQD,decide_eq_false_iff_not,mXY,mZF,reduceCtorEq]at ho))
 all_goals (try simp only[bO A,bm A,aA A,mQD,decide_eq_false_iff_not]at *)
 all_goals first
  | (refine h2 (tC.2 ?_);omega)
  | (by_cases hr:rr (a+b)=true
     ·have e3:A .bB .add .i64 a b=a+b:=tI A _ _ (jP.1 hr);rw[e3];exact h1 hr
     ·exfalso;rw[mZE,tC]at hr;omega)
theorem fQq(a b:Int)(ha:rr a=true)(hb:rr b=true){h:ad}{R:Value->ad->Prop}{K:List PanicEntry->ad->Prop}(h1:rr (a-b)=true->R (.int .i64 (a-b)) h)(h2:rr (a-b)=false->K Yn h):
 dQB 332 [.int .i64 a,.int .i64 b] h R K:=by
 obtain⟨A,hA⟩:=Ar.ex;rw[jP]at ha hb;have e1:b>0->A .bB .add .i64 (-9223372036854775808) b=-9223372036854775808+b:=fun g=>tI A _ _ (by omega);have e2:b<0->A .bB .add .i64 9223372036854775807 b=9223372036854775807+b:=fun g=>tI A _ _ (by omega);refine mQ A (tK fKd.aK fKd.bF Mf [] (fun c _ h=>K c h)) Tryz.func332 rfl (by kernel_rfl) (fun _ _ _ q=>q) ?_;cbv;repeat' (refine bh (fun hc=>?_) (fun hc=>?_)<;>(try rw[hc])<;>cbv)
 all_goals (refine Dl _ _ (fun ho=>?_) (fun ho=>?_))
 all_goals (cbv)
 all_goals (try (simp only[bO A,bm A,aA A,mQD,decide_eq_false_iff_not,mXY,mZF,reduceCtorEq]at ho))
 all_goals (try simp only[bO A,bm A,aA A,mQD,decide_eq_false_iff_not]at *)
 all_goals first
  | (refine h2 (tC.2 ?_);omega)
  | (by_cases hr:rr (a-b)=true
     ·have e3:A .bB .sub .i64 a b=a-b:=zK A _ _ (jP.1 hr);rw[e3];exact h1 hr
     ·exfalso;rw[mZE,tC]at hr;omega)
theorem dZP(a:Int)(ha:rr a=true){h:ad}{R:Value->ad->Prop}{K:List PanicEntry->ad->Prop}(h1:rr (-a)=true->R (.int .i64 (-a)) h)(h2:rr (-a)=false->K Yn h):
 dQB 330 [.int .i64 a] h R K:=by
 obtain⟨A,hA⟩:=Ar.ex;rw[jP]at ha;refine mQ A (tK fKf.aK fKf.bF Mf [] (fun c _ h=>K c h)) Tryz.func330 rfl (by kernel_rfl) (fun _ _ _ q=>q) ?_;cbv;repeat' (refine bh (fun hc=>?_) (fun hc=>?_)<;>(try rw[hc])<;>cbv)
 all_goals (refine Dl _ _ (fun ho=>?_) (fun ho=>?_))
 all_goals (cbv)
 all_goals (try (simp only[bO A,bm A,aA A,mQD,decide_eq_false_iff_not,mXY,mZF,reduceCtorEq]at ho))
 all_goals (try simp only[bO A,bm A,aA A,mQD,decide_eq_false_iff_not]at *)
 all_goals first
  | (refine h2 (tC.2 ?_);omega)
  | (by_cases hr:rr (-a)=true
     ·have e3:A .bB .sub .i64 0 a=-a:=by rw[zK A _ _ (by rw[jP]at hr;omega)];omega
      rw[e3];exact h1 hr
     ·exfalso;rw[mZE,tC]at hr;omega)
theorem UL(x:Int):∃k:Int,IntKind.i64.wrap x=x+k*18446744073709551616/\-9223372036854775808<=IntKind.i64.wrap x/\IntKind.i64.wrap x<=9223372036854775807:=by
 have hs:IntKind.i64.signed=true:=rfl;simp only[IntKind.wrap,IntKind.bits,hs];simp;split
 ·exact⟨⟨-(x / 18446744073709551616)-1,by omega⟩,by omega,by omega⟩
 ·exact⟨⟨-(x / 18446744073709551616),by omega⟩,by omega,by omega⟩
theorem bKt{a b:Int}(Zc:b≠0)(ha:-9223372036854775808<=a/\a<=9223372036854775807)(hb:-9223372036854775808<=b/\b<=9223372036854775807)
 (h1:IntKind.i64.wrap ((IntKind.i64.wrap (a*b)).tdiv b)=a) (h2:¬(a=-1/\b=-9223372036854775808)) (h3:¬(b=-1/\a=-9223372036854775808)):-9223372036854775808<=a*b/\a*b<=9223372036854775807:=by
 obtain⟨k,hk,gJZ,oq⟩:=UL (a*b);generalize IntKind.i64.wrap (a*b)=c at *;obtain⟨j,hj,YZ,aQr⟩:=UL (c.tdiv b);have e1:=mKM c b;have aP:(c.tdiv b).natAbs<=c.natAbs:=by rw[Int.natAbs_tdiv];exact Nat.div_le_self _ _
 by_cases Cy:j=0
 ·subst Cy;have hq:c.tdiv b=a:=by omega
  rw[hq]at e1;have hr:(c.tmod b).natAbs<b.natAbs:=by rw[mJL];exact mZy _ (by omega)
  have aKo:=hr;generalize c.tmod b=r at *;generalize a*b=p at *;have:r=k*18446744073709551616:=by omega
  omega
 ·have hq:c.tdiv b=9223372036854775808:=by omega
  have RL:c=-9223372036854775808:=by omega
  have kKX:b=-1:=by
   rw[hq,RL]at e1;have hr:((-9223372036854775808:Int).tmod b).natAbs<b.natAbs:=by rw[mJL];exact mZy _ (by omega)
   rw[RL]at hq;generalize (-9223372036854775808:Int).tmod b=r at *;omega
  subst kKX;omega
theorem aZu(a b:Int)(ha:rr a=true)(hb:rr b=true){h:ad}{R:Value->ad->Prop}{K:List PanicEntry->ad->Prop}(h1:rr (a*b)=true->R (.int .i64 (a*b)) h)(h2:rr (a*b)=false->K Yn h):
 dQB 333 [.int .i64 a,.int .i64 b] h R K:=by
 obtain⟨A,hA⟩:=Ar.ex;rw[jP]at ha hb;have e1:A .bB .mul .i64 a b=IntKind.i64.wrap (a*b):=by rw[hA.bB];rfl
 have e2:∀c,A .bB .quo .i64 c b=IntKind.i64.wrap (c.tdiv b):=fun c=>by rw[hA.bB];rfl
 refine mQ A (tK fKc.aK fKc.bF Mf [] (fun c _ h=>K c h)) Tryz.func333 rfl (by kernel_rfl) (fun _ _ _ q=>q) ?_;cbv;by_cases h0:a=0\/b=0
 ·have fZK:a*b=0:=by rcases h0 with rfl|rfl<;>simp
  rw[fZK]at h1;have af:=h1 (by decide);clear h1 h2;repeat' (refine bh (fun hc=>?_) (fun hc=>?_)<;>(try rw[hc])<;>cbv)
  all_goals first
   |exact af
   | (exfalso;simp only[aA A,mQD,decide_eq_false_iff_not]at *;omega)
 ·have iXW:A .aI .eql a 0=false:=by rw[aA A,decide_eq_false_iff_not];omega
  have Zc:A .aI .eql b 0=false:=by rw[aA A,decide_eq_false_iff_not];omega
  have JD:b≠0:=by omega
  rw[iXW];cbv;rw[Zc];cbv;have s1:a=-1->a*b=-b:=fun e=>by rw[e];omega
  have s2:b=-1->a*b=-a:=fun e=>by rw[e];omega
  have hw:-9223372036854775808<=a*b/\a*b<=9223372036854775807->IntKind.i64.wrap (a*b)=a*b:=fun hr=>IntWalk.i64_in _ hr;have hq:-9223372036854775808<=a*b/\a*b<=9223372036854775807->IntKind.i64.wrap ((IntKind.i64.wrap (a*b)).tdiv b)=a:=fun hr=>by
   rw[hw hr,Int.mul_tdiv_cancel _ JD];exact IntWalk.i64_in _ ha
  have lJY:=bKt (a:=a) (b:=b) JD ha hb;refine⟨JD,?_⟩;cbv;repeat' (refine bh (fun hc=>?_) (fun hc=>?_)<;>(try rw[hc])<;>cbv)
  all_goals (refine Dl _ _ (fun ho=>?_) (fun ho=>?_))
  all_goals (cbv)
  all_goals (try (simp only[bO A,bm A,aA A,mQD,decide_eq_false_iff_not,mXY,mZF,reduceCtorEq]at ho))
  all_goals (simp only[aA A,aC A,mQD,decide_eq_false_iff_not,e1,e2]at *)
  all_goals first
   | (refine h2 (tC.2 ?_);omega)
   | (by_cases hr:rr (a*b)=true
      ·have aKo:=hr;rw[jP]at aKo;rw[hw aKo];exact h1 hr
      ·exfalso;rw[mZE,tC]at hr;omega)
theorem bKz(op a b:Int)(ha:rr a=true)(hb:rr b=true){h:ad}{R:Value->ad->Prop}{K:List PanicEntry->ad->Prop}(h1:∀v,eD op a b=some v->R v.v h)(h2:eD op a b=none->K Yn h):
 dQB 316 [.int .i64 op,.int .i64 a,.int .i64 b] h R K:=by
 obtain⟨A,hA⟩:=Ar.ex;have f1:A .aI .eql op 4=decide (op=4):=aA A ..;have f2:A .aI .eql op 14=decide (op=14):=aA A ..;have f3:A .aI .eql op 15=decide (op=15):=aA A ..;have num:∀x,(∀v,xK x=some v->R v.v h)->rr x=true->R (.agg #[.int .i64 2,.int .i64 x,.string ⟨#[]⟩]) h:=fun x hx hr=>hx ⟨2,x,b0⟩ (by unfold xK;rw[if_pos hr]);have gJi:∀x,(xK x=none->K Yn h)->rr x=false->K Yn h:=fun x hx hr=>hx (by unfold xK;rw[hr];rfl);refine mQ A (tK fKr.aK fKr.bF Mf [] (fun c _ h=>K c h)) Tryz.func316 rfl (by kernel_rfl) (fun _ _ _ q=>q) ?_;cbv;rw[f1];by_cases c1:op=4
 ·have e:eD op a b=xK (-a):=by unfold eD;rw[if_pos c1]
  rw[e]at h1 h2;rw[kS c1];cbv;refine dZP a ha (fun g=>?_) (fun g=>?_)
  ·have af:=num _ h1 g;cbv;exact af
  ·have af:=gJi _ h2 g;cbv;exact af
 ·rw[nM c1];cbv;rw[f2];by_cases c2:op=14
  ·have e:eD op a b=xK (a+b):=by unfold eD;rw[if_neg c1,if_pos c2]
   rw[e]at h1 h2;rw[kS c2];cbv;refine hZm a b ha hb (fun g=>?_) (fun g=>?_)
   ·have af:=num _ h1 g;generalize a+b=c at *;cbv;exact af
   ·have af:=gJi _ h2 g;cbv;exact af
  ·rw[nM c2];cbv;rw[f3];by_cases c3:op=15
   ·have e:eD op a b=xK (a-b):=by unfold eD;rw[if_neg c1,if_neg c2,if_pos c3]
    rw[e]at h1 h2;rw[kS c3];cbv;refine fQq a b ha hb (fun g=>?_) (fun g=>?_)
    ·have af:=num _ h1 g;generalize a-b=c at *;cbv;exact af
    ·have af:=gJi _ h2 g;cbv;exact af
   ·have e:eD op a b=xK (a*b):=by unfold eD;rw[if_neg c1,if_neg c2,if_neg c3]
    rw[e]at h1 h2;rw[nM c3];cbv;refine aZu a b ha hb (fun g=>?_) (fun g=>?_)
    ·have af:=num _ h1 g;generalize a*b=c at *;cbv;exact af
    ·have af:=gJi _ h2 g;cbv;exact af
theorem pA(A:Ar)[hA:bM A](a b:cO):A .and (A .aI .eql a.k b.k) (A .and (A .aI .eql a.n b.n) (A .and (A .iQ .eql a.s b.s) true))=re a b:=by rw[hA.and,aA A,aA A,cS A];show(decide (a.k=b.k)&&(decide (a.n=b.n)&&(decide (a.s=b.s)&&true)))=_;unfold re;rw[mZJ,Bool.and_assoc]
theorem aJl(op:Int)(a b:cO){h:ad}{k:Value->ad->Prop}(hk:∀h' v,Le h h'->v=(oT op a b).v->k v h'):Ct 315 [.int .i64 op,a.v,b.v] h k:=by
 obtain⟨A,hA⟩:=Ar.ex;have f1:A .aI .eql op 6=decide (op=6):=aA A ..;have hL:oT op a b=if re a (bD (decide (op=6)))=true then a else if re b (bD (decide (op=6)))=true then b
  else if a.k=0\/b.k=0 then v0 else bD (!decide (op=6)):=rfl
 generalize decide (op=6)=d at *;obtain⟨T,hT⟩:∃T,T=bD d:=⟨_,rfl⟩;have ev:∀x:cO,A .and (A .aI .eql x.k T.k) (A .and (A .aI .eql x.n T.n) (A .and (A .iQ .eql x.s T.s) true))=re x T:=fun x=>pA A x T;rw[<-hT]at hL;obtain⟨ak,an,sa⟩:=a;obtain⟨bk,bn,sb⟩:=b;refine ah A (ax fKs.aK fKs.bF) Tryz.func315 rfl (by kernel_rfl) ?_;cbv;rw[f1];cbv;intro nb h1 hn e1;have l1:Le h h1:=by rw[e1];exact Le.set hn
 have q:Sl 61 bq h1 (.slice (some ⟨nb,0,none⟩) 2 2) [⟨ak,an,sa⟩,⟨bk,bn,sb⟩]:=by
  refine Sl.fresh (s:=bq) (h:=h1) (n:=nb) (xs:=[⟨ak,an,sa⟩,⟨bk,bn,sb⟩]) (cap:=2) (c:=[.int .i64 ak,.int .i64 an,.string sa,.int .i64 bk,.int .i64 bn,.string sb]) (by rw[e1];exact ae) ⟨mQt 6,fun i x hx=>?_⟩ (by show 2<=_;omega) (mQt 2)
  match i,hx with
  |0,hx=>cases hx;rfl
  |1,hx=>cases hx;rfl
  |i+2,hx=>simp at hx
 cbv;refine aX.go (G:=Int) (fun z=>[(16,.v (.int .i64 z))]) (fun _=>[(4,[.int .i64 ak,.int .i64 an,.string sa]),(5,[.int .i64 bk,.int .i64 bn,.string sb]),(6,[.int .i64 0,.int .i64 0,.string ⟨#[]⟩])])
  (fun m z h'=>∃i:Nat,aS z i/\m=2-i/\i<=2/\h'=h1/\(0<i->re ⟨ak,an,sa⟩ T=false)/\(1<i->re ⟨bk,bn,sb⟩ T=false)) 2 0 ⟨?_,?_,?_⟩ ⟨0,⟨rfl⟩,by omega,by omega,rfl,fun g=>by omega,fun g=>by omega⟩ ?_
 ·cbv
 ·cbv
 ·cbv
 ·intro m z h' hI;cbv;obtain⟨i,hz,hm,hi,e',ha,hb⟩:=hI;subst e';refine bh (fun hc=>?_) (fun hc=>?_)
  ·have aP:=hz.lt (len:=2) hc;rw[hc];clear hc;obtain⟨x,hx⟩:=aE (xs:=[(⟨ak,an,sa⟩:cO),⟨bk,bn,sb⟩]) (i:=i) (show i<2 by omega);have gKB:=ev x;have VX:re x T=true->k (.agg #[.int .i64 x.k,.int .i64 x.n,.string x.s]) h':=fun g=>by
    refine hk h' _ l1 ?_;have:oT op ⟨ak,an,sa⟩ ⟨bk,bn,sb⟩=x:=by
     rw[hL]
     match i,hx,ha,hb with
     |0,hx,ha,hb=>cases hx;rw[if_pos g]
     |1,hx,ha,hb=>cases hx;rw[ha (by omega),if_neg (by simp),if_pos g]
     |i+2,hx,_,_=>simp at hx
    rw[this]
   have cD:re x T=false->(0<i+1->re ⟨ak,an,sa⟩ T=false)/\(1<i+1->re ⟨bk,bn,sb⟩ T=false):=fun g=>by
    match i,hx,ha,hb with
    |0,hx,ha,hb=>cases hx;exact⟨fun _=>g,fun g=>by omega⟩
    |1,hx,ha,hb=>cases hx;exact⟨fun _=>ha (by omega),fun _=>g⟩
    |i+2,hx,_,_=>simp at hx
   have cZ:=hz.succ (A:=A) (by omega);have cJ:=hz.ix aP;have cN:=hz.eq;have kX:2-(i+1)<m:=by omega
   clear hk hL ha hb;cbv;refine⟨⟨rfl,cJ⟩,?_⟩;cbv;refine q.load hx cN (fun cs ay=>?_);obtain⟨xk,xn,xs⟩:=x;have ay:cs=[.int .i64 xk,.int .i64 xn,.string xs]:=ay;subst ay;cbv;refine tJ d (fun v hv=>?_);rw[<-hT]at hv;obtain⟨tk,tn,ts⟩:=T;subst hv;cbv;have gKB:A .and (A .aI .eql xk tk) (A .and (A .aI .eql xn tn) (A .and (A .iQ .eql xs ts) true))=re ⟨xk,xn,xs⟩ ⟨tk,tn,ts⟩:=gKB;rw[gKB];clear ev gKB;generalize re ⟨xk,xn,xs⟩ ⟨tk,tn,ts⟩=t at *;cases t with
   |true=>have af:=VX rfl;clear VX cD;cbv;exact af
   |false=>
    have hI:=cD rfl;clear VX cD;cbv;refine⟨2-(i+1),A .bB .add .i64 z 1,kX,⟨?_,?_,?_⟩,i+1,cZ,rfl,aP,rfl,hI⟩
    ·cbv
    ·cbv
    ·cbv
  ·have lN:=hz.ge (len:=2) hc;rw[hc];clear hc;have aQp:i=2:=by omega
   have iJJ:oT op ⟨ak,an,sa⟩ ⟨bk,bn,sb⟩=if ak=0\/bk=0 then v0 else bD (!d):=by rw[hL,ha (by omega),hb (by omega),if_neg (by simp),if_neg (by simp)]
   have nd:A .not d= !d:=by rw[hA.not]
   have MG:(ak=0\/bk=0)->k (.agg #[.int .i64 0,.int .i64 0,.string ⟨#[]⟩]) h':=fun g=>hk h' _ l1 (by rw[iJJ,if_pos g];rfl);have jV:¬(ak=0\/bk=0)->k (bD (!d)).v h':=fun g=>hk h' _ l1 (by rw[iJJ,if_neg g]);clear hk hL ha hb iJJ ev;cbv;refine OY ⟨ak,an,sa⟩ ?_;by_cases c1:ak=0
   ·have af:=MG (.inl c1);have hd:decide ((⟨ak,an,sa⟩:cO).k=0)=true:=kS c1;rw[hd];cbv;exact af
   ·have hd:decide ((⟨ak,an,sa⟩:cO).k=0)=false:=nM c1;rw[hd];cbv;refine OY ⟨bk,bn,sb⟩ ?_;by_cases c2:bk=0
    ·have af:=MG (.inr c2);have hd:decide ((⟨bk,bn,sb⟩:cO).k=0)=true:=kS c2;rw[hd];cbv;exact af
    ·have af:=jV (by rintro(g|g)<;>contradiction);have hd:decide ((⟨bk,bn,sb⟩:cO).k=0)=false:=nM c2;rw[hd];cbv;rw[nd];refine tJ (!d) (fun v hv=>?_);generalize bD (!d)=tv at *;obtain⟨tk,tn,ts⟩:=tv;subst hv;cbv;exact af
theorem cJy(op:Int)(a b:cO)(ha:rr a.n=true)(hb:rr b.n=true){h:ad}{R:Value->ad->Prop}{K:List PanicEntry->ad->Prop}
 (h1:∀h' w v,Le h h'->qK op a b=some w->v=w.v->R v h') (h2:∀h',Le h h'->qK op a b=none->K Yn h'):
 dQB 286 [.int .i64 op,a.v,b.v] h R K:=by
 obtain⟨A,hA⟩:=Ar.ex;have hP:qK op a b=if op=5 then some (bD (decide (a.k=0)))
  else if op=6\/op=7 then some (oT op a b)
  else if a.k=0\/b.k=0 then some v0
  else if op=3 then some (bD (decide (a.n=0)))
  else if op=8 then some (bD (decide (bC a b=0)))
  else if op=9 then some (bD (decide (bC a b≠0)))
  else if op=10 then some (bD (decide (bC a b<0)))
  else if op=11 then some (bD (decide (bC a b<=0)))
  else if op=12 then some (bD (decide (bC a b>0)))
  else if op=13 then some (bD (decide (bC a b>=0)))
  else eD op a.n b.n:=rfl
 have f5:A .aI .eql op 5=decide (op=5):=aA A ..;have f6:A .aI .eql op 6=decide (op=6):=aA A ..;have f7:A .aI .eql op 7=decide (op=7):=aA A ..;have f3:A .aI .eql op 3=decide (op=3):=aA A ..;have f8:A .aI .eql op 8=decide (op=8):=aA A ..;have f9:A .aI .eql op 9=decide (op=9):=aA A ..;have f10:A .aI .eql op 10=decide (op=10):=aA A ..;have f11:A .aI .eql op 11=decide (op=11):=aA A ..;have f12:A .aI .eql op 12=decide (op=12):=aA A ..;have f13:A .aI .eql op 13=decide (op=13):=aA A ..;have fz:A .aI .eql a.n 0=decide (a.n=0):=aA A ..;obtain⟨ak,an,sa⟩:=a;obtain⟨bk,bn,sb⟩:=b;generalize qK op ⟨ak,an,sa⟩ ⟨bk,bn,sb⟩=D at *;refine mQ A (tK fKN.aK fKN.bF Mf [] (fun c _ h=>K c h)) Tryz.func286 rfl (by kernel_rfl) (fun _ _ _ q=>q) ?_;cbv;rw[f5];by_cases c5:op=5
 ·rw[if_pos c5]at hP;rw[kS c5];cbv;refine OY ⟨ak,an,sa⟩ ?_;have h1:=fun v=>h1 h _ v (Le.refl _) hP;clear h2 hP;generalize decide ((⟨ak,an,sa⟩:cO).k=0)=t at *;cbv;refine tJ t (fun v hv=>?_);have af:=h1 v hv;generalize bD t=tv at *;obtain⟨tk,tn,ts⟩:=tv;subst hv;cbv;exact af
 rw[if_neg c5]at hP;rw[nM c5];cbv;rw[f6];by_cases c6:op=6
 ·rw[kS c6];rw[if_pos (show op=6\/op=7 from .inl c6)]at hP;cbv;refine aJl op ⟨ak,an,sa⟩ ⟨bk,bn,sb⟩ (fun h3 v l3 hv=>?_);have af:=h1 h3 _ v l3 hP hv;clear h1 h2 hP;generalize oT op ⟨ak,an,sa⟩ ⟨bk,bn,sb⟩=tv at *;obtain⟨tk,tn,ts⟩:=tv;subst hv;cbv;exact af
 rw[nM c6];cbv;rw[f7];by_cases c7:op=7
 ·rw[kS c7];rw[if_pos (show op=6\/op=7 from .inr c7)]at hP;cbv;refine aJl op ⟨ak,an,sa⟩ ⟨bk,bn,sb⟩ (fun h3 v l3 hv=>?_);have af:=h1 h3 _ v l3 hP hv;clear h1 h2 hP;generalize oT op ⟨ak,an,sa⟩ ⟨bk,bn,sb⟩=tv at *;obtain⟨tk,tn,ts⟩:=tv;subst hv;cbv;exact af
 rw[nM c7];rw[if_neg (by rintro(g|g)<;>contradiction)]at hP;have hP:D=if ak=0\/bk=0 then some v0
  else if op=3 then some (bD (decide (an=0)))
  else if op=8 then some (bD (decide (bC ⟨ak,an,sa⟩ ⟨bk,bn,sb⟩=0)))
  else if op=9 then some (bD (decide (bC ⟨ak,an,sa⟩ ⟨bk,bn,sb⟩≠0)))
  else if op=10 then some (bD (decide (bC ⟨ak,an,sa⟩ ⟨bk,bn,sb⟩<0)))
  else if op=11 then some (bD (decide (bC ⟨ak,an,sa⟩ ⟨bk,bn,sb⟩<=0)))
  else if op=12 then some (bD (decide (bC ⟨ak,an,sa⟩ ⟨bk,bn,sb⟩>0)))
  else if op=13 then some (bD (decide (bC ⟨ak,an,sa⟩ ⟨bk,bn,sb⟩>=0)))
  else eD op an bn:=hP
 have MG:ak=0\/bk=0->R (.agg #[.int .i64 0,.int .i64 0,.string ⟨#[]⟩]) h:=fun g=>h1 h v0 _ (Le.refl _) (by rw[hP,if_pos g]) rfl;cbv;refine OY ⟨ak,an,sa⟩ ?_;by_cases c1:ak=0
 ·have af:=MG (.inl c1);have hd:decide ((⟨ak,an,sa⟩:cO).k=0)=true:=kS c1;rw[hd];clear h1 h2 hP MG;cbv;exact af
 have hd:decide ((⟨ak,an,sa⟩:cO).k=0)=false:=nM c1;rw[hd];clear hd;cbv;refine OY ⟨bk,bn,sb⟩ ?_;by_cases c2:bk=0
 ·have af:=MG (.inr c2);have hd:decide ((⟨bk,bn,sb⟩:cO).k=0)=true:=kS c2;rw[hd];clear h1 h2 hP MG;cbv;exact af
 have hd:decide ((⟨bk,bn,sb⟩:cO).k=0)=false:=nM c2;rw[hd];clear hd MG;rw[if_neg (by rintro(g|g)<;>contradiction)]at hP;cbv;refine(pg ⟨ak,an,sa⟩ ⟨bk,bn,sb⟩ h).mono (fun v h3 hR=>?_);obtain⟨l3,z,hv,hz⟩:=hR;subst hv;rw[<-hz]at hP;have hf:∀t:Bool,∀v,D=some (bD t)->v=(bD t).v->R v h3:=fun t v e hv=>h1 h3 _ v l3 e hv;have bZW:D=eD op an bn->∀v,eD op an bn=some v->R v.v h3:=fun e v hv=>h1 h3 v _ l3 (e.trans hv) rfl;have bZU:D=eD op an bn->eD op an bn=none->K Yn h3:=fun e hv=>h2 h3 l3 (e.trans hv);clear h1 h2 hz;have fz:A .aI .eql an 0=decide (an=0):=fz;cbv;rw[f3];by_cases eXf:op=3
 ·rw[if_pos eXf]at hP;rw[kS eXf];obtain⟨t,ht⟩:∃t,t=decide (an=0):=⟨_,rfl⟩;rw[<-ht]at hP fz;have hf:=hf t;clear bZW bZU;cbv;try rw[fz]
  refine tJ t (fun v hv=>?_);have af:=hf v hP hv;clear hf hP;generalize bD t=tv at *;obtain⟨tk,tn,ts⟩:=tv;subst hv;cbv;exact af
 rw[if_neg eXf]at hP;rw[nM eXf];have gz:A .aI .eql z 0=decide (z=0):=aA A ..;cbv;rw[f8];by_cases gKP:op=8
 ·rw[if_pos gKP]at hP;rw[kS gKP];obtain⟨t,ht⟩:∃t,t=decide (z=0):=⟨_,rfl⟩;rw[<-ht]at hP gz;have hf:=hf t;clear bZW bZU;cbv;try rw[gz]
  refine tJ t (fun v hv=>?_);have af:=hf v hP hv;clear hf hP;generalize bD t=tv at *;obtain⟨tk,tn,ts⟩:=tv;subst hv;cbv;exact af
 rw[if_neg gKP]at hP;rw[nM gKP];have gz:A .aI .neq z 0=decide (z≠0):=aC A ..;cbv;rw[f9];by_cases gKO:op=9
 ·rw[if_pos gKO]at hP;rw[kS gKO];obtain⟨t,ht⟩:∃t,t=decide (z≠0):=⟨_,rfl⟩;rw[<-ht]at hP gz;have hf:=hf t;clear bZW bZU;cbv;try rw[gz]
  refine tJ t (fun v hv=>?_);have af:=hf v hP hv;clear hf hP;generalize bD t=tv at *;obtain⟨tk,tn,ts⟩:=tv;subst hv;cbv;exact af
 rw[if_neg gKO]at hP;rw[nM gKO];have gz:A .aI .lss z 0=decide (z<0):=bm A ..;cbv;rw[f10];by_cases cZm:op=10
 ·rw[if_pos cZm]at hP;rw[kS cZm];obtain⟨t,ht⟩:∃t,t=decide (z<0):=⟨_,rfl⟩;rw[<-ht]at hP gz;have hf:=hf t;clear bZW bZU;cbv;try rw[gz]
  refine tJ t (fun v hv=>?_);have af:=hf v hP hv;clear hf hP;generalize bD t=tv at *;obtain⟨tk,tn,ts⟩:=tv;subst hv;cbv;exact af
 rw[if_neg cZm]at hP;rw[nM cZm];have gz:A .aI .leq z 0=decide (z<=0):=vM A ..;cbv;rw[f11];by_cases cZl:op=11
 ·rw[if_pos cZl]at hP;rw[kS cZl];obtain⟨t,ht⟩:∃t,t=decide (z<=0):=⟨_,rfl⟩;rw[<-ht]at hP gz;have hf:=hf t;clear bZW bZU;cbv;try rw[gz]
  refine tJ t (fun v hv=>?_);have af:=hf v hP hv;clear hf hP;generalize bD t=tv at *;obtain⟨tk,tn,ts⟩:=tv;subst hv;cbv;exact af
 rw[if_neg cZl]at hP;rw[nM cZl];have gz:A .aI .gtr z 0=decide (z>0):=bO A ..;cbv;rw[f12];by_cases cZk:op=12
 ·rw[if_pos cZk]at hP;rw[kS cZk];obtain⟨t,ht⟩:∃t,t=decide (z>0):=⟨_,rfl⟩;rw[<-ht]at hP gz;have hf:=hf t;clear bZW bZU;cbv;try rw[gz]
  refine tJ t (fun v hv=>?_);have af:=hf v hP hv;clear hf hP;generalize bD t=tv at *;obtain⟨tk,tn,ts⟩:=tv;subst hv;cbv;exact af
 rw[if_neg cZk]at hP;rw[nM cZk];have gz:A .aI .geq z 0=decide (z>=0):=cf A ..;cbv;rw[f13];by_cases cZj:op=13
 ·rw[if_pos cZj]at hP;rw[kS cZj];obtain⟨t,ht⟩:∃t,t=decide (z>=0):=⟨_,rfl⟩;rw[<-ht]at hP gz;have hf:=hf t;clear bZW bZU;cbv;try rw[gz]
  refine tJ t (fun v hv=>?_);have af:=hf v hP hv;clear hf hP;generalize bD t=tv at *;obtain⟨tk,tn,ts⟩:=tv;subst hv;cbv;exact af
 rw[if_neg cZj]at hP;rw[nM cZj];have bZW:=bZW hP;have bZU:=bZU hP;clear hf hP;cbv;refine bKz op an bn ha hb (fun v hv=>?_) (fun hv=>?_)
 ·have af:=bZW v hv;obtain⟨vk,vn,vs⟩:=v;cbv;exact af
 ·have af:=bZU hv;cbv;exact af
abbrev Nd.vv(n:Nd):Value:=.agg #[.int .i64 n.op,.int .i64 n.a,.int .i64 n.b,.int .i64 n.v.k,.int .i64 n.v.n,.string n.v.s,.string n.name]
theorem BQ(op:Int):(ek op=0/\(op=1\/op=2))\/(ek op=1/\(op=3\/op=4\/op=5))\/(ek op=2/\6<=op/\op<=16)\/(ek op=-1/\op≠1/\op≠2):=by
 unfold ek;by_cases h1:op=1\/op=2
 ·left;rw[if_pos h1];exact⟨rfl,h1⟩
 ·rw[if_neg h1];by_cases h2:op=3\/op=4\/op=5
  ·right;left;rw[if_pos h2];exact⟨rfl,h2⟩
  ·rw[if_neg h2];by_cases h3:6<=op/\op<=16
   ·right;right;left;rw[if_pos h3];exact⟨rfl,h3⟩
   ·right;right;right;rw[if_neg h3];exact⟨rfl,by omega,by omega⟩
theorem Mz{l:List Int}{a x:Int}{i:Nat}(h:l[i]? =some x)(ha:a=(i:Int)):VS l a=x:=by subst ha;unfold VS;rw[mXD,h];rfl
theorem fQA{n:Nd}(hn:Nm n.name){l:List Int}{cols:List cK}(hc:∀c∈cols,Nm c.name){h:ad}{lb:Option Addr}{ln lc:Nat}(ql:Sl 3 dE h (.slice lb ln lc) l)
 {cb:Option Addr} {cn cc:Nat} (qc:Sl 165 bI h (.slice cb cn cc) cols) {z:Int} (hz:aS z l.length) {k:Value->ad->Prop}
 (hk:∀h' a e,Le h h'->(a,e)=Ag n l cols->k (.tuple #[.int .i64 a,.int .i64 e]) h'):
 Ct 283 [n.vv,.int .i64 z,.slice lb ln lc,.slice cb cn cc] h k:=by
 obtain⟨A,hA⟩:=Ar.ex;have tG:=ql.len;have dKn:=ql.bound;have hP:Ag n l cols=if ek n.op<0\/(ek n.op>0/\(n.a<0\/n.a>=l.length))\/(ek n.op>1/\(n.b<0\/n.b>=l.length))then(0,1)
  else if n.op=1 then(n.v.k,fv n.v)
  else if n.op=2 then
   match gS n.name cols with
   | (c,e)=>if e≠0 then(0,e)else(match cols[c.toNat]? with
    |some c=>(c.kind,0)
    |none=>(0,0))
  else if ek n.op=1 then ER n.op (VS l n.a) (VS l n.a)else ER n.op (VS l n.a) (VS l n.b):=rfl
 obtain⟨op,a,b,v,name⟩:=n;have gR:=BQ op;have hn:Nm name:=hn;generalize Ag ⟨op,a,b,v,name⟩ l cols=D at *;have hP:D=if ek op<0\/(ek op>0/\(a<0\/a>=l.length))\/(ek op>1/\(b<0\/b>=l.length))then(0,1)
  else if op=1 then(v.k,fv v)
  else if op=2 then
   match gS name cols with
   | (c,e)=>if e≠0 then(0,e)else(match cols[c.toNat]? with
    |some c=>(c.kind,0)
    |none=>(0,0))
  else if ek op=1 then ER op (VS l a) (VS l a)else ER op (VS l a) (VS l b):=hP
 have f1:A .aI .eql op 1=decide (op=1):=aA A ..;have f2:A .aI .eql op 2=decide (op=2):=aA A ..;have fa:A .aI .lss a 0=decide (a<0):=bm A ..;have fb:A .aI .lss b 0=decide (b<0):=bm A ..;obtain⟨N,hN⟩:∃N:Int,N=l.length:=⟨_,rfl⟩;have uS:∀a:Int,¬a<0->¬a>=N->∃x,l[a.toNat]? =some x/\a=(a.toNat:Int)/\(lb.isSome=true/\0<=a/\a<(ln:Int)):=fun a h0 h1=>by
  obtain⟨x,hx⟩:=aE (xs:=l) (i:=a.toNat) (by omega);exact⟨x,hx,by omega,ql.aT (by omega),by omega,by omega⟩
 rw[<-hN]at hP;have ga:A .aI .geq a z=decide (a>=N):=by rw[cf A,hz.eq,hN]
 have gb:A .aI .geq b z=decide (b>=N):=by rw[cf A,hz.eq,hN]
 have nV:(ek op<0\/(ek op>0/\(a<0\/a>=N))\/(ek op>1/\(b<0\/b>=N)))->k (.tuple #[.int .i64 0,.int .i64 1]) h:=fun g=>hk h 0 1 (Le.refl _) (by rw[hP,if_pos g]);obtain⟨vk,vn,vs⟩:=v;clear dKn tG;refine ah A (ax fKQ.aK fKQ.bF) Tryz.func283 rfl (by kernel_rfl) ?_;cbv;refine SE op (fun p hp=>?_);rw[<-hp]at gR hP nV;rcases gR with ⟨c0,c1⟩ | ⟨c0,c1⟩ | ⟨c0,c1⟩ | ⟨c0,c1⟩
 ·subst c0;rw[if_neg (by omega)]at hP;cbv;rw[(show A .aI .lss 0 0=false from by rw[bm A];rfl)];cbv;rw[(show A .aI .gtr 0 0=false from by rw[bO A];rfl)];cbv;rw[(show A .aI .gtr 0 1=false from by rw[bO A];rfl)];cbv;rw[f1];by_cases d1:op=1
  ·rw[if_pos d1]at hP;rw[kS d1];clear nV;cbv;refine(QU ⟨vk,vn,vs⟩ h).mono (fun v h3 hR=>?_);obtain⟨l3,y,hv,hy⟩:=hR;subst hv;have af:=hk h3 vk y l3 (by rw[hP,hy]);clear hk hP hy;cbv;exact af
  ·have d2:op=2:=by omega
   rw[if_neg d1,if_pos d2]at hP;rw[nM d1];cbv;rw[f2,kS d2];clear nV;cbv;refine cKX hn hc qc (fun h3 y e l3 hy hb=>?_);rw[hy]at hP;have fe:A .aI .neq e 0=decide (e≠0):=aC A ..;have hP:D=if e≠0 then(0,e)else(match cols[y.toNat]? with
    |some c=>(c.kind,0)
    |none=>(0,0)):=hP
   clear hy;by_cases he:e=0
   ·have hb:=hb he;obtain⟨c,Ij⟩:=aE (xs:=cols) (i:=y.toNat) (by omega);rw[if_neg (fun g=>g he),Ij]at hP;have gJP:=qc.len;have cJ:cb.isSome=true/\0<=y/\y<(cn:Int):=⟨qc.aT (by omega),by omega,by omega⟩;have af:=hk h3 c.kind 0 l3 hP.symm;have cJV:y=(y.toNat:Int):=by omega
    clear hk hP;cbv;rw[fe,nM (by omega:¬e≠0)];cbv;refine⟨cJ,?_⟩;cbv;refine(qc.mono (l3.t _)).cC Ij cJV (o:=1) (m:=1) (by decide) (fun cs ay=>?_);obtain⟨Bt,Ln,WT⟩:=c;have ay:cs=[.string Bt,.int .i64 Ln,.bool WT]:=ay;subst ay;cbv;exact af
   ·rw[if_pos he]at hP;have af:=hk h3 0 e l3 hP.symm;clear hk hP;cbv;rw[fe,kS he];cbv;exact af
 ·subst c0;cbv;rw[(show A .aI .lss 1 0=false from by rw[bm A];rfl)];cbv;rw[(show A .aI .gtr 1 0=true from by rw[bO A];rfl)];cbv;rw[fa];by_cases a0:a<0
  ·have af:=nV (by omega);clear nV hk hP;rw[kS a0];cbv;exact af
  rw[nM a0];cbv;rw[ga];by_cases a1:a>=N
  ·have af:=nV (by omega);clear nV hk hP;rw[kS a1];cbv;exact af
  rw[nM a1];cbv;rw[(show A .aI .gtr 1 1=false from by rw[bO A];rfl)];have FK:=uS a a0 a1;cbv;obtain⟨x,hx,vi,MV⟩:=FK;rw[if_neg (by omega),if_neg (by omega),if_neg (by omega),if_pos rfl,Mz hx vi]at hP;clear nV;rw[f1,nM (by omega:¬op=1)];cbv;rw[f2,nM (by omega:¬op=2)];cbv;rw[(show A .aI .eql 1 1=true from by rw[aA A];rfl)];cbv;refine⟨MV,?_⟩;cbv;refine ql.load hx vi (fun cs ay=>?_);have ay:cs=[.int .i64 x]:=ay;subst ay;cbv;refine⟨MV,?_⟩;cbv;refine ql.load hx vi (fun cs ay=>?_);have ay:cs=[.int .i64 x]:=ay;subst ay;cbv;refine cJI op x x (fun d e hd=>?_);have af:=hk h d e (Le.refl _) (hd.trans hP.symm);clear hk hP hd;cbv;exact af
 ·subst c0;cbv;rw[(show A .aI .lss 2 0=false from by rw[bm A];rfl)];cbv;rw[(show A .aI .gtr 2 0=true from by rw[bO A];rfl)];cbv;rw[fa];by_cases a0:a<0
  ·have af:=nV (by omega);clear nV hk hP;rw[kS a0];cbv;exact af
  rw[nM a0];cbv;rw[ga];by_cases a1:a>=N
  ·have af:=nV (by omega);clear nV hk hP;rw[kS a1];cbv;exact af
  rw[nM a1];cbv;rw[(show A .aI .gtr 2 1=true from by rw[bO A];rfl)];have FK:=uS a a0 a1;cbv;obtain⟨x,hx,vi,MV⟩:=FK;rw[fb];by_cases b0:b<0
  ·have af:=nV (by omega);clear nV hk hP;rw[kS b0];cbv;exact af
  rw[nM b0];cbv;rw[gb];by_cases b1:b>=N
  ·have af:=nV (by omega);clear nV hk hP;rw[kS b1];cbv;exact af
  rw[nM b1];have aKL:=uS b b0 b1;cbv;obtain⟨y,hy,aKc,dKB⟩:=aKL;rw[if_neg (by omega),if_neg (by omega),if_neg (by omega),if_neg (by omega),Mz hx vi,Mz hy aKc]at hP;clear nV;rw[f1,nM (by omega:¬op=1)];cbv;rw[f2,nM (by omega:¬op=2)];cbv;rw[(show A .aI .eql 2 1=false from by rw[aA A];rfl)];cbv;refine⟨MV,?_⟩;cbv;refine ql.load hx vi (fun cs ay=>?_);have ay:cs=[.int .i64 x]:=ay;subst ay;cbv;refine⟨dKB,?_⟩;cbv;refine ql.load hy aKc (fun cs ay=>?_);have ay:cs=[.int .i64 y]:=ay;subst ay;cbv;refine cJI op x y (fun d e hd=>?_);have af:=hk h d e (Le.refl _) (hd.trans hP.symm);clear hk hP hd;cbv;exact af
 ·subst c0;have af:=nV (.inl (by omega));clear nV hk hP;cbv;rw[(show A .aI .lss (-1) 0=true from by rw[bm A];rfl)];cbv;exact af
theorem aJi{α:Type}{e:Nat}{s:Sh α}{h:ad}{l:Nat}{A:Ar}[bM A]{bytes:Nat}{z:List Value}{k:Value->ad->Prop}(hz:z.length=s.n)(hl:l<=2^40)(hb:bytes<=128)
 (hk:∀nb h',h nb=none->Le h h'->fX e s h' nb l []->k (.slice (some ⟨nb,0,none⟩) 0 l) h'):
 Aw h e 0 (A .nat l) bytes z k:=by
 have Im:(2:Nat)^40=1099511627776:=rfl;have bZV:(2:Int)^48=281474976710656:=rfl;rw[bM.nat (A:=A)];refine⟨by simp only[mQJ];omega,⟨by rw[bZV];simp only[mQJ];omega,?_⟩,fun nb h' e1 e2=>?_⟩
 ·rw[bZV];simp only[mQJ];have:bytes*l<=128*l:=mXg _ hb;have h2:((bytes*l:Nat):Int)<=((128*l:Nat):Int):=mKo.2 this;simp only[mJo]at h2;omega
 ·simp only[mQJ,mXD]at e2 |-;refine hk nb h' e1 (by rw[e2];exact Le.set e1) ⟨⟨kx l z,by rw[e2,ae],Hk,?_⟩,by simp,by simp⟩;rw[gG,hz]
theorem gP(cols:List cK)(n:Nd)(r:List Nd)(l:List Int):eK cols (n::r) l=match Ag n l cols with
 | (k,e)=>if e≠0 then(l,e)else eK cols r (l++[k]):=rfl
theorem YD{l:List Int}{i:Nat}{x:Int}(h:l[i]? =some x)(hi:l.length=i+1):Af l=x:=by unfold Af;rw[mZD,hi];simp only[mXn];rw[h];rfl
theorem bZb{ex:List Nd}(hn:∀n∈ex,Nm n.name){cols:List cK}(hc:∀c∈cols,Nm c.name){h:ad}{eb:Option Addr}{en ec:Nat}(qe:Sl 325 fx h (.slice eb en ec) ex)
 {cb:Option Addr} {cn cc:Nat} (qc:Sl 165 bI h (.slice cb cn cc) cols) {k:Value->ad->Prop}
 (hk:∀h' a e,Le h h'->(a,e)=jv ex cols->k (.tuple #[.int .i64 a,.int .i64 e]) h'):
 Ct 245 [.slice eb en ec,.slice cb cn cc] h k:=by
 obtain⟨A,hA⟩:=Ar.ex;have Qh:=qe.len;have hP:jv ex cols=if ex.length<1\/ex.length>60 then(0,1)else match eK cols ex []with
  | (l,f)=>if f≠0 then(0,f)else(Af l,0):=rfl
 rw[<-Qh]at hP;have f1:A .aI .lss (A .nat en) 1=decide (en<1):=by rw[bm A,hA.nat,decide_eq_decide,mQJ];omega
 have f2:A .aI .gtr (A .nat en) 60=decide (en>60):=by rw[bO A,hA.nat,decide_eq_decide,mQJ];omega
 obtain⟨R,hR⟩:∃R,eK cols ex []=R:=⟨_,rfl⟩;rw[hR]at hP;generalize jv ex cols=D at *;obtain⟨I,aY⟩:∃I:Nat->Int×(Option Addr×Nat×Nat)->ad->Prop,∀m g h',I m g h'=∃i l,aS g.1 i/\i<=en/\m=en-i/\Le h h'/\cF 3 dE h h' (.slice g.2.1 g.2.2.1 g.2.2.2) l/\l.length=i/\eK cols (ex.drop i) l=R:=⟨_,fun _ _ _=>rfl⟩;refine ah A (ax gQq.aK gQq.bF) Tryz.func245 rfl (by kernel_rfl) ?_;cbv;rw[f1];by_cases c1:en<1
 ·have af:=hk h 0 1 (Le.refl _) (by rw[hP,if_pos (.inl c1)]);clear hk hP;rw[kS c1];cbv;exact af
 rw[nM c1];cbv;rw[f2];by_cases c2:en>60
 ·have af:=hk h 0 1 (Le.refl _) (by rw[hP,if_pos (.inr c2)]);clear hk hP;rw[kS c2];cbv;exact af
 rw[nM c2];rw[if_neg (by omega)]at hP;cbv;refine aJi (s:=dE) rfl (by omega) (by decide) (fun nb h0 gY hle ho=>?_);have hJ:I en (0,some ⟨nb,0,none⟩,0,en) h0:=by rw[aY];exact⟨0,[],⟨rfl⟩,mQr _,rfl,hle,ho.buf gY rfl,rfl,hR⟩
 clear ho hR;cbv;refine aX.go (G:=Int×(Option Addr×Nat×Nat)) (fun g=>[(24,.v (.int .i64 g.1)),(6,.v (.slice g.2.1 g.2.2.1 g.2.2.2))]) (fun _=>[]) (fun m g h'=>I m g h') en (0,some ⟨nb,0,none⟩,0,en) ⟨?_,?_,?_⟩ hJ ?_
 ·cbv
 ·cbv
 ·cbv
 ·intro m g h1 hI;rw[aY]at hI;cbv;obtain⟨i,l,hg,hi,hm,l1,ba,bZJ,he⟩:=hI;obtain⟨z,ab,an,ac⟩:=g;have hg:aS z i:=hg;have ba:cF 3 dE h h1 (.slice ab an ac) l:=ba;have RM:=ba.sl.len;have f3:A .aI .lss z (A .nat en)=decide (i<en):=hg.iJ (aS.nat en);rw[f3];by_cases aP:i<en
  ·obtain⟨n,qC⟩:=aE (xs:=ex) (i:=i) (by omega);have hd:ex.drop i=n::ex.drop (i+1):=by obtain⟨h1,h2⟩:=HH.1 qC;rw[mQy h1,h2]
   rw[hd,gP]at he;have cJ:eb.isSome=true/\0<=z/\z<(en:Int):=⟨qe.aT (by omega),hg.ix aP⟩;have cN:=hg.eq;have cZ:=hg.succ (A:=A) (by omega);have kX:en-(i+1)<m:=by omega
   have cD:∀a b3 m3 c3 h3,eK cols (ex.drop (i+1)) (l++[a])=R->cF 3 dE h h3 (.slice b3 m3 c3) (l++[a])->Le h h3->I (en-(i+1)) (A .bB .add .i64 z 1,b3,m3,c3) h3:=fun a b3 m3 c3 h3 e3 ry l3=>by
    rw[aY];exact⟨i+1,_,cZ,aP,rfl,l3,ry,by rw[nX,mQu,bZJ],e3⟩
   have An:aS z l.length:=by rw[bZJ];exact hg
   have wD:=hn n (GD qC);have sM:an+1<=2^39:=by omega
   clear aY hJ hd cZ;rw[kS aP];cbv;refine⟨cJ,?_⟩;cbv;refine(qe.mono (l1.t _)).load qC cN (fun cs ay=>?_);obtain⟨op,a,b,⟨vk,vn,vs⟩,name⟩:=n;have ay:cs=[.int .i64 op,.int .i64 a,.int .i64 b,.int .i64 vk,.int .i64 vn,.string vs,.string name]:=ay;subst ay;cbv;refine fQA (n:=⟨op,a,b,⟨vk,vn,vs⟩,name⟩) wD hc ba.sl (qc.mono (l1.t _)) An (fun h2 y e l2 hy=>?_);have fe:A .aI .neq e 0=decide (e≠0):=aC A ..;rw[<-hy]at he;have he:(if e≠0 then(l,e)else eK cols (ex.drop (i+1)) (l++[y]))=R:=he;clear hy;by_cases h0:e=0
   ·rw[if_neg (fun g=>g h0)]at he;have cD:=fun b3 m3 c3 h3=>cD y b3 m3 c3 h3 he;clear hk hP he;cbv;rw[fe,nM (fun g=>g h0)];cbv;intro n2 h3 g2 e2;have l3:Le h2 h3:=by rw[e2];exact Le.set g2
    have v2:Sl 3 dE h3 (.slice (some ⟨n2,0,none⟩) 1 1) [y]:=bA (s:=dE) ((congrFun e2 n2).trans ae) rfl;cbv;refine(ba.mono ((l2.trans l3).t _)).append v2 (by decide) rfl (by decide) sM (l1.trans (l2.trans l3)) (fun m3 b3 c3 h4 eQE l4 t3 k3 ry=>?_);have jd:=cD b3 m3 c3 h4 ry l4;clear cD t3 k3 ry;cbv;refine⟨en-(i+1),(_,_,_,_),kX,⟨?_,?_,?_⟩,jd⟩
    ·cbv
    ·cbv
    ·cbv
   ·rw[if_pos h0]at he;rw[<-he]at hP;have hP:D=if e≠0 then(0,e)else(Af l,0):=hP
    rw[if_pos h0]at hP;have af:=hk h2 0 e (l1.trans l2) hP.symm;clear hk hP he cD;cbv;rw[fe,kS h0];cbv;exact af
  ·have lW:i=en:=by omega
   rw[mQR (by omega)]at he;have he:(l,0)=R:=he;rw[<-he]at hP;have hP:D=(Af l,0):=hP;obtain⟨x,hx⟩:=aE (xs:=l) (i:=i-1) (by omega);rw[YD hx (by omega)]at hP;have af:=hk h1 x 0 l1 hP.symm;have eM:=(aS.nat (A:=A) an).sub (A:=A) (⟨rfl⟩:aS 1 1) (by omega) (by omega);have cN:=eM.eq;have cJ:ab.isSome=true/\0<=A .bB .sub .i64 (A .nat an) 1/\A .bB .sub .i64 (A .nat an) 1<(an:Int):=⟨ba.sl.aT (by omega),eM.ix (by omega)⟩;have hx:l[an-1]? =some x:=by rw[RM,bZJ];exact hx
   clear aY hJ hk hP he eM;rw[nM aP];cbv;refine⟨cJ,?_⟩;cbv;refine ba.sl.load hx cN (fun cs ay=>?_);have ay:cs=[.int .i64 x]:=ay;subst ay;cbv;exact af
theorem lD{l:List cO}{a:Int}{x:cO}{i:Nat}(h:l[i]? =some x)(ha:a=(i:Int)):fT l a=x:=by subst ha;unfold fT;rw[mXD,h];rfl
theorem eKP{n:Nd}(hn:Nm n.name){l:List cO}{cols:List cK}(hc:∀c∈cols,Nm c.name){r:Row}{h:ad}{lb:Option Addr}{ln lc:Nat}(ql:Sl 61 bq h (.slice lb ln lc) l)
 {cb:Option Addr} {cn cc:Nat} (qc:Sl 165 bI h (.slice cb cn cc) cols) {rb:Option Addr} {rn rc:Nat} (qr:Sl 61 bq h (.slice rb rn rc) r)
 (cQB:ek n.op>=0) (ba:ek n.op>0->0<=n.a/\n.a<l.length) (bb:ek n.op>1->0<=n.b/\n.b<l.length) (bf:n.op=2->(gS n.name cols).2=0)
 (hl:∀v∈l,rr v.n=true) {R:Value->ad->Prop} {K:List PanicEntry->ad->Prop}
 (h1:∀h' w v,Le h h'->xM n l cols r=some w->v=w.v->R v h') (h2:∀h',Le h h'->xM n l cols r=none->K Yn h'):
 dQB 247 [n.vv,.slice lb ln lc,.slice cb cn cc,.slice rb rn rc] h R K:=by
 obtain⟨A,hA⟩:=Ar.ex;have tG:=ql.len;have KH:=qr.len;have hP:xM n l cols r=if n.op=1 then some n.v
  else if n.op=2 then(match gS n.name cols with
   | (c,_)=>some (fT r c))
  else if ek n.op=1 then qK n.op (fT l n.a) (fT l n.a)else qK n.op (fT l n.a) (fT l n.b):=rfl
 obtain⟨op,a,b,v,name⟩:=n;have gR:=BQ op;replace hn:Nm name:=hn;replace cQB:ek op>=0:=cQB;replace ba:ek op>0->0<=a/\a<l.length:=ba;replace bb:ek op>1->0<=b/\b<l.length:=bb;replace bf:op=2->(gS name cols).2=0:=bf;generalize xM ⟨op,a,b,v,name⟩ l cols r=D at *;replace hP:D=if op=1 then some v
  else if op=2 then(match gS name cols with
   | (c,_)=>some (fT r c))
  else if ek op=1 then qK op (fT l a) (fT l a)else qK op (fT l a) (fT l b):=hP
 have f1:A .aI .eql op 1=decide (op=1):=aA A ..;have f2:A .aI .eql op 2=decide (op=2):=aA A ..;have uS:∀a:Int,0<=a/\a<l.length->∃x,l[a.toNat]? =some x/\a=(a.toNat:Int)/\rr x.n=true/\(lb.isSome=true/\0<=a/\a<(ln:Int)):=fun a h0=>by
  obtain⟨x,hx⟩:=aE (xs:=l) (i:=a.toNat) (by omega);exact⟨x,hx,by omega,hl x (GD hx),ql.aT (by omega),by omega,by omega⟩
 obtain⟨vk,vn,vs⟩:=v;refine mQ A (tK gQp.aK gQp.bF Mf [] (fun c _ h=>K c h)) Tryz.func247 rfl (by kernel_rfl) (fun _ _ _ q=>q) ?_;rcases gR with ⟨c0,c1⟩ | ⟨c0,c1⟩ | ⟨c0,c1⟩ | ⟨c0,c1⟩
 ·by_cases d1:op=1
  ·rw[if_pos d1]at hP;have af:=h1 h ⟨vk,vn,vs⟩ _ (Le.refl _) hP rfl;clear h1 h2 hP uS;cbv;rw[f1,kS d1];cbv;exact af
  ·have d2:op=2:=by omega
   rw[if_neg d1,if_pos d2]at hP;have bf:=bf d2;clear h2 uS ba bb;cbv;rw[f1,nM d1];cbv;rw[f2,kS d2];cbv;refine cKX hn hc qc (fun h3 y e l3 hy hb=>?_);rw[hy]at hP bf;have hP:D=some (fT r y):=hP;have bf:e=0:=bf;have hb:=hb bf;have fy:A .aI .geq y (A .nat rn)=decide (y>=(rn:Int)):=by rw[cf A,hA.nat];rfl
   by_cases tD:y>=(rn:Int)
   ·have e0:fT r y=v0:=by unfold fT;rw[mXL (by omega)];rfl
    rw[e0]at hP;have af:=h1 h3 v0 _ l3 hP rfl;clear h1 hP;rw[kS tD]at fy;cbv;rw[fy];cbv;exact af
   ·obtain⟨x,hx⟩:=aE (xs:=r) (i:=y.toNat) (by omega);have cJV:y=(y.toNat:Int):=by omega
    rw[lD hx cJV]at hP;have cJ:rb.isSome=true/\0<=y/\y<(rn:Int):=⟨qr.aT (by omega),by omega,by omega⟩;have af:=h1 h3 x _ l3 hP rfl;clear h1 hP;rw[nM tD]at fy;cbv;rw[fy];cbv;refine⟨cJ,?_⟩;cbv;refine(qr.mono (l3.t _)).load hx cJV (fun cs ay=>?_);obtain⟨xk,xn,xs⟩:=x;have ay:cs=[.int .i64 xk,.int .i64 xn,.string xs]:=ay;subst ay;cbv;exact af
 ·skip;rw[if_neg (by omega),if_neg (by omega),if_pos c0]at hP;obtain⟨x,hx,vi,VY,MV⟩:=uS a (ba (by omega));rw[lD hx vi]at hP;have r1:∀h' w v,Le h h'->qK op x x=some w->v=w.v->R v h':=fun h' w v l e hv=>h1 h' w v l (hP.trans e) hv;have r2:∀h',Le h h'->qK op x x=none->K Yn h':=fun h' l e=>h2 h' l (hP.trans e);clear h1 h2 hP uS;cbv;rw[f1,nM (by omega:¬op=1)];cbv;rw[f2,nM (by omega:¬op=2)];cbv;refine SE op (fun p hp=>?_);rw[c0]at hp;subst hp;cbv;rw[(show A .aI .eql 1 1=true from by rw[aA A];rfl)];cbv;refine⟨MV,?_⟩;cbv;refine ql.load hx vi (fun cs ay=>?_);obtain⟨xk,xn,xs⟩:=x;have ay:cs=[.int .i64 xk,.int .i64 xn,.string xs]:=ay;subst ay;cbv;refine⟨MV,?_⟩;cbv;refine ql.load hx vi (fun cs ay=>?_);have ay:cs=[.int .i64 xk,.int .i64 xn,.string xs]:=ay;subst ay;cbv;refine cJy op ⟨xk,xn,xs⟩ ⟨xk,xn,xs⟩ VY VY (fun h3 w v l3 hw hv=>?_) (fun h3 l3 hw=>?_)
  ·have af:=r1 h3 w v l3 hw hv;obtain⟨wk,wn,ws⟩:=w;subst hv;clear r1 r2;cbv;exact af
  ·have af:=r2 h3 l3 hw;clear r1 r2;cbv;exact af
 ·skip;rw[if_neg (by omega),if_neg (by omega),if_neg (by omega)]at hP;obtain⟨x,hx,vi,VY,MV⟩:=uS a (ba (by omega));rw[lD hx vi]at hP;obtain⟨y,hy,aKc,hKZ,dKB⟩:=uS b (bb (by omega));rw[lD hy aKc]at hP;have r1:∀h' w v,Le h h'->qK op x y=some w->v=w.v->R v h':=fun h' w v l e hv=>h1 h' w v l (hP.trans e) hv;have r2:∀h',Le h h'->qK op x y=none->K Yn h':=fun h' l e=>h2 h' l (hP.trans e);clear h1 h2 hP uS;cbv;rw[f1,nM (by omega:¬op=1)];cbv;rw[f2,nM (by omega:¬op=2)];cbv;refine SE op (fun p hp=>?_);rw[c0]at hp;subst hp;cbv;rw[(show A .aI .eql 2 1=false from by rw[aA A];rfl)];cbv;refine⟨MV,?_⟩;cbv;refine ql.load hx vi (fun cs ay=>?_);obtain⟨xk,xn,xs⟩:=x;have ay:cs=[.int .i64 xk,.int .i64 xn,.string xs]:=ay;subst ay;cbv;refine⟨dKB,?_⟩;cbv;refine ql.load hy aKc (fun cs ay=>?_);obtain⟨yk,yn,ys⟩:=y;have ay:cs=[.int .i64 yk,.int .i64 yn,.string ys]:=ay;subst ay;cbv;refine cJy op ⟨xk,xn,xs⟩ ⟨yk,yn,ys⟩ VY hKZ (fun h3 w v l3 hw hv=>?_) (fun h3 l3 hw=>?_)
  ·have af:=r1 h3 w v l3 hw hv;obtain⟨wk,wn,ws⟩:=w;subst hv;clear r1 r2;cbv;exact af
  ·have af:=r2 h3 l3 hw;clear r1 r2;cbv;exact af
 ·omega
section
variable {F:Fence}{n:Nat}{P:Program}{ops:Array Oper}{Q:Exit->Act->List Frame->World->Prop}{a:Act}{cs jJm:List Frame}{w:World}{i:Nat}{rest:List Nat}{o:Oper}
theorem aZH(hi:ops[i]? =some o)(Gn:∀f,o.about P w a.eval=some f->F.fn f)(hw:Region.wanted o (yielded ops a.tmps)=true)(hr:(execOp a.eval o).run P w=.ok .recover w)(hc:recoverD cs=none)
 (h:wpOpsSIn F n P ops Q rest (a.put o.dst .nilIface) cs w):wpOpsSIn F n P ops Q (i::rest) a cs w:=by
 simp only[wpOpsSIn,hi,hw,hr,hc,if_true];exact⟨Gn,h⟩
theorem aZG{v:Value}(hi:ops[i]? =some o)(Gn:∀f,o.about P w a.eval=some f->F.fn f)(hw:Region.wanted o (yielded ops a.tmps)=true)(hr:(execOp a.eval o).run P w=.ok .recover w)(hc:recoverD cs=some (v,jJm))
 (h:wpOpsSIn F n P ops Q rest (a.put o.dst v) jJm w):wpOpsSIn F n P ops Q (i::rest) a cs w:=by
 simp only[wpOpsSIn,hi,hw,hr,hc,if_true];exact⟨Gn,h⟩
theorem mh{v:Value}(hi:ops[i]? =some o)(Gn:∀f,o.about P w a.eval=some f->F.fn f)(hw:Region.wanted o (yielded ops a.tmps)=true)(hr:(execOp a.eval o).run P w=.ok (.value v) w)
 (h:wpOpsSIn F n P ops Q rest (a.put o.dst v) cs w):wpOpsSIn F n P ops Q (i::rest) a cs w:=by
 simp only[wpOpsSIn,hi,hw,hr,if_true];exact⟨Gn,h⟩
end
theorem Vq(A:Ar)[bM A]{P:Program}{T:bu}(hT:gE P T){fn:Func}{rest:Code}(ho:gu T rest=true){β:Nat->Nat}{env:Env}{h:ad}{a:Act}{w:World}{n:Nat}{c₀:Frame}{u':FrameMode}{cs:List Frame}{R:Value->ad->Prop}
 (hs:eO [] h w β env [] h a w) (Cx:∀c s h,¬T.kp c s h)
 (hx:sx A T (fun _=>P) rest (fun e env L h'=>match e with
  | .exit _=>False
  |_=>uE T env L h' fn.results.toList (fun l=>pJ l (fun v=>R v h'))) env [] h):
 rest.wpSIn Fence.wide n P (bodyPostS P fn c₀ cs fun e u w'=>u=u'/\∃v h',e=.returned v/\R v h'/\bW h w h' w') a ({ c₀ with mode:=u' }::cs) w:=by
 refine wpSIn_of_wpIn rfl ?_;refine lj (A:=A) (ro:=none) hT rest ho hs hx (qN.none Cx) fun e dh L' h' uh a' w' h1 h2=>?_;have fin:uE T dh L' h' fn.results.toList (fun l=>pJ l (fun v=>R v h'))->a'.defers=[]/\∃u,{ c₀ with mode:=u' }::cs={ c₀ with mode:=u }::cs/\∃v,(results fn a'.tmps).run P w'=.ok v w'/\(u=u'/\∃v1 h1,Ending.returned v=.returned v1/\R v1 h1/\bW h w h1 w'):=fun hr=>by
  obtain⟨v,h3,h4,h5⟩:=yJ hT h2 hr;exact⟨h2.defers,u',rfl,v,h3,rfl,v,h',rfl,h4,h5⟩
 cases e with
 |normal=>exact fin h1
 |ret=>exact fin h1
 |exit id=>exact h1.elim
theorem bJo(va ea:Value)(h:ad):gZt 246 [va,ea] h (fun _ h'=>h'=h):=by
 refine⟨fun w hw n=>?_⟩;refine callsDIn_of_wpSIn (show Tryz.prog.funcs[246]? =some Tryz.f246 from Tryz.func246) rfl trivial fun c₀ cs hm=>?_;refine wpSIn_seq ?_;refine wpSIn_region ?_;have Cs:recoverD (c₀::cs)=none:=by simp only[recoverD,hm]
 show wpOpsSIn _ _ _ _ _ [0,1,2,3,4,5,6] _ _ _;refine aZH rfl (fun _ _=>trivial) rfl rfl Cs ?_;refine mh (v:=.tuple #[.int .i64 0,.bool false]) rfl (fun _ _=>trivial) rfl (by kernel_rfl) ?_;refine mh (v:=.tuple #[.int .i64 0,.bool false]) rfl (fun _ _=>trivial) rfl (by kernel_rfl) ?_;refine mh (v:=.int .i64 0) rfl (fun _ _=>trivial) rfl (by kernel_rfl) ?_;refine mh (v:=.bool false) rfl (fun _ _=>trivial) rfl (by kernel_rfl) ?_;refine mh (v:=.int .i64 0) rfl (fun _ _=>trivial) rfl (by kernel_rfl) ?_;refine mh (v:=.bool false) rfl (fun _ _=>trivial) rfl (by kernel_rfl) ?_;obtain⟨A,hA⟩:=Ar.ex;have s0:=mC (f:=246) (fn:=Tryz.f246) (args:=[va,ea]) hw;have s1:=s0.put (d:=some 5) (x:=.v .nilIface) (v:=.nilIface) rfl;have s2:=s1.put (d:=some 6) (x:=.v (.tuple #[.int .i64 0,.bool false])) (v:=.tuple #[.int .i64 0,.bool false]) rfl;have s3:=s2.put (d:=some 4) (x:=.v (.tuple #[.int .i64 0,.bool false])) (v:=.tuple #[.int .i64 0,.bool false]) rfl;have s4:=s3.put (d:=some 7) (x:=.v (.int .i64 0)) (v:=.int .i64 0) rfl;have s5:=s4.put (d:=some 8) (x:=.v (.bool false)) (v:=.bool false) rfl;have s6:=s5.put (d:=some 2) (x:=.v (.int .i64 0)) (v:=.int .i64 0) rfl;have s7:=s6.put (d:=some 3) (x:=.v (.bool false)) (v:=.bool false) rfl;have NO:c₀={ c₀ with mode:=.returning }:=by rw[<-hm]
 have key:=Vq (n:=n) (c₀:=c₀) (cs:=cs) (u':=.returning) (fn:=Tryz.f246) (R:=fun _ h'=>h'=h) A (ax cZP.aK cZP.bF) (rest:=?_) ?_ s7 (fun _ _ _ q=>q) ?_
 ·rw[<-NO]at key;exact key
 ·kernel_rfl
 ·cbv
theorem bJn{vb eb:Nat}{h:ad}{c1 c2 c3 c4:Value}(g1:h vb=some (.cells #[c1,c2,c3] 61 (0,0)))(g2:h eb=some (.cells #[c4] 35 (0,0)))(ch:vb≠eb){R:ad->Prop}
 (hR:R (bU (bU h vb (.cells #[.int .i64 0,.int .i64 0,.string ⟨#[]⟩] 61 (0,0))) eb (.cells #[.int .i64 11] 35 (0,0)))):
 gZs (fun _=>Tryz.prog) 246 [.pointer (some ⟨vb,0,none⟩),.pointer (some ⟨eb,0,none⟩)] (.iface 35 (.int .i64 11)) h R:=by
 refine⟨fun w hw n=>?_⟩;refine callsDIn_of_wpSIn (show Tryz.prog.funcs[246]? =some Tryz.f246 from Tryz.func246) rfl trivial fun c₀ cs hm=>?_;refine wpSIn_seq ?_;refine wpSIn_region ?_;have Cs:recoverD (c₀::cs)=some (.iface 35 (.int .i64 11),{ c₀ with mode:=.panicking [{ v:=.iface 35 (.int .i64 11),recovered:=true }] }::cs):=by simp only[recoverD,hm]
 show wpOpsSIn _ _ _ _ _ [0,1,2,3,4,5,6] _ _ _;refine aZG rfl (fun _ _=>trivial) rfl rfl Cs ?_;refine mh (v:=.tuple #[.int .i64 11,.bool true]) rfl (fun _ _=>trivial) rfl (by kernel_rfl) ?_;refine mh (v:=.tuple #[.int .i64 11,.bool true]) rfl (fun _ _=>trivial) rfl (by kernel_rfl) ?_;refine mh (v:=.int .i64 11) rfl (fun _ _=>trivial) rfl (by kernel_rfl) ?_;refine mh (v:=.bool true) rfl (fun _ _=>trivial) rfl (by kernel_rfl) ?_;refine mh (v:=.int .i64 11) rfl (fun _ _=>trivial) rfl (by kernel_rfl) ?_;refine mh (v:=.bool true) rfl (fun _ _=>trivial) rfl (by kernel_rfl) ?_;obtain⟨A,hA⟩:=Ar.ex;have s0:=mC (f:=246) (fn:=Tryz.f246) (args:=[.pointer (some ⟨vb,0,none⟩),.pointer (some ⟨eb,0,none⟩)]) hw;have s1:=s0.put (d:=some 5) (x:=.v (.iface 35 (.int .i64 11))) (v:=.iface 35 (.int .i64 11)) rfl;have s2:=s1.put (d:=some 6) (x:=.v (.tuple #[.int .i64 11,.bool true])) (v:=.tuple #[.int .i64 11,.bool true]) rfl;have s3:=s2.put (d:=some 4) (x:=.v (.tuple #[.int .i64 11,.bool true])) (v:=.tuple #[.int .i64 11,.bool true]) rfl;have s4:=s3.put (d:=some 7) (x:=.v (.int .i64 11)) (v:=.int .i64 11) rfl;have s5:=s4.put (d:=some 8) (x:=.v (.bool true)) (v:=.bool true) rfl;have s6:=s5.put (d:=some 2) (x:=.v (.int .i64 11)) (v:=.int .i64 11) rfl;have s7:=s6.put (d:=some 3) (x:=.v (.bool true)) (v:=.bool true) rfl;have key:=Vq (n:=n) (c₀:=c₀) (cs:=cs) (u':=.panicking [{ v:=.iface 35 (.int .i64 11),recovered:=true }]) (fn:=Tryz.f246) (R:=fun _ h'=>R h') A (ax cZP.aK cZP.bF) (rest:=?_) ?_ s7 (fun _ _ _ q=>q) ?_
 ·exact key
 ·kernel_rfl
 ·cbv;refine ja g1 (by simp) (fun h1 e1=>?_);have ou:h1 eb=some (.cells #[c4] 35 (0,0)):=by rw[e1,aO (Ne.symm ch)];exact g2
  have hR:R (bU h1 eb (.cells #[.int .i64 11] 35 (0,0))):=by rw[e1];exact hR
  clear g1 g2 e1;cbv;refine ja ou (by simp) (fun h2 e2=>?_);subst e2;cbv;exact hR
def eXC(cols:List cK)(n:Nd)(i:Nat):Prop:=ek n.op>=0/\(ek n.op>0->0<=n.a/\n.a<i)/\(ek n.op>1->0<=n.b/\n.b<i)/\(n.op=2->(gS n.name cols).2=0)
theorem aJC{n:Nd}{l:List Int}{cols:List cK}{k:Int}(h:Ag n l cols=(k,0)):eXC cols n l.length:=by
 unfold Ag at h;by_cases c:ek n.op<0\/(ek n.op>0/\(n.a<0\/n.a>=l.length))\/(ek n.op>1/\(n.b<0\/n.b>=l.length))
 ·rw[if_pos c]at h;cases h
 ·rw[if_neg c]at h;refine⟨by omega,fun g=>by omega,fun g=>by omega,fun g=>?_⟩;rw[if_neg (by omega),if_pos g]at h;generalize gS n.name cols=r at *;obtain⟨c,e⟩:=r;have h:(if e≠0 then(0,e)else(match cols[c.toNat]? with
   |some c=>(c.kind,0)
   |none=>(0,0)))=(k,0):=h
  by_cases he:e=0
  ·exact he
  ·rw[if_pos he]at h;cases h;exact rfl
theorem Kx{cols:List cK}:∀ {ex:List Nd} {l m:List Int},eK cols ex l=(m,0)->∀i n,ex[i]? =some n->eXC cols n (l.length+i)
 | [],_,_,_,i,n,hn=>by simp at hn
 |x::r,l,m,h,i,n,hn=>by
  rw[gP]at h;cases hk:Ag x l cols with
  |mk k e=>
   rw[hk]at h;have h:(if e≠0 then(l,e)else eK cols r (l++[k]))=(m,0):=h;by_cases he:e=0
   ·subst he;rw[if_neg (fun g=>g rfl)]at h;cases i with
    |zero=>simp at hn;subst hn;exact aJC hk
    |succ i=>have:=Kx h i n (by simpa using hn);rw[nX,mQu]at this;rw[show l.length+(i+1)=l.length+1+i by omega];exact this
   ·rw[if_pos he]at h;cases h;exact absurd rfl he
theorem bZa{ex:List Nd}{cols:List cK}{k:Int}(h:jv ex cols=(k,0)):ex.length>=1/\ex.length<=60/\∀i n,ex[i]? =some n->eXC cols n i:=by
 unfold jv at h;by_cases c:ex.length<1\/ex.length>60
 ·rw[if_pos c]at h;cases h
 ·rw[if_neg c]at h;refine⟨by omega,by omega,?_⟩;cases hk:eK cols ex []with
  |mk l f=>
   rw[hk]at h;have h:(if f≠0 then((0:Int),f)else(Af l,0))=(k,0):=h;by_cases hf:f=0
   ·subst hf;intro i n hn;have:=Kx hk i n hn;simpa using this
   ·rw[if_pos hf]at h;cases h;exact absurd rfl hf
theorem xL(cols:List cK)(r:Row)(n:Nd)(e:List Nd)(l:List cO):gM cols r (n::e) l=match xM n l cols r with
 |some v=>gM cols r e (l++[v])
 |none=>none:=rfl
theorem YC{l:List cO}{i:Nat}{x:cO}(h:l[i]? =some x)(hi:l.length=i+1):xV l=x:=by unfold xV;rw[mZD,hi];simp only[mXn];rw[h];rfl
def kM(v:cO):Prop:=rr v.n=true
theorem JT(b:Bool):kM (bD b):=by cases b<;>(show rr _=true;decide)
theorem kA:kM v0:=by show rr _=true;decide
theorem bKA{x:Int}{w:cO}(h:xK x=some w):kM w:=by
 unfold xK at h;split at h
 ·rename_i g;cases h;exact g
 ·cases h
theorem aZB{op:Int}{a b w:cO}(ha:kM a)(hb:kM b)(h:qK op a b=some w):kM w:=by
 unfold qK at h;repeat' (split at h)
 all_goals first
  | (cases h;exact JT _)
  | (cases h;exact kA)
  | (cases h
     unfold oT;repeat' split
     all_goals first
      |exact ha
      |exact hb
      |exact JT _
      |exact kA)
  | (unfold eD at h
     repeat' (split at h)
     all_goals exact bKA h)
theorem RZ{l:List cO}(hl:∀v∈l,kM v)(a:Int):kM (fT l a):=by
 unfold fT;cases h:l[a.toNat]? with
 |none=>exact kA
 |some x=>exact hl x (GD h)
theorem OZ{n:Nd}{l:List cO}{cols:List cK}{r:Row}{w:cO}(hn:kM n.v)(hl:∀v∈l,kM v)(hr:∀v∈r,kM v)(h:xM n l cols r=some w):kM w:=by
 unfold xM at h;split at h
 ·cases h;exact hn
 ·split at h
  ·cases h;exact RZ hr _
  ·split at h<;>exact aZB (RZ hl _) (RZ hl _) h
theorem Gx{ex:List Nd}(hn:∀n∈ex,Nm n.name/\kM n.v){cols:List cK}(hc:∀c∈cols,Nm c.name){r:Row}(hr:∀v∈r,kM v){h:ad}{eb:Option Addr}{en ec:Nat}(qe:Sl 325 fx h (.slice eb en ec) ex)
 {cb:Option Addr} {cn cc:Nat} (qc:Sl 165 bI h (.slice cb cn cc) cols) {rb:Option Addr} {rn rc:Nat} (qr:Sl 61 bq h (.slice rb rn rc) r) {k:Value->ad->Prop}
 (hk:∀h' v e w,Le h h'->(v,e)=eP ex cols r->w=v.v->k (.tuple #[w,.int .i64 e]) h'):
 Ct 163 [.slice eb en ec,.slice cb cn cc,.slice rb rn rc] h k:=by
 obtain⟨A,hA⟩:=Ar.ex;have Qh:=qe.len;have hP:eP ex cols r=match jv ex cols with
  | (_,f)=>if f≠0 then(v0,f)else match gM cols r ex []with
   |some l=>(xV l,0)
   |none=>(v0,11):=rfl
 generalize eP ex cols r=D at *;refine Zj A (tK gXw.aK gXw.bF Mf [] (fun _ _ _=>False)) Tryz.func163 rfl (fun _ _=>by kernel_rfl) (by kernel_rfl) ?_;cbv;intro vb h1 gv e1;have g1:h1 vb=some (.cells #[.int .i64 0,.int .i64 0,.string ⟨#[]⟩] 61 (0,0)):=by rw[e1];exact ae
 have l1:Le h h1:=by rw[e1];exact Le.set gv
 cbv;intro Ux h2 ge e2;have ch:vb≠Ux:=fun e=>by rw[<-e,g1]at ge;cases ge
 have l2:Le h1 h2:=by rw[e2];exact Le.set ge
 have g2:h2 vb=some (.cells #[.int .i64 0,.int .i64 0,.string ⟨#[]⟩] 61 (0,0)):=l2 _ _ g1;have g3:h2 Ux=some (.cells #[.int .i64 0] 35 (0,0)):=by rw[e2];exact ae
 have jZ:=l1.trans l2;have eQe:h Ux=none:=by
  cases hh:h Ux with
  |none=>rfl
  |some o=>rw[l1 _ _ hh]at ge;cases ge
 have Ig:∀h' (v:cO) (e:Int),Le h2 h'->(v,e)=D->∀h5,h5=bU (bU h' vb (.cells #[.int .i64 v.k,.int .i64 v.n,.string v.s] 61 (0,0))) Ux (.cells #[.int .i64 e] 35 (0,0))->
  Le h h5:=fun h' v e l _ h5 e5 b o hb=>by
  rw[e5,aO (fun e=>by rw[e,eQe]at hb;cases hb),aO (fun e=>by rw[e,gv]at hb;cases hb)];exact l _ _ (jZ _ _ hb)
 clear e1 e2 l1 l2 g1 ge;cbv;refine bZb (fun n hh=>(hn n hh).1) hc (qe.mono (jZ.t _)) (qc.mono (jZ.t _)) (fun h3 kd e l3 kC=>?_);have fe:A .aI .neq e 0=decide (e≠0):=aC A ..;rw[<-kC]at hP;replace hP:D=if e≠0 then(v0,e)else match gM cols r ex []with
  |some l=>(xV l,0)
  |none=>(v0,11):=hP
 by_cases h0:e≠0
 ·rw[if_pos h0]at hP;have ou:=l3 _ _ g2;have bJa:=l3 _ _ g3;have hL:=Ig h3 v0 e l3 hP.symm;have hk:=fun h' l=>hk h' v0 e _ l hP.symm rfl;clear hP kC Ig g2 g3;cbv;rw[fe,kS h0];cbv;refine ja ou (by simp) (fun h4 e4=>?_);have g4:h4 Ux=some (.cells #[.int .i64 0] 35 (0,0)):=by rw[e4,aO (Ne.symm ch)];exact bJa
  cbv;refine ja g4 (by simp) (fun h5 e5=>?_);have af:=hk h5 (hL h5 (by rw[e5,e4];rfl));have g5:h5 vb=some (.cells #[.int .i64 0,.int .i64 0,.string ⟨#[]⟩] 61 (0,0)):=by rw[e5,aO ch,e4];exact ae
  have g6:h5 Ux=some (.cells #[.int .i64 e] 35 (0,0)):=by rw[e5];exact ae
  clear hk hL e4 e5 g4 ou bJa;cbv;refine aB g5 rfl rfl ?_;cbv;refine aB g6 rfl rfl ?_;cbv;exact af
 rw[if_neg h0]at hP;have e0:e=0:=mQW.1 h0;subst e0;obtain⟨MI,KC,KL⟩:=bZa kC.symm;clear kC;obtain⟨R,hR⟩:∃R,gM cols r ex []=R:=⟨_,rfl⟩;rw[hR]at hP;obtain⟨I,aY⟩:∃I:Nat->Int×(Option Addr×Nat×Nat)->ad->Prop,∀m g h',I m g h'=∃i l,aS g.1 i/\i<=en/\m=en-i/\Le h3 h'/\cF 61 bq h3 h' (.slice g.2.1 g.2.2.1 g.2.2.2) l/\l.length=i/\(∀v∈l,kM v)/\gM cols r (ex.drop i) l=R:=⟨_,fun _ _ _=>rfl⟩;have hJ:I en (0,none,0,0) h3:=by rw[aY];exact⟨0,[],⟨rfl⟩,mQr _,rfl,Le.refl _,cF.nil,rfl,(fun _ hh=>by cases hh),hR⟩
 clear hR;cbv;rw[fe,nM h0];cbv;refine aX.go (G:=Int×(Option Addr×Nat×Nat)) (fun g=>[(26,.v (.int .i64 g.1)),(10,.v (.slice g.2.1 g.2.2.1 g.2.2.2))]) (fun _=>[]) (fun m g h'=>I m g h') en (0,none,0,0) ⟨?_,?_,?_⟩ hJ ?_
 ·cbv
 ·cbv
 ·cbv
 ·intro m g h4 hI;rw[aY]at hI;cbv;obtain⟨i,l,hg,hi,hm,l4,ba,bZJ,tW,he⟩:=hI;obtain⟨z,ab,an,ac⟩:=g;have hg:aS z i:=hg;have ba:cF 61 bq h3 h4 (.slice ab an ac) l:=ba;have RM:=ba.sl.len;have f3:A .aI .lss z (A .nat en)=decide (i<en):=hg.iJ (aS.nat en);have rY:=jZ.trans (l3.trans l4);have rK:=l3.trans l4;rw[f3];by_cases aP:i<en
  ·obtain⟨n,qC⟩:=aE (xs:=ex) (i:=i) (by omega);have hd:ex.drop i=n::ex.drop (i+1):=by obtain⟨h1,h2⟩:=HH.1 qC;rw[mQy h1,h2]
   rw[hd,xL]at he;have cJ:eb.isSome=true/\0<=z/\z<(en:Int):=⟨qe.aT (by omega),hg.ix aP⟩;have cN:=hg.eq;have cZ:=hg.succ (A:=A) (by omega);have kX:en-(i+1)<m:=by omega
   have cD:∀a b3 m3 c3 dKV,kM a->gM cols r (ex.drop (i+1)) (l++[a])=R->cF 61 bq h3 dKV (.slice b3 m3 c3) (l++[a])->Le h3 dKV->I (en-(i+1)) (A .bB .add .i64 z 1,b3,m3,c3) dKV:=fun a b3 m3 c3 dKV ia e3 ry kZK=>by
    rw[aY];exact⟨i+1,_,cZ,aP,rfl,kZK,ry,by rw[nX,mQu,bZJ],(by
     intro v hv;rcases mQv.1 hv with hv|hv
     ·exact tW v hv
     ·rcases mQs.1 hv with hv|hv
      ·rw[hv];exact ia
      ·cases hv),e3⟩
   have wD:=hn n (GD qC);have nR:=KL i n qC;rw[<-bZJ]at nR;have sM:an+1<=2^39:=by omega
   have bZF:R=none->(v0,11)=D:=fun e=>by rw[hP,e]
   clear aY hJ hd cZ hP;rw[kS aP];cbv;refine⟨cJ,?_⟩;cbv;refine(qe.mono (rY.t _)).load qC cN (fun cs ay=>?_);obtain⟨op,a,b,⟨vk,vn,vs⟩,name⟩:=n;have ay:cs=[.int .i64 op,.int .i64 a,.int .i64 b,.int .i64 vk,.int .i64 vn,.string vs,.string name]:=ay;subst ay;cbv;refine eKP (n:=⟨op,a,b,⟨vk,vn,vs⟩,name⟩) wD.1 hc ba.sl (qc.mono (rY.t _)) (qr.mono (rY.t _)) nR.1 nR.2.1 nR.2.2.1 nR.2.2.2 tW (fun h5 w v l5 hw hv=>?_) (fun h5 l5 hw=>?_)
   ·have iw:=OZ (n:=⟨op,a,b,⟨vk,vn,vs⟩,name⟩) wD.2 tW hr hw;rw[hw]at he;have he:gM cols r (ex.drop (i+1)) (l++[w])=R:=he;have cD:=fun b3 m3 c3 h3=>cD w b3 m3 c3 h3 iw he;obtain⟨wk,wn,ws⟩:=w;subst hv;clear hk he Ig bZF;cbv;intro n2 h6 g6 e6;have l6:Le h5 h6:=by rw[e6];exact Le.set g6
    have v2:Sl 61 bq h6 (.slice (some ⟨n2,0,none⟩) 1 1) [⟨wk,wn,ws⟩]:=bA (s:=bq) ((congrFun e6 n2).trans ae) rfl;cbv;refine(ba.mono ((l5.trans l6).t _)).append v2 (by decide) rfl (by decide) sM (l4.trans (l5.trans l6)) (fun m3 b3 c3 h7 eQE l7 t3 k3 ry=>?_);have jd:=cD b3 m3 c3 h7 ry l7;clear cD t3 k3 ry;cbv;refine⟨en-(i+1),(_,_,_,_),kX,⟨?_,?_,?_⟩,jd⟩
    ·cbv
    ·cbv
    ·cbv
   ·rw[hw]at he;have hD:=bZF he.symm;have aJw:=rK.trans l5;have hL:=Ig h5 v0 11 aJw hD;have hk:=fun h' l=>hk h' v0 11 _ l hD rfl;have ou:=aJw _ _ g2;have bJa:=aJw _ _ g3;clear cD bZF Ig he KL;refine⟨_,rfl,bJn ou bJa ch ?_⟩;obtain⟨h6,e6⟩:∃h6,h6=bU (bU h5 vb (.cells #[.int .i64 0,.int .i64 0,.string ⟨#[]⟩] 61 (0,0))) Ux (.cells #[.int .i64 11] 35 (0,0)):=⟨_,rfl⟩;have af:=hk h6 (hL h6 e6);have g5:h6 vb=some (.cells #[.int .i64 0,.int .i64 0,.string ⟨#[]⟩] 61 (0,0)):=by rw[e6,aO ch];exact ae
    have g6:h6 Ux=some (.cells #[.int .i64 11] 35 (0,0)):=by rw[e6];exact ae
    rw[<-e6];clear hk hL e6 ou bJa;cbv;refine aB g5 rfl rfl ?_;cbv;refine aB g6 rfl rfl ?_;cbv;exact af
  ·have lW:i=en:=by omega
   rw[mQR (by omega)]at he;have he:some l=R:=he;rw[<-he]at hP;have hP:D=(xV l,0):=hP;obtain⟨x,hx⟩:=aE (xs:=l) (i:=i-1) (by omega);rw[YC hx (by omega)]at hP;have hL:=Ig h4 x 0 rK hP.symm;have hk:=fun h' l=>hk h' x 0 _ l hP.symm rfl;have eM:=(aS.nat (A:=A) an).sub (A:=A) (⟨rfl⟩:aS 1 1) (by omega) (by omega);have cN:=eM.eq;have cJ:ab.isSome=true/\0<=A .bB .sub .i64 (A .nat an) 1/\A .bB .sub .i64 (A .nat an) 1<(an:Int):=⟨ba.sl.aT (by omega),eM.ix (by omega)⟩;have hx:l[an-1]? =some x:=by rw[RM,bZJ];exact hx
   have ou:=rK _ _ g2;have bJa:=rK _ _ g3;clear aY hJ hP he eM Ig KL;rw[nM aP];cbv;refine⟨cJ,?_⟩;cbv;refine ba.sl.load hx cN (fun cs ay=>?_);obtain⟨xk,xn,xs⟩:=x;have ay:cs=[.int .i64 xk,.int .i64 xn,.string xs]:=ay;subst ay;cbv;refine ja ou (by simp) (fun h5 e5=>?_);have g4:h5 Ux=some (.cells #[.int .i64 0] 35 (0,0)):=by rw[e5,aO (Ne.symm ch)];exact bJa
   cbv;refine ja g4 (by simp) (fun h6 e6=>?_);have af:=hk h6 (hL h6 (by rw[e6,e5];rfl));have g5:h6 vb=some (.cells #[.int .i64 xk,.int .i64 xn,.string xs] 61 (0,0)):=by rw[e6,aO ch,e5];exact ae
   have g6:h6 Ux=some (.cells #[.int .i64 0] 35 (0,0)):=by rw[e6];exact ae
   clear hk hL e5 e6 g4 ou bJa;cbv;refine(bJo _ _ h6).mono (fun v h7 e7=>?_);subst e7;cbv;refine aB g5 rfl rfl ?_;cbv;refine aB g6 rfl rfl ?_;cbv;exact af
def aR(t:cW):List cK:=t.S.cols.map fun c=>⟨t.S.name++aM [46]++c.name,c.kind,c.null⟩
def ku(e:List Nd)(cols:List cK)(want:Int):Int:=match jv e cols with
 | (k,f)=>if f=0/\k≠0/\k≠want then 3 else f
def aU(e:List Nd)(cols:List cK):Int:=if e.length=0 then 0 else ku e cols 1
def dt(e:List Nd)(cols:List cK)(r:Row):Bool×Int:=if e.length=0 then(true,0)else match eP e cols r with
 | (v,f)=>(decide (v.k=1)&&decide (v.n=1),f)
def ey{α:Type}(f:α->Int):List α->Int
 | []=>0
 |x::r=>if f x≠0 then f x else ey f r
def pF(cols:List cK)(r:Row):List (List Nd)->Row->Row×Int
 | [],l=>(l,0)
 |x::xs,l=>match eP x cols r with
  | (v,f)=>if f≠0 then([],f)else pF cols r xs (l++[v])
def bS(l:List (List Nd))(cols:List cK)(r:Row):Row×Int:=pF cols r l []
def cI(d:DB)(nm:ByteArray):cW:=(d.az.find? fun t=>decide (t.S.name=nm)).getD ⟨⟨b0,[],0,false⟩,[]⟩
def eN(bV:List Nd)(cols:List cK)(f:Row->Row×Int):List Row->List Row×List Row->(List Row×List Row)×Int
 | [],p=>(p,0)
 |r::rs,p=>match dt bV cols r with
  | (is,e)=>if e≠0 then(p,e)else if is=false then eN bV cols f rs p else match f r with
   | (n,e)=>if e≠0 then((p.1++[r],p.2++[n]),e)else eN bV cols f rs (p.1++[r],p.2++[n])
def CV{α:Type}(f:DB->α->DB×Int):List α->DB->DB×Int
 | [],d=>(d,0)
 |x::r,d=>match f d x with
  | (d',e)=>if e≠0 then(d',e)else CV f r d'
def mD(d:DB)(nm:ByteArray)(r:Row):cO:=fT r (cI d nm).S.key
def iZ(s:Int)(nm:ByteArray):List Row->DB->DB×Int:=CV fun d r=>iz d s nm (mD d nm r)
def uH(s:Int)(nm:ByteArray):List Row->DB->DB×Int:=CV fun d r=>fF d s nm r
def cP(dQV:DB)(r:DB×Int):DB×List Row×Int:=if r.2≠0 then(dQV,[],r.2)else(r.1,[],0)
def nO(d:DB)(s:Int)(x:aJ):DB×List Row×Int:=match aL d ⟨s,x.table,true⟩with
 | (d,e)=>if e≠0 then(d,[],e)else cP d (match bS x.exprs [] []with
  | (r,e)=>if e≠0 then(d,e)else fF d s x.table r)
def pQ(cols:List cK)(nm:ByteArray):Int×Bool:=match jR cols nm 0 with
 |some k=>((k:Int),true)
 |none=>(0,false)
def mg(cols:List cK):List ByteArray->List Int->List Int×Int
 | [],l=>(l,0)
 |nm::r,l=>match pQ cols nm with
  | (k,is)=>if is=false then(l,2)else if k∈l then(l,7)else mg cols r (l++[k])
def zG(cols:List cK)(k:Int):Int:=match cols[k.toNat]? with
 |some c=>c.kind
 |none=>0
def mE(cols mI:List cK):List (List Nd×Int)->Int
 | []=>0
 | (x,k)::r=>if ku x cols (zG mI k)≠0 then ku x cols (zG mI k)else mE cols mI r
def mR(t:cW)(x:aJ):Int:=match mg t.S.cols x.names []with
 | (pl,e)=>if e≠0 then e else if mE (aR t) t.S.cols (x.exprs.zip pl)≠0 then mE (aR t) t.S.cols (x.exprs.zip pl)else aU x.bV (aR t)
def Aa(cols:List cK):List (cO×ByteArray)->Row->Row
 | [],r=>r
 | (v,nm)::l,r=>Aa cols l (r.set (pQ cols nm).1.toNat v)
def oY(t:cW)(x:aJ)(r:Row):Row×Int:=match bS x.exprs (aR t) r with
 | (l,e)=>(Aa t.S.cols (l.zip x.names) r,e)
def kj(d:DB)(s:Int)(x:aJ):DB×List Row×Int:=match aL d ⟨s,x.table,true⟩with
 | (d,e)=>if e≠0 then(d,[],e)else if(cI d x.table).S.only=true then(d,[],19)else cP d (
  if mR (cI d x.table) x≠0 then(d,mR (cI d x.table) x)else match eN x.bV (aR (cI d x.table)) (oY (cI d x.table) x) (cI d x.table).rows ([],[])with
   | (p,e)=>if e≠0 then(d,e)else match iZ s x.table p.1 d with
    | (d,e)=>if e≠0 then(d,e)else uH s x.table p.2 d)
def jt(d:DB)(s:Int)(x:aJ):DB×List Row×Int:=match aL d ⟨s,x.table,true⟩with
 | (d,e)=>if e≠0 then(d,[],e)else if(cI d x.table).S.only=true then(d,[],19)else cP d (
  if aU x.bV (aR (cI d x.table))≠0 then(d,aU x.bV (aR (cI d x.table)))else match eN x.bV (aR (cI d x.table)) (fun _=>([],0)) (cI d x.table).rows ([],[])with
   | (p,e)=>if e≠0 then(d,e)else iZ s x.table p.1 d)
def bN(nm:ByteArray)(cols:List cK):Int×Int:=if nm=b0 then(-1,0)else gS nm cols
def lT(cols:List cK)(i:dO):Int:=if i.fn=1 then 0 else if i.fn=2 then ku i.e cols 2 else(jv i.e cols).2
def cM(cols:List cK)(group:Int)(i:dO):Int:=if i.fn≠0 then 0 else if group<0 then 3 else match i.e with
 | [n]=>if n.op≠2 then 3 else match gS n.name cols with
  | (k,e)=>if e≠0\/k≠group then 3 else 0
 |_=>3
structure Qy where
 group:Int
 order:Int
 kK:Bool
def dp(x:aJ)(cols:List cK):Qy×Int:=
 if aU x.on cols≠0 then(⟨-1,-1,false⟩,aU x.on cols)
 else if aU x.bV cols≠0 then(⟨-1,-1,false⟩,aU x.bV cols)
 else if ey (lT cols) x.items≠0 then(⟨-1,-1,false⟩,ey (lT cols) x.items)
 else match bN x.group cols with
  | (g,e)=>if e≠0 then(⟨g,-1,false⟩,e)else match bN x.order cols with
   | (o,e)=>if e≠0 then(⟨g,o,false⟩,e)else
    if(decide (x.group≠b0)||x.items.any fun i=>decide (i.fn≠0))=false then(⟨g,o,false⟩,0)
    else if x.items.length=0\/(o>=0/\o≠g)then(⟨g,o,true⟩,3)
    else(⟨g,o,true⟩,ey (cM cols g) x.items)
def gX(x:aJ)(cols:List cK)(a:Row):List Row->List Row->List Row×Int
 | [],out=>(out,0)
 |b::bs,out=>match dt x.on cols (a++b)with
  | (on,e)=>if e≠0 then(out,e)else if on=false then gX x cols a bs out else match dt x.bV cols (a++b)with
   | (is,e)=>if e≠0 then(out,e)else gX x cols a bs (if is=true then out++[a++b]else out)
def cT(x:aJ)(cols:List cK)(bs:List Row):List Row->List Row->List Row×Int
 | [],out=>(out,0)
 |a::l,out=>match gX x cols a bs out with
  | (out,e)=>if e≠0 then(out,e)else cT x cols bs l out
def bL{α:Type}(l:List α)(n:Int):List α:=if n<0 then l else l.take n.toNat
def Mg(desc:Bool)(a b:cO):Int:=if desc=true then bC b a else bC a b
def wP(k:Int)(desc:Bool)(a b:Row):Bool:=decide (Mg desc (fT a k) (fT b k)<0)
def eZ(x:aJ)(cols:List cK):List Row->List Row->List Row×Int
 | [],out=>(out,0)
 |r::rs,out=>if x.items.length=0 then eZ x cols rs (out++[r])else match bS (x.items.map (·.e)) cols r with
  | (v,e)=>if e≠0 then([],e)else eZ x cols rs (out++[v])
def eJ(x:aJ)(cols:List cK)(order:Int)(rows:List Row):List Row×Int:=eZ x cols (bL (if order>=0 then gL (wP order x.desc) rows else rows) x.eG) []
def cG(k:Int):List Row->List (List Row)->List (List Row)
 | [],out=>out
 |r::rs,out=>match out.getLast? with
  |none=>cG k rs [[r]]
  |some g=>match g.getLast? with
   |none=>cG k rs (out++[[r]])
   |some p=>if re (fT p k) (fT r k)=true then cG k rs (out.dropLast++[g++[r]])else cG k rs (out++[[r]])
def gV(k:Int)(desc:Bool)(rows:List Row):List (List Row):=if k<0 then [rows]else cG k (gL (wP k desc) rows) []
def iR(fn:Int)(v x:cO):cO×Int:=
 if v.k=0 then(x,0)
 else if fn=2 then eP [lit v,lit x,bin 14 0 1] [] []
 else if(fn=3/\bC x v<0)\/(fn=4/\bC x v>0)then(x,0)else(v,0)
def lO(fn:Int)(e:List Nd)(cols:List cK):List Row->cO->cO×Int
 | [],v=>(v,0)
 |r::rs,v=>match eP e cols r with
  | (x,f)=>if f≠0 then(v0,f)else if x.k=0 then lO fn e cols rs v else match iR fn v x with
   | (w,f)=>if f≠0 then(v0,f)else lO fn e cols rs w
def yA(cols:List cK)(group:Int)(i:dO)(g:List Row):cO×Int:=
 if i.fn=1 then(⟨2,g.length,b0⟩,0)else if i.fn=0 then(match g with
  |r::_=>(fT r group,0)
  | []=>(v0,0))else lO i.fn i.e cols g v0
def ki(cols:List cK)(group:Int)(g:List Row):List dO->Row->Row×Int
 | [],r=>(r,0)
 |i::is,r=>match yA cols group i g with
  | (v,e)=>if e≠0 then([],e)else ki cols group g is (r++[v])
def gJ(x:aJ)(cols:List cK)(group:Int):List (List Row)->List Row->List Row×Int
 | [],out=>(out,0)
 |g::gs,out=>match ki cols group g x.items []with
  | (r,e)=>if e≠0 then([],e)else gJ x cols group gs (out++[r])
def dw(x:aJ)(cols:List cK)(group:Int)(rows:List Row):List Row×Int:=gJ x cols group (bL (gV group x.desc rows) x.eG) []
def jI(x:aJ)(cols:List cK)(a b:List Row):List Row×Int:=match dp x cols with
 | (q,e)=>if e≠0 then([],e)else if a.length*b.length>4000 then([],4)else match cT x cols b a []with
  | (rows,e)=>if e≠0 then([],e)else if q.kK=true then dw x cols q.group rows else eJ x cols q.order rows
def gH(d:DB)(s:Int)(x:aJ):DB×List Row×Int:=
 if x.join=x.table then(d,[],7)else match aL d ⟨s,x.table,false⟩with
 | (d,e)=>if e≠0 then(d,[],e)else if x.join=b0 then(match jI x (aR (cI d x.table)) (cI d x.table).rows [[]]with
  | (l,e)=>(d,l,e))
  else match aL d ⟨s,x.join,false⟩with
   | (d,e)=>if e≠0 then(d,[],e)else match jI x (aR (cI d x.table)++aR (cI d x.join)) (cI d x.table).rows (cI d x.join).rows with
    | (l,e)=>(d,l,e)
def iD(d:DB)(s:Int)(x:aJ):DB×List Row×Int:=
 if x.kind=7 then((dy d s).1,[],(dy d s).2)
 else if x.kind=9 then((dC d s).1,[],(dC d s).2)
 else if x.kind=10 then((jT d s x.name).1,[],(jT d s x.name).2)
 else if x.kind=11 then((kg d s x.name).1,[],(kg d s x.name).2)
 else if x.kind=3 then nO d s x else if x.kind=4 then kj d s x else if x.kind=5 then jt d s x else if x.kind=6 then gH d s x
 else(d,[],1)
end Go.S
