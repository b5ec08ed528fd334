import Derived.Test.YtekoaiendgjkdaaGreatVA
import Derived.Test.YtekoaiendgjkdaaGreatSxB
import Derived.RecoverIn
import Derived.Test.YtekoaiendgjkdaaGreatNA
import Derived.Test.YtekoaiendgjkdaaGreatSA
set_option linter.unusedVariables false
set_option linter.unusedSimpArgs false
set_option linter.unusedSectionVars false
namespace Go.S
def rS:By->Option By
 | []=>none
 |c::r=>match decide (c.toNat=46)with
  |true=>some r
  |false=>rS r
def jF(s:ByteArray):Option ByteArray:=match rS s.data.toList with
 |some r=>some (ax r)
 |none=>none
def kJ(name col:ByteArray):Bool:=decide (name=col)||((jF name).isNone&&decide (jF col=some name))
def iA(name:ByteArray):List bT->Int->Option Int->Int×Int
 | [],_,none=>(0,2)
 | [],_,some a=>(a,0)
 |c::r,i,at_=>match kJ name c.name with
  |false=>iA name r (i+1) at_
  |true=>match at_ with
   |some _=>(0,12)
   |none=>iA name r (i+1) (some i)
def dK(name:ByteArray)(cols:List bT):Int×Int:=iA name cols 0 none
def cu(op:Int):Int:=
 if op=1\/op=2 then 0 else if op=3\/op=4\/op=5 then 1 else if 6<=op/\op<=16 then 2 else -1
def Cb(k want:Int):Bool:=decide (k=0)||decide (k=want)
def inK(op a b:Int):Int:=if op=8\/op=9\/op=10\/op=11\/op=12\/op=13 then(if a=0 then b else a)else if op=4\/op=14\/op=15\/op=16 then 2 else 1
def Yt(op:Int):Int:=if op=4\/op=14\/op=15\/op=16 then 2 else 1
def tI(op a b:Int):Int×Int:=
 if op=5 then(1,0)else if(!Cb a (inK op a b)|| !Cb b (inK op a b))=true then(0,3)else(Yt op,0)
def Fb(l:List Int)(a:Int):Int:=(l[a.toNat]?).getD 0
def pM(n:Nd)(l:List Int)(cols:List bT):Int×Int:=
 if cu n.op<0\/(cu n.op>0/\(n.a<0\/n.a>=l.length))\/(cu n.op>1/\(n.b<0\/n.b>=l.length))then(0,1)
 else if n.op=1 then(n.v.k,cQ n.v)
 else if n.op=2 then
  match dK n.name cols with
  | (c,e)=>if e≠0 then(0,e)else(match cols[c.toNat]? with
   |some c=>(c.kind,0)
   |none=>(0,0))
 else if cu n.op=1 then tI n.op (Fb l n.a) (Fb l n.a)else tI n.op (Fb l n.a) (Fb l n.b)
def eN(cols:List bT):List Nd->List Int->List Int×Int
 | [],l=>(l,0)
 |n::r,l=>match pM n l cols with
  | (k,e)=>if e≠0 then(l,e)else eN cols r (l++[k])
def tJ(l:List Int):Int:=(l.getLast?).getD 0
def fZ(e:List Nd)(cols:List bT):Int×Int:=
 if e.length<1\/e.length>60 then(0,1)else match eN cols e []with
  | (l,f)=>if f≠0 then(0,f)else(tJ l,0)
def bH(b:Bool):dg:=match b with
 |true=>⟨1,1,b0⟩
 |false=>⟨1,0,b0⟩
def m6(x:Int):Bool:=decide (-9223372036854775808<=x)&&decide (x<=9223372036854775807)
def pB(x:Int):Option dg:=if m6 x=true then some ⟨2,x,b0⟩else none
def cO(op a b:Int):Option dg:=if op=4 then pB (-a)else if op=14 then pB (a+b)else if op=15 then pB (a-b)else pB (a*b)
def AT(a b:dg):Bool:=decide (a.k=b.k)&&decide (a.n=b.n)&&decide (a.s=b.s)
def mW(op:Int)(a b:dg):dg:=
 if AT a (bH (decide (op=6)))=true then a else if AT b (bH (decide (op=6)))=true then b
 else if a.k=0\/b.k=0 then v0 else bH (!decide (op=6))
def j9(op:Int)(a b:dg):Option dg:=
 if op=5 then some (bH (decide (a.k=0)))
 else if op=6\/op=7 then some (mW op a b)
 else if a.k=0\/b.k=0 then some v0
 else if op=3 then some (bH (decide (a.n=0)))
 else if op=8 then some (bH (decide (ch a b=0)))
 else if op=9 then some (bH (decide (ch a b≠0)))
 else if op=10 then some (bH (decide (ch a b<0)))
 else if op=11 then some (bH (decide (ch a b<=0)))
 else if op=12 then some (bH (decide (ch a b>0)))
 else if op=13 then some (bH (decide (ch a b>=0)))
 else cO op a.n b.n
def pQ(l:List dg)(a:Int):dg:=(l[a.toNat]?).getD v0
def oB(n:Nd)(l:List dg)(cols:List bT)(r:Row):Option dg:=
 if n.op=1 then some n.v
 else if n.op=2 then(match dK n.name cols with
  | (c,_)=>some (pQ r c))
 else if cu n.op=1 then j9 n.op (pQ l n.a) (pQ l n.a)else j9 n.op (pQ l n.a) (pQ l n.b)
def gL(cols:List bT)(r:Row):List Nd->List dg->Option (List dg)
 | [],l=>some l
 |n::e,l=>match oB n l cols r with
  |some v=>gL cols r e (l++[v])
  |none=>none
def pL(l:List dg):dg:=(l.getLast?).getD v0
def eA(e:List Nd)(cols:List bT)(r:Row):dg×Int:=match fZ e cols with
 | (_,f)=>if f≠0 then(v0,f)else match gL cols r e []with
  |some l=>(pL l,0)
  |none=>(v0,11)
set_option maxRecDepth 100000
set_option maxHeartbeats 8000000
open Go.Sx Go.Proofs
def W5(s:ByteArray):Prop:=∀i,i<s.size->(s.data.getD i 0).toNat<128
theorem Gt{P:Program}{ty:TypeId}{h:ad}{r pos:Nat}{s:ByteArray}(g:h r=some (.stringIter s pos))(ha:∀i,i<s.size->(s.data.getD i 0).toNat<128)
 {k:Value->ad->Prop} (h0:s.size<=pos->k (.tuple #[.bool false]) h)
 (hK:∀h' z b,pos<s.size->h'=bp h r (.stringIter s (pos+1))->aS z pos->b=((s.data.getD pos 0).toNat:Int)->k (.tuple #[.bool true,.int .i64 z,.int .i32 b]) h'):
 dq (fun _=>P) (fun _=>Instr.next (.pointer (some ⟨r,0,none⟩)) true ty) h k:=Gu g ha h0 (fun h' hp e=>hK h' _ _ hp e ⟨rfl⟩ rfl)
theorem LF(c:UInt8)(r:By):rS (c::r)=match decide (c.toNat=46)with
 |true=>some r
 |false=>rS r:=rfl
theorem FQ{s:ByteArray}(hs:W5 s)(kf:s.size<=2^40){h:ad}{k:Value->ad->Prop}
 (hk:∀h' v t,Le h h'->(t=true->jF s=some v)->(t=false->jF s=none)->k (.tuple #[.string v,.bool t]) h'):
 Ct 329 [.string s] h k:=by
 obtain⟨A,hA⟩:=Ar.ex;have rE:aS (A .iq s) s.size:=⟨by rw[hA.iq]⟩;refine ah A (ar T329.aA T329.bm) Tryz.func329 rfl (by kernel_rfl) ?_;cbv;refine Dk u9 (fun r h1 hr e1=>?_);obtain⟨I,bl⟩:∃I:Nat->Unit->ad->Prop,∀m g h',I m g h'=∃i t,pO s i t/\rS t=rS s.data.toList/\h'=bp h r (.stringIter s i)/\m=t.length:=⟨_,fun _ _ _=>rfl⟩;have hJ:I s.data.toList.length () h1:=by rw[bl];exact⟨0,_,pO.start s,rfl,e1,rfl⟩
 have hle:∀o,Le h (bp h r o):=fun o=>Le.set hr;cbv;refine aX.go (G:=Unit) (fun _=>[]) (fun _=>[]) (fun m g h'=>I m g h') s.data.toList.length () ⟨?_,?_,?_⟩ hJ ?_
 ·cbv
 ·cbv
 ·cbv
 ·intro m g h' hI;rw[bl]at hI;cbv;obtain⟨i,t,q,hd,e',hm⟩:=hI;have gr:h' r=some (.stringIter s i):=by rw[e'];exact af
  have hl:=q.len;have AO:Le h h':=by rw[e'];exact hle _
  refine Gt gr hs (fun js=>?_) (fun h2 z b hp e2 hz hb=>?_)
  ·have ht:t=[]:=by
    cases t with
    |nil=>rfl
    |cons c r=>have:(c::r).length=r.length+1:=rfl;omega
   subst ht;have hb:jF s=none:=by unfold jF;rw[<-hd];rfl
   have ae:=hk h' ⟨#[]⟩ false AO (fun e=>by cases e) (fun _=>hb);cbv;exact ae
  ·cases t with
   |nil=>have:([]:By).length=0:=rfl;omega
   |cons c rest=>
    have pj:b=(c.toNat:Int):=by
     rw[hb];have h3:=q.byte (A:=A) (z:=z) hz;rw[hA.byte]at h3;have e1:z.toNat=i:=by have:=hz.eq;omega
     simp only[e1]at h3;exact h3
    have f1:A .aG .eql b 46=decide (c.toNat=46):=by rw[aw A,decide_eq_decide,pj];omega
    have tO:Le h h2:=by rw[e2,e',jr];exact hle _
    rw[LF]at hd;have qJ:(c::rest).length=rest.length+1:=rfl;have qn:=q.next;have dD:=hz.succ (A:=A) (by omega);have cU:0<=A .bA .add .i64 z 1/\A .bA .add .i64 z 1<=(s.size:Int):=by have h1:=dD.eq;have h2:=rE.eq;omega
    have dp:A .sub s (A .bA .add .i64 z 1) (A .iq s)=ax rest:=by
     have um:aS (A .iq s) (i+1+rest.length):=by
      have h5:i+1+rest.length=s.size:=by omega
      rw[h5];exact rE
     have:=qn.sub (A:=A) dD (n:=rest.length) um;rw[List.take_of_length_le (Nat.le_refl _)]at this;exact this
    have aK:rest.length<m:=by omega
    clear hb;cbv;rw[f1];clear f1;generalize decide (c.toNat=46)=u at *;cases u with
    |true=>
     have hd:some rest=rS s.data.toList:=hd;have hbp:jF s=some (ax rest):=by unfold jF;rw[<-hd]
     obtain⟨vb,hvb⟩:∃vb,ax rest=vb:=⟨_,rfl⟩;rw[hvb]at hbp dp;have ae:=hk h2 vb true tO (fun _=>hbp) (fun e=>by cases e);clear bl hJ;cbv;refine⟨cU,?_⟩;cbv;try rw[dp]
     exact ae
    |false=>
     have hd:rS rest=rS s.data.toList:=hd;have di:I rest.length () h2:=by rw[bl];exact⟨i+1,rest,qn,hd,by rw[e2,e',jr],rfl⟩
     clear bl hJ hk;cbv;refine⟨rest.length,(),aK,⟨?_,?_,?_⟩,di⟩
     ·cbv
     ·cbv
     ·cbv
structure Nm(s:ByteArray):Prop where
 XS:W5 s
 sz:s.size<=2^40
theorem Sk{name:ByteArray}{c:bT}(hn:Nm name)(hc:Nm c.name){h:ad}{k:Value->ad->Prop}(hk:∀h' t,Le h h'->t=kJ name c.name->k (.bool t) h'):
 Ct 312 [.string name,.agg #[.string c.name,.int .i64 c.kind,.bool c.null]] h k:=by
 obtain⟨A,hA⟩:=Ar.ex;obtain⟨cn,ck,cl⟩:=c;have hc:Nm cn:=hc;have f1:A .iY .eql name cn=decide (name=cn):=bR A ..;have ht:kJ name cn=(decide (name=cn)||((jF name).isNone&&decide (jF cn=some name))):=rfl;have hk:∀h',Le h h'->k (.bool (kJ name cn)) h':=fun h' l=>hk h' _ l rfl;refine ah A (ar T312.aA T312.bm) Tryz.func312 rfl (by kernel_rfl) ?_;cbv;rw[f1];clear f1;by_cases he:name=cn
 ·have ae:=hk h (Le.refl _);rw[ht,decide_eq_true he]at ae;have ae:k (.bool true) h:=ae;rw[decide_eq_true he];cbv;exact ae
 ·rw[decide_eq_false he]at ht |-;cbv;refine FQ hn.XS hn.sz (fun h1 v1 t1 l1 a1 b1=>?_);cbv;refine FQ hc.XS hc.sz (fun h2 v2 t2 l2 a2 b2=>?_);have uh:A .not t1= !t1:=by rw[hA.not]
  have f2:A .iY .eql name v2=decide (name=v2):=bR A ..;have hk:=hk h2 (l1.trans l2);rw[ht]at hk;cases t1 with
  |true=>rw[a1 rfl]at hk;have ae:k (.bool false) h2:=hk;cbv;rw[uh];cbv;exact ae
  |false=>
   rw[b1 rfl]at hk;cases t2 with
   |false=>rw[b2 rfl]at hk;have hd:decide ((none:Option ByteArray)=some name)=false:=decide_eq_false (by intro h;cases h);rw[hd]at hk;have ae:k (.bool false) h2:=hk;cbv;rw[uh];cbv;exact ae
   |true=>
    rw[a2 rfl]at hk;have hd:decide (some v2=some name)=decide (name=v2):=by rw[decide_eq_decide];constructor<;>(intro h;cases h;rfl)
    rw[hd]at hk;have ae:k (.bool (decide (name=v2))) h2:=hk;rw[<-f2]at ae;cbv;rw[uh];cbv;exact ae
theorem jv{name:ByteArray}{c:bT}{l:List bT}{i:Int}{at_:Option Int}:iA name (c::l) i at_=match kJ name c.name with
 |false=>iA name l (i+1) at_
 |true=>match at_ with
  |some _=>(0,12)
  |none=>iA name l (i+1) (some i):=rfl
theorem Ce{name:ByteArray}:∀(l:List bT) (i:Int) (at_:Option Int) (r:Int×Int),iA name l i at_=r->(at_=none\/∃a,at_=some a/\0<=a/\a<i)->0<=i->r.2=0->0<=r.1/\r.1<i+l.length:=by
 intro l;induction l with
 |nil=>
  intro i at_ r h ha hi h0;cases at_ with
  |none=>have h:((0:Int),(2:Int))=r:=h;subst h;cases h0
  |some a=>
   have h:(a,(0:Int))=r:=h;subst h;rcases ha with ha| ⟨b,ha,h1,h2⟩
   ·cases ha
   ·cases ha;exact⟨h1,by show a<i+((0:Nat):Int);omega⟩
 |cons c l ih=>
  intro i at_ r h ha hi h0;rw[jv]at h;have hlen:((c::l).length:Int)=l.length+1:=by simp
  cases ht:kJ name c.name with
  |false=>
   rw[ht]at h;have:=ih (i+1) at_ r h (by
    rcases ha with ha| ⟨a,ha,h1,h2⟩
    ·exact .inl ha
    ·exact .inr ⟨a,ha,h1,by omega⟩) (by omega) h0
   omega
  |true=>
   rw[ht]at h;cases at_ with
   |some a=>cases h;cases h0
   |none=>have:=ih (i+1) (some i) r h (.inr ⟨i,rfl,hi,by omega⟩) (by omega) h0;omega
theorem RN{name:ByteArray}(hn:Nm name){cols:List bT}(hc:∀c∈cols,Nm c.name){h:ad}{b:Option Addr}{n cp:Nat}(q:Sl 165 bt h (.slice b n cp) cols){k:Value->ad->Prop}
 (hk:∀h' z e,Le h h'->dK name cols=(z,e)->(e=0->0<=z/\z<cols.length)->k (.tuple #[.int .i64 z,.int .i64 e]) h'):
 Ct 284 [.string name,.slice b n cp] h k:=by
 obtain⟨A,hA⟩:=Ar.ex;have hlen:=q.len;have vZ:=q.bound;have hk:∀h' z e,Le h h'->dK name cols=(z,e)->k (.tuple #[.int .i64 z,.int .i64 e]) h':=fun h' z e l he=>hk h' z e l he (fun h0=>by
  have:=Ce cols 0 none (z,e) he (.inl rfl) (by decide) h0;simpa using this)
 obtain⟨R,hR⟩:∃R,dK name cols=R:=⟨_,rfl⟩;rw[hR]at hk;obtain⟨I,bl⟩:∃I:Nat->Int×Int->ad->Prop,∀m g h',I m g h'=∃i,aS g.1 i/\i<=n/\m=n-i/\Le h h'/\((g.2=-1/\iA name (cols.drop i) g.1 none=R)\/(0<=g.2/\iA name (cols.drop i) g.1 (some g.2)=R)):=⟨_,fun _ _ _=>rfl⟩;have hJ:I n (0,-1) h:=by rw[bl];exact⟨0,⟨rfl⟩,Nat.zero_le _,rfl,Le.refl _,.inl ⟨rfl,hR⟩⟩
 refine ah A (ar T284.aA T284.bm) Tryz.func284 rfl (by kernel_rfl) ?_;cbv;refine aX.go (G:=Int×Int) (fun g=>[(11,.v (.int .i64 g.1)),(6,.v (.int .i64 g.2))]) (fun _=>[]) (fun m g h'=>I m g h') n (0,-1) ⟨?_,?_,?_⟩ hJ ?_
 ·cbv
 ·cbv
 ·cbv
 ·intro m g h1 hI;rw[bl]at hI;cbv;obtain⟨i,hz,hi,hm,l1,dF⟩:=hI;obtain⟨z,a⟩:=g;have hz:aS z i:=hz;have dF:(a=-1/\iA name (cols.drop i) z none=R)\/(0<=a/\iA name (cols.drop i) z (some a)=R):=dF;have f1:A .aG .lss z (A .nat n)=decide (i<n):=hz.gy (aS.nat n);have f2:A .aG .geq a 0=decide (a>=0):=bS A ..;have f3:A .aG .lss a 0=decide (a<0):=bE A ..;rw[f1];by_cases aK:i<n
  ·obtain⟨c,oP⟩:=aI (xs:=cols) (i:=i) (by omega);have xF:=hc c (List.mem_of_getElem? oP);have cU:b.isSome=true/\0<=z/\z<(n:Int):=⟨q.bu (by omega),hz.ix aK⟩;have fA:=hz.eq;have dD:=hz.succ (A:=A) (by omega);have mJ:A .bA .add .i64 z 1=z+1:=lL A _ _ (by omega);have hd:cols.drop i=c::cols.drop (i+1):=by obtain⟨h1,h2⟩:=List.getElem?_eq_some_iff.1 oP;rw[List.drop_eq_getElem_cons h1,h2]
   rw[hd,jv,jv]at dF;have di:∀a2 h2,Le h h2->((a2=-1/\iA name (cols.drop (i+1)) (z+1) none=R)\/(0<=a2/\iA name (cols.drop (i+1)) (z+1) (some a2)=R))->I (n-(i+1)) (A .bA .add .i64 z 1,a2) h2:=fun a2 h2 l hh=>by
    rw[bl];exact⟨i+1,dD,aK,rfl,l,by rw[mJ];exact hh⟩
   have j0:n-(i+1)<m:=by omega
   clear bl hJ mJ hd;rw[decide_eq_true aK];cbv;refine⟨cU,?_⟩;cbv;refine(q.mono (l1.t _)).load oP fA (fun cs aC=>?_);obtain⟨cn,ck,cl⟩:=c;have aC:cs=[.string cn,.int .i64 ck,.bool cl]:=aC;subst aC;cbv;refine Sk (c:=⟨cn,ck,cl⟩) hn xF (fun h2 t l2 ht=>?_);have ko:=l1.trans l2;replace dF:(a=-1/\(match kJ name cn with
    |false=>iA name (cols.drop (i+1)) (z+1) none
    |true=>iA name (cols.drop (i+1)) (z+1) (some z))=R)\/(0<=a/\(match kJ name cn with
    |false=>iA name (cols.drop (i+1)) (z+1) (some a)
    |true=>(0,12))=R):=dF
   have ht:t=kJ name cn:=ht;rw[<-ht]at dF;have uh:A .not t= !t:=by rw[hA.not]
   cases t with
   |false=>
    have hI:=di a h2 ko dF;clear di hk dF;cbv;rw[uh];cbv;refine⟨n-(i+1),(A .bA .add .i64 z 1,a),j0,⟨?_,?_,?_⟩,hI⟩
    ·cbv
    ·cbv
    ·cbv
   |true=>
    rcases dF with ⟨ha,dF⟩ | ⟨ha,dF⟩
    ·have Vv:decide (a>=0)=false:=decide_eq_false (by omega);have hI:=di z h2 ko (.inr ⟨by have:=hz.eq;omega,dF⟩);clear di hk dF;cbv;rw[uh];cbv;rw[f2,Vv];cbv;refine⟨n-(i+1),(A .bA .add .i64 z 1,z),j0,⟨?_,?_,?_⟩,hI⟩
     ·cbv
     ·cbv
     ·cbv
    ·have Vv:decide (a>=0)=true:=decide_eq_true (by omega);have ae:=hk h2 0 12 ko dF.symm;clear di hk dF;cbv;rw[uh];cbv;rw[f2,Vv];cbv;exact ae
  ·have hd:cols.drop i=[]:=List.drop_of_length_le (by omega);rw[hd]at dF;rw[decide_eq_false aK];rcases dF with ⟨ha,dF⟩ | ⟨ha,dF⟩
   ·have ae:=hk h1 0 2 l1 dF.symm;have Vv:decide (a<0)=true:=decide_eq_true (by omega);clear bl hJ hk dF;cbv;rw[f3,Vv];cbv;exact ae
   ·have ae:=hk h1 a 0 l1 dF.symm;have Vv:decide (a<0)=false:=decide_eq_false (by omega);clear bl hJ hk dF;cbv;rw[f3,Vv];cbv;exact ae
theorem Du(op:Int){h:ad}{k:Value->ad->Prop}(hk:∀z,z=cu op->k (.int .i64 z) h):Ct 285 [.int .i64 op] h k:=by
 obtain⟨A,hA⟩:=Ar.ex;refine ah A (ar T285.aA T285.bm) Tryz.func285 rfl (by kernel_rfl) ?_;cbv;repeat' (refine aQ (fun hc=>?_) (fun hc=>?_)<;>(try rw[hc])<;>cbv)
 all_goals
  refine hk _ ?_;simp only[aw A,bS A,uJ A,decide_eq_true_eq,decide_eq_false_iff_not]at *;unfold cu;repeat' split
  all_goals omega
theorem fitsC(a b:Int){h:ad}{k:Value->ad->Prop}(hk:∀t,t=Cb a b->k (.bool t) h):Ct 328 [.int .i64 a,.int .i64 b] h k:=by
 obtain⟨A,hA⟩:=Ar.ex;refine ah A (ar T328.aA T328.bm) Tryz.func328 rfl (by kernel_rfl) ?_;cbv;repeat' (refine aQ (fun hc=>?_) (fun hc=>?_)<;>(try rw[hc])<;>cbv)
 all_goals
  refine hk _ ?_;simp only[aw A,decide_eq_true_eq,decide_eq_false_iff_not]at *;unfold Cb;simp[*]
theorem QO(op a b:Int){h:ad}{k:Value->ad->Prop}(hk:∀z e,(z,e)=tI op a b->k (.tuple #[.int .i64 z,.int .i64 e]) h):Ct 311 [.int .i64 op,.int .i64 a,.int .i64 b] h k:=by
 obtain⟨A,hA⟩:=Ar.ex;refine ah A (ar T311.aA T311.bm) Tryz.func311 rfl (by kernel_rfl) ?_;cbv;repeat' (first
  | (refine aQ (fun hc=>?_) (fun hc=>?_)<;>(try rw[hc])<;>cbv)
  | (refine fitsC _ _ (fun t ht=>?_);cbv))
 all_goals
  refine hk _ _ ?_;simp only[aw A,hA.not,decide_eq_true_eq,decide_eq_false_iff_not]at *;simp only[tI,inK,Yt,Cb]at *;simp_all
theorem lP(b:Bool){h:ad}{k:Value->ad->Prop}(hk:∀v,v=(bH b).v->k v h):Ct 313 [.bool b] h k:=by
 obtain⟨A,hA⟩:=Ar.ex;refine ah A (ar T313.aA T313.bm) Tryz.func313 rfl (by kernel_rfl) ?_;cbv;cases b with
 |true=>exact hk _ rfl
 |false=>exact hk _ rfl
theorem Bq(v:dg){h:ad}{k:Value->ad->Prop}(hk:k (.bool (decide (v.k=0))) h):Ct 314 [v.v] h k:=by obtain⟨A,hA⟩:=Ar.ex;obtain⟨vk,vn,vs⟩:=v;have f1:A .aG .eql vk 0=decide (vk=0):=aw A ..;have hk:k (.bool (decide (vk=0))) h:=hk;refine ah A (ar T314.aA T314.bm) Tryz.func314 rfl (by kernel_rfl) ?_;cbv;rw[f1];exact hk
abbrev GJ:List PanicEntry:=[{ v:=.iface 35 (.int .i64 11),recovered:=false }]
abbrev R7(f:FuncId)(args:List Value)(h:ad)(R:Value->ad->Prop)(K:List PanicEntry->ad->Prop):Prop:=CK (fun _=>Tryz.prog) f args h R K
def zI(n:Nat):Bool:=[345,331,333,330,332,316,286,247].contains n
theorem sf(n:Int)(o:Bool){h:ad}{R:Value->ad->Prop}{K:List PanicEntry->ad->Prop}(h1:o=false->R (.int .i64 n) h)(h2:o=true->K GJ h):
 R7 345 [.int .i64 n,.bool o] h R K:=by
 obtain⟨A,hA⟩:=Ar.ex;refine iz A (lQ T345.aA T345.bm zI [] (fun c _ h=>K c h)) Tryz.func345 rfl (by kernel_rfl) (fun _ _ _ q=>q) ?_;cbv;cases o with
 |true=>cbv;exact h2 rfl
 |false=>cbv;exact h1 rfl
theorem gA{x:Int}:m6 x=true↔-9223372036854775808<=x/\x<=9223372036854775807:=by unfold m6;rw[Bool.and_eq_true,decide_eq_true_eq,decide_eq_true_eq]
theorem lI{x:Int}:m6 x=false↔¬(-9223372036854775808<=x/\x<=9223372036854775807):=by rw[<-gA];simp
theorem sumC(a b:Int)(ha:m6 a=true)(hb:m6 b=true){h:ad}{R:Value->ad->Prop}{K:List PanicEntry->ad->Prop}(h1:m6 (a+b)=true->R (.int .i64 (a+b)) h)(h2:m6 (a+b)=false->K GJ h):
 R7 331 [.int .i64 a,.int .i64 b] h R K:=by
 obtain⟨A,hA⟩:=Ar.ex;rw[gA]at ha hb;have e1:b>0->A .bA .sub .i64 9223372036854775807 b=9223372036854775807-b:=fun g=>pA A _ _ (by omega);have e2:b<0->A .bA .sub .i64 (-9223372036854775808) b=-9223372036854775808-b:=fun g=>pA A _ _ (by omega);refine iz A (lQ T331.aA T331.bm zI [] (fun c _ h=>K c h)) Tryz.func331 rfl (by kernel_rfl) (fun _ _ _ q=>q) ?_;cbv;repeat' (refine aQ (fun hc=>?_) (fun hc=>?_)<;>(try rw[hc])<;>cbv)
 all_goals (refine sf _ _ (fun ho=>?_) (fun ho=>?_))
 all_goals (cbv)
 all_goals (try (simp only[bJ A,bE A,aw A,decide_eq_true_eq,decide_eq_false_iff_not,Bool.false_eq_true,Bool.true_eq_false,reduceCtorEq]at ho))
 all_goals (try simp only[bJ A,bE A,aw A,decide_eq_true_eq,decide_eq_false_iff_not]at *)
 all_goals first
  | (refine h2 (lI.2 ?_);omega)
  | (by_cases hr:m6 (a+b)=true
     ·have e3:A .bA .add .i64 a b=a+b:=lL A _ _ (gA.1 hr);rw[e3];exact h1 hr
     ·exfalso;rw[Bool.not_eq_true,lI]at hr;omega)
theorem YM(a b:Int)(ha:m6 a=true)(hb:m6 b=true){h:ad}{R:Value->ad->Prop}{K:List PanicEntry->ad->Prop}(h1:m6 (a-b)=true->R (.int .i64 (a-b)) h)(h2:m6 (a-b)=false->K GJ h):
 R7 332 [.int .i64 a,.int .i64 b] h R K:=by
 obtain⟨A,hA⟩:=Ar.ex;rw[gA]at ha hb;have e1:b>0->A .bA .add .i64 (-9223372036854775808) b=-9223372036854775808+b:=fun g=>lL A _ _ (by omega);have e2:b<0->A .bA .add .i64 9223372036854775807 b=9223372036854775807+b:=fun g=>lL A _ _ (by omega);refine iz A (lQ T332.aA T332.bm zI [] (fun c _ h=>K c h)) Tryz.func332 rfl (by kernel_rfl) (fun _ _ _ q=>q) ?_;cbv;repeat' (refine aQ (fun hc=>?_) (fun hc=>?_)<;>(try rw[hc])<;>cbv)
 all_goals (refine sf _ _ (fun ho=>?_) (fun ho=>?_))
 all_goals (cbv)
 all_goals (try (simp only[bJ A,bE A,aw A,decide_eq_true_eq,decide_eq_false_iff_not,Bool.false_eq_true,Bool.true_eq_false,reduceCtorEq]at ho))
 all_goals (try simp only[bJ A,bE A,aw A,decide_eq_true_eq,decide_eq_false_iff_not]at *)
 all_goals first
  | (refine h2 (lI.2 ?_);omega)
  | (by_cases hr:m6 (a-b)=true
     ·have e3:A .bA .sub .i64 a b=a-b:=pA A _ _ (gA.1 hr);rw[e3];exact h1 hr
     ·exfalso;rw[Bool.not_eq_true,lI]at hr;omega)
theorem Tt(a:Int)(ha:m6 a=true){h:ad}{R:Value->ad->Prop}{K:List PanicEntry->ad->Prop}(h1:m6 (-a)=true->R (.int .i64 (-a)) h)(h2:m6 (-a)=false->K GJ h):
 R7 330 [.int .i64 a] h R K:=by
 obtain⟨A,hA⟩:=Ar.ex;rw[gA]at ha;refine iz A (lQ T330.aA T330.bm zI [] (fun c _ h=>K c h)) Tryz.func330 rfl (by kernel_rfl) (fun _ _ _ q=>q) ?_;cbv;repeat' (refine aQ (fun hc=>?_) (fun hc=>?_)<;>(try rw[hc])<;>cbv)
 all_goals (refine sf _ _ (fun ho=>?_) (fun ho=>?_))
 all_goals (cbv)
 all_goals (try (simp only[bJ A,bE A,aw A,decide_eq_true_eq,decide_eq_false_iff_not,Bool.false_eq_true,Bool.true_eq_false,reduceCtorEq]at ho))
 all_goals (try simp only[bJ A,bE A,aw A,decide_eq_true_eq,decide_eq_false_iff_not]at *)
 all_goals first
  | (refine h2 (lI.2 ?_);omega)
  | (by_cases hr:m6 (-a)=true
     ·have e3:A .bA .sub .i64 0 a=-a:=by rw[pA A _ _ (by rw[gA]at hr;omega)];omega
      rw[e3];exact h1 hr
     ·exfalso;rw[Bool.not_eq_true,lI]at hr;omega)
theorem ED(x:Int):∃k:Int,IntKind.i64.wrap x=x+k*18446744073709551616/\-9223372036854775808<=IntKind.i64.wrap x/\IntKind.i64.wrap x<=9223372036854775807:=by
 have hs:IntKind.i64.signed=true:=rfl;simp only[IntKind.wrap,IntKind.bits,hs];simp;split
 ·exact⟨⟨-(x / 18446744073709551616)-1,by omega⟩,by omega,by omega⟩
 ·exact⟨⟨-(x / 18446744073709551616),by omega⟩,by omega,by omega⟩
theorem N6{a b:Int}(Z7:b≠0)(ha:-9223372036854775808<=a/\a<=9223372036854775807)(hb:-9223372036854775808<=b/\b<=9223372036854775807)
 (h1:IntKind.i64.wrap ((IntKind.i64.wrap (a*b)).tdiv b)=a) (h2:¬(a=-1/\b=-9223372036854775808)) (h3:¬(b=-1/\a=-9223372036854775808)):-9223372036854775808<=a*b/\a*b<=9223372036854775807:=by
 obtain⟨k,hk,hc1,je⟩:=ED (a*b);generalize IntKind.i64.wrap (a*b)=c at *;obtain⟨j,hj,Vn,M4⟩:=ED (c.tdiv b);have e1:=Int.tmod_add_tdiv_mul c b;have aK:(c.tdiv b).natAbs<=c.natAbs:=by rw[Int.natAbs_tdiv];exact Nat.div_le_self _ _
 by_cases yF:j=0
 ·subst yF;have hq:c.tdiv b=a:=by omega
  rw[hq]at e1;have hr:(c.tmod b).natAbs<b.natAbs:=by rw[Int.natAbs_tmod];exact Nat.mod_lt _ (by omega)
  have Q8:=hr;generalize c.tmod b=r at *;generalize a*b=p at *;have:r=k*18446744073709551616:=by omega
  omega
 ·have hq:c.tdiv b=9223372036854775808:=by omega
  have Ld:c=-9223372036854775808:=by omega
  have hba:b=-1:=by
   rw[hq,Ld]at e1;have hr:((-9223372036854775808:Int).tmod b).natAbs<b.natAbs:=by rw[Int.natAbs_tmod];exact Nat.mod_lt _ (by omega)
   rw[Ld]at hq;generalize (-9223372036854775808:Int).tmod b=r at *;omega
  subst hba;omega
theorem JB(a b:Int)(ha:m6 a=true)(hb:m6 b=true){h:ad}{R:Value->ad->Prop}{K:List PanicEntry->ad->Prop}(h1:m6 (a*b)=true->R (.int .i64 (a*b)) h)(h2:m6 (a*b)=false->K GJ h):
 R7 333 [.int .i64 a,.int .i64 b] h R K:=by
 obtain⟨A,hA⟩:=Ar.ex;rw[gA]at ha hb;have e1:A .bA .mul .i64 a b=IntKind.i64.wrap (a*b):=by rw[hA.bA];rfl
 have e2:∀c,A .bA .quo .i64 c b=IntKind.i64.wrap (c.tdiv b):=fun c=>by rw[hA.bA];rfl
 refine iz A (lQ T333.aA T333.bm zI [] (fun c _ h=>K c h)) Tryz.func333 rfl (by kernel_rfl) (fun _ _ _ q=>q) ?_;cbv;by_cases h0:a=0\/b=0
 ·have h0':a*b=0:=by rcases h0 with rfl|rfl<;>simp
  rw[h0']at h1;have ae:=h1 (by decide);clear h1 h2;repeat' (refine aQ (fun hc=>?_) (fun hc=>?_)<;>(try rw[hc])<;>cbv)
  all_goals first
   |exact ae
   | (exfalso;simp only[aw A,decide_eq_true_eq,decide_eq_false_iff_not]at *;omega)
 ·have ha0:A .aG .eql a 0=false:=by rw[aw A,decide_eq_false_iff_not];omega
  have Z7:A .aG .eql b 0=false:=by rw[aw A,decide_eq_false_iff_not];omega
  have BY:b≠0:=by omega
  rw[ha0];cbv;rw[Z7];cbv;have s1:a=-1->a*b=-b:=fun e=>by rw[e];omega
  have s2:b=-1->a*b=-a:=fun e=>by rw[e];omega
  have hw:-9223372036854775808<=a*b/\a*b<=9223372036854775807->IntKind.i64.wrap (a*b)=a*b:=fun hr=>IntWalk.i64_in _ hr;have hq:-9223372036854775808<=a*b/\a*b<=9223372036854775807->IntKind.i64.wrap ((IntKind.i64.wrap (a*b)).tdiv b)=a:=fun hr=>by
   rw[hw hr,Int.mul_tdiv_cancel _ BY];exact IntWalk.i64_in _ ha
  have hpi:=N6 (a:=a) (b:=b) BY ha hb;refine⟨BY,?_⟩;cbv;repeat' (refine aQ (fun hc=>?_) (fun hc=>?_)<;>(try rw[hc])<;>cbv)
  all_goals (refine sf _ _ (fun ho=>?_) (fun ho=>?_))
  all_goals (cbv)
  all_goals (try (simp only[bJ A,bE A,aw A,decide_eq_true_eq,decide_eq_false_iff_not,Bool.false_eq_true,Bool.true_eq_false,reduceCtorEq]at ho))
  all_goals (simp only[aw A,aB A,decide_eq_true_eq,decide_eq_false_iff_not,e1,e2]at *)
  all_goals first
   | (refine h2 (lI.2 ?_);omega)
   | (by_cases hr:m6 (a*b)=true
      ·have Q8:=hr;rw[gA]at Q8;rw[hw Q8];exact h1 hr
      ·exfalso;rw[Bool.not_eq_true,lI]at hr;omega)
theorem Od(op a b:Int)(ha:m6 a=true)(hb:m6 b=true){h:ad}{R:Value->ad->Prop}{K:List PanicEntry->ad->Prop}(h1:∀v,cO op a b=some v->R v.v h)(h2:cO op a b=none->K GJ h):
 R7 316 [.int .i64 op,.int .i64 a,.int .i64 b] h R K:=by
 obtain⟨A,hA⟩:=Ar.ex;have f1:A .aG .eql op 4=decide (op=4):=aw A ..;have f2:A .aG .eql op 14=decide (op=14):=aw A ..;have f3:A .aG .eql op 15=decide (op=15):=aw A ..;have num:∀x,(∀v,pB x=some v->R v.v h)->m6 x=true->R (.agg #[.int .i64 2,.int .i64 x,.string ⟨#[]⟩]) h:=fun x hx hr=>hx ⟨2,x,b0⟩ (by unfold pB;rw[if_pos hr]);have non:∀x,(pB x=none->K GJ h)->m6 x=false->K GJ h:=fun x hx hr=>hx (by unfold pB;rw[hr];rfl);refine iz A (lQ T316.aA T316.bm zI [] (fun c _ h=>K c h)) Tryz.func316 rfl (by kernel_rfl) (fun _ _ _ q=>q) ?_;cbv;rw[f1];by_cases c1:op=4
 ·have e:cO op a b=pB (-a):=by unfold cO;rw[if_pos c1]
  rw[e]at h1 h2;rw[decide_eq_true c1];cbv;refine Tt a ha (fun g=>?_) (fun g=>?_)
  ·have ae:=num _ h1 g;cbv;exact ae
  ·have ae:=non _ h2 g;cbv;exact ae
 ·rw[decide_eq_false c1];cbv;rw[f2];by_cases c2:op=14
  ·have e:cO op a b=pB (a+b):=by unfold cO;rw[if_neg c1,if_pos c2]
   rw[e]at h1 h2;rw[decide_eq_true c2];cbv;refine sumC a b ha hb (fun g=>?_) (fun g=>?_)
   ·have ae:=num _ h1 g;generalize a+b=c at *;cbv;exact ae
   ·have ae:=non _ h2 g;cbv;exact ae
  ·rw[decide_eq_false c2];cbv;rw[f3];by_cases c3:op=15
   ·have e:cO op a b=pB (a-b):=by unfold cO;rw[if_neg c1,if_neg c2,if_pos c3]
    rw[e]at h1 h2;rw[decide_eq_true c3];cbv;refine YM a b ha hb (fun g=>?_) (fun g=>?_)
    ·have ae:=num _ h1 g;generalize a-b=c at *;cbv;exact ae
    ·have ae:=non _ h2 g;cbv;exact ae
   ·have e:cO op a b=pB (a*b):=by unfold cO;rw[if_neg c1,if_neg c2,if_neg c3]
    rw[e]at h1 h2;rw[decide_eq_false c3];cbv;refine JB a b ha hb (fun g=>?_) (fun g=>?_)
    ·have ae:=num _ h1 g;generalize a*b=c at *;cbv;exact ae
    ·have ae:=non _ h2 g;cbv;exact ae
theorem uM(A:Ar)[hA:aV A](a b:dg):A .and (A .aG .eql a.k b.k) (A .and (A .aG .eql a.n b.n) (A .and (A .iY .eql a.s b.s) true))=AT a b:=by rw[hA.and,aw A,aw A,bR A];show(decide (a.k=b.k)&&(decide (a.n=b.n)&&(decide (a.s=b.s)&&true)))=_;unfold AT;rw[Bool.and_true,Bool.and_assoc]
theorem J3(op:Int)(a b:dg){h:ad}{k:Value->ad->Prop}(hk:∀h' v,Le h h'->v=(mW op a b).v->k v h'):Ct 315 [.int .i64 op,a.v,b.v] h k:=by
 obtain⟨A,hA⟩:=Ar.ex;have f1:A .aG .eql op 6=decide (op=6):=aw A ..;have hL:mW op a b=if AT a (bH (decide (op=6)))=true then a else if AT b (bH (decide (op=6)))=true then b
  else if a.k=0\/b.k=0 then v0 else bH (!decide (op=6)):=rfl
 generalize decide (op=6)=d at *;obtain⟨T,hT⟩:∃T,T=bH d:=⟨_,rfl⟩;have ev:∀x:dg,A .and (A .aG .eql x.k T.k) (A .and (A .aG .eql x.n T.n) (A .and (A .iY .eql x.s T.s) true))=AT x T:=fun x=>uM A x T;rw[<-hT]at hL;obtain⟨ak,an,sa⟩:=a;obtain⟨bk,bn,sb⟩:=b;refine ah A (ar T315.aA T315.bm) Tryz.func315 rfl (by kernel_rfl) ?_;cbv;rw[f1];cbv;intro nb h1 hn e1;have l1:Le h h1:=by rw[e1];exact Le.set hn
 have q:Sl 61 bq h1 (.slice (some ⟨nb,0,none⟩) 2 2) [⟨ak,an,sa⟩,⟨bk,bn,sb⟩]:=by
  refine Sl.fresh (s:=bq) (h:=h1) (n:=nb) (xs:=[⟨ak,an,sa⟩,⟨bk,bn,sb⟩]) (cap:=2) (c:=[.int .i64 ak,.int .i64 an,.string sa,.int .i64 bk,.int .i64 bn,.string sb]) (by rw[e1];exact af) ⟨Nat.le_refl 6,fun i x hx=>?_⟩ (by show 2<=_;omega) (Nat.le_refl 2)
  match i,hx with
  |0,hx=>cases hx;rfl
  |1,hx=>cases hx;rfl
  |i+2,hx=>simp at hx
 cbv;refine aX.go (G:=Int) (fun z=>[(16,.v (.int .i64 z))]) (fun _=>[(4,[.int .i64 ak,.int .i64 an,.string sa]),(5,[.int .i64 bk,.int .i64 bn,.string sb]),(6,[.int .i64 0,.int .i64 0,.string ⟨#[]⟩])])
  (fun m z h'=>∃i:Nat,aS z i/\m=2-i/\i<=2/\h'=h1/\(0<i->AT ⟨ak,an,sa⟩ T=false)/\(1<i->AT ⟨bk,bn,sb⟩ T=false)) 2 0 ⟨?_,?_,?_⟩ ⟨0,⟨rfl⟩,by omega,by omega,rfl,fun g=>by omega,fun g=>by omega⟩ ?_
 ·cbv
 ·cbv
 ·cbv
 ·intro m z h' hI;cbv;obtain⟨i,hz,hm,hi,e',ha,hb⟩:=hI;subst e';refine aQ (fun hc=>?_) (fun hc=>?_)
  ·have aK:=hz.lt (len:=2) hc;rw[hc];clear hc;obtain⟨x,hx⟩:=aI (xs:=[(⟨ak,an,sa⟩:dg),⟨bk,bn,sb⟩]) (i:=i) (show i<2 by omega);have XI:=ev x;have Fh:AT x T=true->k (.agg #[.int .i64 x.k,.int .i64 x.n,.string x.s]) h':=fun g=>by
    refine hk h' _ l1 ?_;have:mW op ⟨ak,an,sa⟩ ⟨bk,bn,sb⟩=x:=by
     rw[hL]
     match i,hx,ha,hb with
     |0,hx,ha,hb=>cases hx;rw[if_pos g]
     |1,hx,ha,hb=>cases hx;rw[ha (by omega),if_neg (by simp),if_pos g]
     |i+2,hx,_,_=>simp at hx
    rw[this]
   have di:AT x T=false->(0<i+1->AT ⟨ak,an,sa⟩ T=false)/\(1<i+1->AT ⟨bk,bn,sb⟩ T=false):=fun g=>by
    match i,hx,ha,hb with
    |0,hx,ha,hb=>cases hx;exact⟨fun _=>g,fun g=>by omega⟩
    |1,hx,ha,hb=>cases hx;exact⟨fun _=>ha (by omega),fun _=>g⟩
    |i+2,hx,_,_=>simp at hx
   have dD:=hz.succ (A:=A) (by omega);have cU:=hz.ix aK;have fA:=hz.eq;have j0:2-(i+1)<m:=by omega
   clear hk hL ha hb;cbv;refine⟨⟨rfl,cU⟩,?_⟩;cbv;refine q.load hx fA (fun cs aC=>?_);obtain⟨xk,xn,xs⟩:=x;have aC:cs=[.int .i64 xk,.int .i64 xn,.string xs]:=aC;subst aC;cbv;refine lP d (fun v hv=>?_);rw[<-hT]at hv;obtain⟨tk,tn,ts⟩:=T;subst hv;cbv;have XI:A .and (A .aG .eql xk tk) (A .and (A .aG .eql xn tn) (A .and (A .iY .eql xs ts) true))=AT ⟨xk,xn,xs⟩ ⟨tk,tn,ts⟩:=XI;rw[XI];clear ev XI;generalize AT ⟨xk,xn,xs⟩ ⟨tk,tn,ts⟩=t at *;cases t with
   |true=>have ae:=Fh rfl;clear Fh di;cbv;exact ae
   |false=>
    have hI:=di rfl;clear Fh di;cbv;refine⟨2-(i+1),A .bA .add .i64 z 1,j0,⟨?_,?_,?_⟩,i+1,dD,rfl,aK,rfl,hI⟩
    ·cbv
    ·cbv
    ·cbv
  ·have iR:=hz.ge (len:=2) hc;rw[hc];clear hc;have hi2:i=2:=by omega
   have e1':mW op ⟨ak,an,sa⟩ ⟨bk,bn,sb⟩=if ak=0\/bk=0 then v0 else bH (!d):=by rw[hL,ha (by omega),hb (by omega),if_neg (by simp),if_neg (by simp)]
   have nd:A .not d= !d:=by rw[hA.not]
   have BJ:(ak=0\/bk=0)->k (.agg #[.int .i64 0,.int .i64 0,.string ⟨#[]⟩]) h':=fun g=>hk h' _ l1 (by rw[e1',if_pos g];rfl);have mJ:¬(ak=0\/bk=0)->k (bH (!d)).v h':=fun g=>hk h' _ l1 (by rw[e1',if_neg g]);clear hk hL ha hb e1' ev;cbv;refine Bq ⟨ak,an,sa⟩ ?_;by_cases c1:ak=0
   ·have ae:=BJ (.inl c1);have hd:decide ((⟨ak,an,sa⟩:dg).k=0)=true:=decide_eq_true c1;rw[hd];cbv;exact ae
   ·have hd:decide ((⟨ak,an,sa⟩:dg).k=0)=false:=decide_eq_false c1;rw[hd];cbv;refine Bq ⟨bk,bn,sb⟩ ?_;by_cases c2:bk=0
    ·have ae:=BJ (.inr c2);have hd:decide ((⟨bk,bn,sb⟩:dg).k=0)=true:=decide_eq_true c2;rw[hd];cbv;exact ae
    ·have ae:=mJ (by rintro(g|g)<;>contradiction);have hd:decide ((⟨bk,bn,sb⟩:dg).k=0)=false:=decide_eq_false c2;rw[hd];cbv;rw[nd];refine lP (!d) (fun v hv=>?_);generalize bH (!d)=tv at *;obtain⟨tk,tn,ts⟩:=tv;subst hv;cbv;exact ae
theorem QK(op:Int)(a b:dg)(ha:m6 a.n=true)(hb:m6 b.n=true){h:ad}{R:Value->ad->Prop}{K:List PanicEntry->ad->Prop}
 (h1:∀h' w v,Le h h'->j9 op a b=some w->v=w.v->R v h') (h2:∀h',Le h h'->j9 op a b=none->K GJ h'):
 R7 286 [.int .i64 op,a.v,b.v] h R K:=by
 obtain⟨A,hA⟩:=Ar.ex;have hP:j9 op a b=if op=5 then some (bH (decide (a.k=0)))
  else if op=6\/op=7 then some (mW op a b)
  else if a.k=0\/b.k=0 then some v0
  else if op=3 then some (bH (decide (a.n=0)))
  else if op=8 then some (bH (decide (ch a b=0)))
  else if op=9 then some (bH (decide (ch a b≠0)))
  else if op=10 then some (bH (decide (ch a b<0)))
  else if op=11 then some (bH (decide (ch a b<=0)))
  else if op=12 then some (bH (decide (ch a b>0)))
  else if op=13 then some (bH (decide (ch a b>=0)))
  else cO op a.n b.n:=rfl
 have f5:A .aG .eql op 5=decide (op=5):=aw A ..;have f6:A .aG .eql op 6=decide (op=6):=aw A ..;have f7:A .aG .eql op 7=decide (op=7):=aw A ..;have f3:A .aG .eql op 3=decide (op=3):=aw A ..;have f8:A .aG .eql op 8=decide (op=8):=aw A ..;have f9:A .aG .eql op 9=decide (op=9):=aw A ..;have f10:A .aG .eql op 10=decide (op=10):=aw A ..;have f11:A .aG .eql op 11=decide (op=11):=aw A ..;have f12:A .aG .eql op 12=decide (op=12):=aw A ..;have f13:A .aG .eql op 13=decide (op=13):=aw A ..;have fz:A .aG .eql a.n 0=decide (a.n=0):=aw A ..;obtain⟨ak,an,sa⟩:=a;obtain⟨bk,bn,sb⟩:=b;generalize j9 op ⟨ak,an,sa⟩ ⟨bk,bn,sb⟩=D at *;refine iz A (lQ T286.aA T286.bm zI [] (fun c _ h=>K c h)) Tryz.func286 rfl (by kernel_rfl) (fun _ _ _ q=>q) ?_;cbv;rw[f5];by_cases c5:op=5
 ·rw[if_pos c5]at hP;rw[decide_eq_true c5];cbv;refine Bq ⟨ak,an,sa⟩ ?_;have h1:=fun v=>h1 h _ v (Le.refl _) hP;clear h2 hP;generalize decide ((⟨ak,an,sa⟩:dg).k=0)=t at *;cbv;refine lP t (fun v hv=>?_);have ae:=h1 v hv;generalize bH t=tv at *;obtain⟨tk,tn,ts⟩:=tv;subst hv;cbv;exact ae
 rw[if_neg c5]at hP;rw[decide_eq_false c5];cbv;rw[f6];by_cases c6:op=6
 ·rw[decide_eq_true c6];rw[if_pos (show op=6\/op=7 from .inl c6)]at hP;cbv;refine J3 op ⟨ak,an,sa⟩ ⟨bk,bn,sb⟩ (fun h3 v l3 hv=>?_);have ae:=h1 h3 _ v l3 hP hv;clear h1 h2 hP;generalize mW op ⟨ak,an,sa⟩ ⟨bk,bn,sb⟩=tv at *;obtain⟨tk,tn,ts⟩:=tv;subst hv;cbv;exact ae
 rw[decide_eq_false c6];cbv;rw[f7];by_cases c7:op=7
 ·rw[decide_eq_true c7];rw[if_pos (show op=6\/op=7 from .inr c7)]at hP;cbv;refine J3 op ⟨ak,an,sa⟩ ⟨bk,bn,sb⟩ (fun h3 v l3 hv=>?_);have ae:=h1 h3 _ v l3 hP hv;clear h1 h2 hP;generalize mW op ⟨ak,an,sa⟩ ⟨bk,bn,sb⟩=tv at *;obtain⟨tk,tn,ts⟩:=tv;subst hv;cbv;exact ae
 rw[decide_eq_false c7];rw[if_neg (by rintro(g|g)<;>contradiction)]at hP;have hP:D=if ak=0\/bk=0 then some v0
  else if op=3 then some (bH (decide (an=0)))
  else if op=8 then some (bH (decide (ch ⟨ak,an,sa⟩ ⟨bk,bn,sb⟩=0)))
  else if op=9 then some (bH (decide (ch ⟨ak,an,sa⟩ ⟨bk,bn,sb⟩≠0)))
  else if op=10 then some (bH (decide (ch ⟨ak,an,sa⟩ ⟨bk,bn,sb⟩<0)))
  else if op=11 then some (bH (decide (ch ⟨ak,an,sa⟩ ⟨bk,bn,sb⟩<=0)))
  else if op=12 then some (bH (decide (ch ⟨ak,an,sa⟩ ⟨bk,bn,sb⟩>0)))
  else if op=13 then some (bH (decide (ch ⟨ak,an,sa⟩ ⟨bk,bn,sb⟩>=0)))
  else cO op an bn:=hP
 have BJ:ak=0\/bk=0->R (.agg #[.int .i64 0,.int .i64 0,.string ⟨#[]⟩]) h:=fun g=>h1 h v0 _ (Le.refl _) (by rw[hP,if_pos g]) rfl;cbv;refine Bq ⟨ak,an,sa⟩ ?_;by_cases c1:ak=0
 ·have ae:=BJ (.inl c1);have hd:decide ((⟨ak,an,sa⟩:dg).k=0)=true:=decide_eq_true c1;rw[hd];clear h1 h2 hP BJ;cbv;exact ae
 have hd:decide ((⟨ak,an,sa⟩:dg).k=0)=false:=decide_eq_false c1;rw[hd];clear hd;cbv;refine Bq ⟨bk,bn,sb⟩ ?_;by_cases c2:bk=0
 ·have ae:=BJ (.inr c2);have hd:decide ((⟨bk,bn,sb⟩:dg).k=0)=true:=decide_eq_true c2;rw[hd];clear h1 h2 hP BJ;cbv;exact ae
 have hd:decide ((⟨bk,bn,sb⟩:dg).k=0)=false:=decide_eq_false c2;rw[hd];clear hd BJ;rw[if_neg (by rintro(g|g)<;>contradiction)]at hP;cbv;refine(wH ⟨ak,an,sa⟩ ⟨bk,bn,sb⟩ h).mono (fun v h3 hR=>?_);obtain⟨l3,z,hv,hz⟩:=hR;subst hv;rw[<-hz]at hP;have hf:∀t:Bool,∀v,D=some (bH t)->v=(bH t).v->R v h3:=fun t v e hv=>h1 h3 _ v l3 e hv;have Nb:D=cO op an bn->∀v,cO op an bn=some v->R v.v h3:=fun e v hv=>h1 h3 v _ l3 (e.trans hv) rfl;have M9:D=cO op an bn->cO op an bn=none->K GJ h3:=fun e hv=>h2 h3 l3 (e.trans hv);clear h1 h2 hz;have fz:A .aG .eql an 0=decide (an=0):=fz;cbv;rw[f3];by_cases Wz:op=3
 ·rw[if_pos Wz]at hP;rw[decide_eq_true Wz];obtain⟨t,ht⟩:∃t,t=decide (an=0):=⟨_,rfl⟩;rw[<-ht]at hP fz;have hf:=hf t;clear Nb M9;cbv;try rw[fz]
  refine lP t (fun v hv=>?_);have ae:=hf v hP hv;clear hf hP;generalize bH t=tv at *;obtain⟨tk,tn,ts⟩:=tv;subst hv;cbv;exact ae
 rw[if_neg Wz]at hP;rw[decide_eq_false Wz];have gz:A .aG .eql z 0=decide (z=0):=aw A ..;cbv;rw[f8];by_cases c8':op=8
 ·rw[if_pos c8']at hP;rw[decide_eq_true c8'];obtain⟨t,ht⟩:∃t,t=decide (z=0):=⟨_,rfl⟩;rw[<-ht]at hP gz;have hf:=hf t;clear Nb M9;cbv;try rw[gz]
  refine lP t (fun v hv=>?_);have ae:=hf v hP hv;clear hf hP;generalize bH t=tv at *;obtain⟨tk,tn,ts⟩:=tv;subst hv;cbv;exact ae
 rw[if_neg c8']at hP;rw[decide_eq_false c8'];have gz:A .aG .neq z 0=decide (z≠0):=aB A ..;cbv;rw[f9];by_cases c9':op=9
 ·rw[if_pos c9']at hP;rw[decide_eq_true c9'];obtain⟨t,ht⟩:∃t,t=decide (z≠0):=⟨_,rfl⟩;rw[<-ht]at hP gz;have hf:=hf t;clear Nb M9;cbv;try rw[gz]
  refine lP t (fun v hv=>?_);have ae:=hf v hP hv;clear hf hP;generalize bH t=tv at *;obtain⟨tk,tn,ts⟩:=tv;subst hv;cbv;exact ae
 rw[if_neg c9']at hP;rw[decide_eq_false c9'];have gz:A .aG .lss z 0=decide (z<0):=bE A ..;cbv;rw[f10];by_cases P4:op=10
 ·rw[if_pos P4]at hP;rw[decide_eq_true P4];obtain⟨t,ht⟩:∃t,t=decide (z<0):=⟨_,rfl⟩;rw[<-ht]at hP gz;have hf:=hf t;clear Nb M9;cbv;try rw[gz]
  refine lP t (fun v hv=>?_);have ae:=hf v hP hv;clear hf hP;generalize bH t=tv at *;obtain⟨tk,tn,ts⟩:=tv;subst hv;cbv;exact ae
 rw[if_neg P4]at hP;rw[decide_eq_false P4];have gz:A .aG .leq z 0=decide (z<=0):=uJ A ..;cbv;rw[f11];by_cases P3:op=11
 ·rw[if_pos P3]at hP;rw[decide_eq_true P3];obtain⟨t,ht⟩:∃t,t=decide (z<=0):=⟨_,rfl⟩;rw[<-ht]at hP gz;have hf:=hf t;clear Nb M9;cbv;try rw[gz]
  refine lP t (fun v hv=>?_);have ae:=hf v hP hv;clear hf hP;generalize bH t=tv at *;obtain⟨tk,tn,ts⟩:=tv;subst hv;cbv;exact ae
 rw[if_neg P3]at hP;rw[decide_eq_false P3];have gz:A .aG .gtr z 0=decide (z>0):=bJ A ..;cbv;rw[f12];by_cases PZ:op=12
 ·rw[if_pos PZ]at hP;rw[decide_eq_true PZ];obtain⟨t,ht⟩:∃t,t=decide (z>0):=⟨_,rfl⟩;rw[<-ht]at hP gz;have hf:=hf t;clear Nb M9;cbv;try rw[gz]
  refine lP t (fun v hv=>?_);have ae:=hf v hP hv;clear hf hP;generalize bH t=tv at *;obtain⟨tk,tn,ts⟩:=tv;subst hv;cbv;exact ae
 rw[if_neg PZ]at hP;rw[decide_eq_false PZ];have gz:A .aG .geq z 0=decide (z>=0):=bS A ..;cbv;rw[f13];by_cases PY:op=13
 ·rw[if_pos PY]at hP;rw[decide_eq_true PY];obtain⟨t,ht⟩:∃t,t=decide (z>=0):=⟨_,rfl⟩;rw[<-ht]at hP gz;have hf:=hf t;clear Nb M9;cbv;try rw[gz]
  refine lP t (fun v hv=>?_);have ae:=hf v hP hv;clear hf hP;generalize bH t=tv at *;obtain⟨tk,tn,ts⟩:=tv;subst hv;cbv;exact ae
 rw[if_neg PY]at hP;rw[decide_eq_false PY];have Nb:=Nb hP;have M9:=M9 hP;clear hf hP;cbv;refine Od op an bn ha hb (fun v hv=>?_) (fun hv=>?_)
 ·have ae:=Nb v hv;obtain⟨vk,vn,vs⟩:=v;cbv;exact ae
 ·have ae:=M9 hv;cbv;exact ae
abbrev Nd.vv(n:Nd):Value:=.agg #[.int .i64 n.op,.int .i64 n.a,.int .i64 n.b,.int .i64 n.v.k,.int .i64 n.v.n,.string n.v.s,.string n.name]
theorem qZ(op:Int):(cu op=0/\(op=1\/op=2))\/(cu op=1/\(op=3\/op=4\/op=5))\/(cu op=2/\6<=op/\op<=16)\/(cu op=-1/\op≠1/\op≠2):=by
 unfold cu;by_cases h1:op=1\/op=2
 ·left;rw[if_pos h1];exact⟨rfl,h1⟩
 ·rw[if_neg h1];by_cases h2:op=3\/op=4\/op=5
  ·right;left;rw[if_pos h2];exact⟨rfl,h2⟩
  ·rw[if_neg h2];by_cases h3:6<=op/\op<=16
   ·right;right;left;rw[if_pos h3];exact⟨rfl,h3⟩
   ·right;right;right;rw[if_neg h3];exact⟨rfl,by omega,by omega⟩
theorem zX{l:List Int}{a x:Int}{i:Nat}(h:l[i]? =some x)(ha:a=(i:Int)):Fb l a=x:=by subst ha;unfold Fb;rw[Int.toNat_natCast,h];rfl
theorem YS{n:Nd}(hn:Nm n.name){l:List Int}{cols:List bT}(hc:∀c∈cols,Nm c.name){h:ad}{lb:Option Addr}{ln lc:Nat}(ql:Sl 3 dR h (.slice lb ln lc) l)
 {cb:Option Addr} {cn cc:Nat} (qc:Sl 165 bt h (.slice cb cn cc) cols) {z:Int} (hz:aS z l.length) {k:Value->ad->Prop}
 (hk:∀h' a e,Le h h'->(a,e)=pM n l cols->k (.tuple #[.int .i64 a,.int .i64 e]) h'):
 Ct 283 [n.vv,.int .i64 z,.slice lb ln lc,.slice cb cn cc] h k:=by
 obtain⟨A,hA⟩:=Ar.ex;have Ag:=ql.len;have hlb:=ql.bound;have hP:pM n l cols=if cu n.op<0\/(cu n.op>0/\(n.a<0\/n.a>=l.length))\/(cu n.op>1/\(n.b<0\/n.b>=l.length))then(0,1)
  else if n.op=1 then(n.v.k,cQ n.v)
  else if n.op=2 then
   match dK n.name cols with
   | (c,e)=>if e≠0 then(0,e)else(match cols[c.toNat]? with
    |some c=>(c.kind,0)
    |none=>(0,0))
  else if cu n.op=1 then tI n.op (Fb l n.a) (Fb l n.a)else tI n.op (Fb l n.a) (Fb l n.b):=rfl
 obtain⟨op,a,b,v,name⟩:=n;have dF:=qZ op;have hn:Nm name:=hn;generalize pM ⟨op,a,b,v,name⟩ l cols=D at *;have hP:D=if cu op<0\/(cu op>0/\(a<0\/a>=l.length))\/(cu op>1/\(b<0\/b>=l.length))then(0,1)
  else if op=1 then(v.k,cQ v)
  else if op=2 then
   match dK name cols with
   | (c,e)=>if e≠0 then(0,e)else(match cols[c.toNat]? with
    |some c=>(c.kind,0)
    |none=>(0,0))
  else if cu op=1 then tI op (Fb l a) (Fb l a)else tI op (Fb l a) (Fb l b):=hP
 have f1:A .aG .eql op 1=decide (op=1):=aw A ..;have f2:A .aG .eql op 2=decide (op=2):=aw A ..;have fa:A .aG .lss a 0=decide (a<0):=bE A ..;have fb:A .aG .lss b 0=decide (b<0):=bE A ..;obtain⟨N,hN⟩:∃N:Int,N=l.length:=⟨_,rfl⟩;have mD:∀a:Int,¬a<0->¬a>=N->∃x,l[a.toNat]? =some x/\a=(a.toNat:Int)/\(lb.isSome=true/\0<=a/\a<(ln:Int)):=fun a h0 h1=>by
  obtain⟨x,hx⟩:=aI (xs:=l) (i:=a.toNat) (by omega);exact⟨x,hx,by omega,ql.bu (by omega),by omega,by omega⟩
 rw[<-hN]at hP;have ga:A .aG .geq a z=decide (a>=N):=by rw[bS A,hz.eq,hN]
 have gb:A .aG .geq b z=decide (b>=N):=by rw[bS A,hz.eq,hN]
 have iU:(cu op<0\/(cu op>0/\(a<0\/a>=N))\/(cu op>1/\(b<0\/b>=N)))->k (.tuple #[.int .i64 0,.int .i64 1]) h:=fun g=>hk h 0 1 (Le.refl _) (by rw[hP,if_pos g]);obtain⟨vk,vn,vs⟩:=v;clear hlb Ag;refine ah A (ar T283.aA T283.bm) Tryz.func283 rfl (by kernel_rfl) ?_;cbv;refine Du op (fun p hp=>?_);rw[<-hp]at dF hP iU;rcases dF with ⟨c0,c1⟩ | ⟨c0,c1⟩ | ⟨c0,c1⟩ | ⟨c0,c1⟩
 ·subst c0;rw[if_neg (by omega)]at hP;cbv;rw[(show A .aG .lss 0 0=false from by rw[bE A];rfl)];cbv;rw[(show A .aG .gtr 0 0=false from by rw[bJ A];rfl)];cbv;rw[(show A .aG .gtr 0 1=false from by rw[bJ A];rfl)];cbv;rw[f1];by_cases d1:op=1
  ·rw[if_pos d1]at hP;rw[decide_eq_true d1];clear iU;cbv;refine(Cs ⟨vk,vn,vs⟩ h).mono (fun v h3 hR=>?_);obtain⟨l3,y,hv,hy⟩:=hR;subst hv;have ae:=hk h3 vk y l3 (by rw[hP,hy]);clear hk hP hy;cbv;exact ae
  ·have d2:op=2:=by omega
   rw[if_neg d1,if_pos d2]at hP;rw[decide_eq_false d1];cbv;rw[f2,decide_eq_true d2];clear iU;cbv;refine RN hn hc qc (fun h3 y e l3 hy hb=>?_);rw[hy]at hP;have fe:A .aG .neq e 0=decide (e≠0):=aB A ..;have hP:D=if e≠0 then(0,e)else(match cols[y.toNat]? with
    |some c=>(c.kind,0)
    |none=>(0,0)):=hP
   clear hy;by_cases he:e=0
   ·have hb:=hb he;obtain⟨c,vX⟩:=aI (xs:=cols) (i:=y.toNat) (by omega);rw[if_neg (fun g=>g he),vX]at hP;have hql:=qc.len;have cU:cb.isSome=true/\0<=y/\y<(cn:Int):=⟨qc.bu (by omega),by omega,by omega⟩;have ae:=hk h3 c.kind 0 l3 hP.symm;have QU:y=(y.toNat:Int):=by omega
    clear hk hP;cbv;rw[fe,decide_eq_false (by omega:¬e≠0)];cbv;refine⟨cU,?_⟩;cbv;refine(qc.mono (l3.t _)).eE vX QU (o:=1) (m:=1) (by decide) (fun cs aC=>?_);obtain⟨uN,Cr,FK⟩:=c;have aC:cs=[.string uN,.int .i64 Cr,.bool FK]:=aC;subst aC;cbv;exact ae
   ·rw[if_pos he]at hP;have ae:=hk h3 0 e l3 hP.symm;clear hk hP;cbv;rw[fe,decide_eq_true he];cbv;exact ae
 ·subst c0;cbv;rw[(show A .aG .lss 1 0=false from by rw[bE A];rfl)];cbv;rw[(show A .aG .gtr 1 0=true from by rw[bJ A];rfl)];cbv;rw[fa];by_cases a0:a<0
  ·have ae:=iU (by omega);clear iU hk hP;rw[decide_eq_true a0];cbv;exact ae
  rw[decide_eq_false a0];cbv;rw[ga];by_cases a1:a>=N
  ·have ae:=iU (by omega);clear iU hk hP;rw[decide_eq_true a1];cbv;exact ae
  rw[decide_eq_false a1];cbv;rw[(show A .aG .gtr 1 1=false from by rw[bJ A];rfl)];have vS:=mD a a0 a1;cbv;obtain⟨x,hx,BK,Al⟩:=vS;rw[if_neg (by omega),if_neg (by omega),if_neg (by omega),if_pos rfl,zX hx BK]at hP;clear iU;rw[f1,decide_eq_false (by omega:¬op=1)];cbv;rw[f2,decide_eq_false (by omega:¬op=2)];cbv;rw[(show A .aG .eql 1 1=true from by rw[aw A];rfl)];cbv;refine⟨Al,?_⟩;cbv;refine ql.load hx BK (fun cs aC=>?_);have aC:cs=[.int .i64 x]:=aC;subst aC;cbv;refine⟨Al,?_⟩;cbv;refine ql.load hx BK (fun cs aC=>?_);have aC:cs=[.int .i64 x]:=aC;subst aC;cbv;refine QO op x x (fun d e hd=>?_);have ae:=hk h d e (Le.refl _) (hd.trans hP.symm);clear hk hP hd;cbv;exact ae
 ·subst c0;cbv;rw[(show A .aG .lss 2 0=false from by rw[bE A];rfl)];cbv;rw[(show A .aG .gtr 2 0=true from by rw[bJ A];rfl)];cbv;rw[fa];by_cases a0:a<0
  ·have ae:=iU (by omega);clear iU hk hP;rw[decide_eq_true a0];cbv;exact ae
  rw[decide_eq_false a0];cbv;rw[ga];by_cases a1:a>=N
  ·have ae:=iU (by omega);clear iU hk hP;rw[decide_eq_true a1];cbv;exact ae
  rw[decide_eq_false a1];cbv;rw[(show A .aG .gtr 2 1=true from by rw[bJ A];rfl)];have vS:=mD a a0 a1;cbv;obtain⟨x,hx,BK,Al⟩:=vS;rw[fb];by_cases b0:b<0
  ·have ae:=iU (by omega);clear iU hk hP;rw[decide_eq_true b0];cbv;exact ae
  rw[decide_eq_false b0];cbv;rw[gb];by_cases b1:b>=N
  ·have ae:=iU (by omega);clear iU hk hP;rw[decide_eq_true b1];cbv;exact ae
  rw[decide_eq_false b1];have Rm:=mD b b0 b1;cbv;obtain⟨y,hy,QW,Vr⟩:=Rm;rw[if_neg (by omega),if_neg (by omega),if_neg (by omega),if_neg (by omega),zX hx BK,zX hy QW]at hP;clear iU;rw[f1,decide_eq_false (by omega:¬op=1)];cbv;rw[f2,decide_eq_false (by omega:¬op=2)];cbv;rw[(show A .aG .eql 2 1=false from by rw[aw A];rfl)];cbv;refine⟨Al,?_⟩;cbv;refine ql.load hx BK (fun cs aC=>?_);have aC:cs=[.int .i64 x]:=aC;subst aC;cbv;refine⟨Vr,?_⟩;cbv;refine ql.load hy QW (fun cs aC=>?_);have aC:cs=[.int .i64 y]:=aC;subst aC;cbv;refine QO op x y (fun d e hd=>?_);have ae:=hk h d e (Le.refl _) (hd.trans hP.symm);clear hk hP hd;cbv;exact ae
 ·subst c0;have ae:=iU (.inl (by omega));clear iU hk hP;cbv;rw[(show A .aG .lss (-1) 0=true from by rw[bE A];rfl)];cbv;exact ae
theorem J2{α:Type}{e:Nat}{s:Sh α}{h:ad}{l:Nat}{A:Ar}[aV A]{bytes:Nat}{z:List Value}{k:Value->ad->Prop}(hz:z.length=s.n)(hl:l<=2^40)(hb:bytes<=128)
 (hk:∀nb h',h nb=none->Le h h'->dI e s h' nb l []->k (.slice (some ⟨nb,0,none⟩) 0 l) h'):
 pP h e 0 (A .nat l) bytes z k:=by
 have B2:(2:Nat)^40=1099511627776:=rfl;have Na:(2:Int)^48=281474976710656:=rfl;rw[aV.nat (A:=A)];refine⟨by simp only[Int.ofNat_eq_natCast];omega,⟨by rw[Na];simp only[Int.ofNat_eq_natCast];omega,?_⟩,fun nb h' e1 e2=>?_⟩
 ·rw[Na];simp only[Int.ofNat_eq_natCast];have:bytes*l<=128*l:=Nat.mul_le_mul_right _ hb;have h2:((bytes*l:Nat):Int)<=((128*l:Nat):Int):=Int.ofNat_le.2 this;simp only[Int.natCast_mul]at h2;omega
 ·simp only[Int.ofNat_eq_natCast,Int.toNat_natCast]at e2 |-;refine hk nb h' e1 (by rw[e2];exact Le.set e1) ⟨⟨fq l z,by rw[e2,af],vp,?_⟩,by simp,by simp⟩;rw[dy,hz]
theorem fV(cols:List bT)(n:Nd)(r:List Nd)(l:List Int):eN cols (n::r) l=match pM n l cols with
 | (k,e)=>if e≠0 then(l,e)else eN cols r (l++[k]):=rfl
theorem GQ{l:List Int}{i:Nat}{x:Int}(h:l[i]? =some x)(hi:l.length=i+1):tJ l=x:=by unfold tJ;rw[List.getLast?_eq_getElem?,hi];simp only[Nat.add_sub_cancel];rw[h];rfl
theorem Mz{ex:List Nd}(hn:∀n∈ex,Nm n.name){cols:List bT}(hc:∀c∈cols,Nm c.name){h:ad}{eb:Option Addr}{en ec:Nat}(qe:Sl 325 dh h (.slice eb en ec) ex)
 {cb:Option Addr} {cn cc:Nat} (qc:Sl 165 bt h (.slice cb cn cc) cols) {k:Value->ad->Prop}
 (hk:∀h' a e,Le h h'->(a,e)=fZ ex cols->k (.tuple #[.int .i64 a,.int .i64 e]) h'):
 Ct 245 [.slice eb en ec,.slice cb cn cc] h k:=by
 obtain⟨A,hA⟩:=Ar.ex;have O3:=qe.len;have hP:fZ ex cols=if ex.length<1\/ex.length>60 then(0,1)else match eN cols ex []with
  | (l,f)=>if f≠0 then(0,f)else(tJ l,0):=rfl
 rw[<-O3]at hP;have f1:A .aG .lss (A .nat en) 1=decide (en<1):=by rw[bE A,hA.nat,decide_eq_decide,Int.ofNat_eq_natCast];omega
 have f2:A .aG .gtr (A .nat en) 60=decide (en>60):=by rw[bJ A,hA.nat,decide_eq_decide,Int.ofNat_eq_natCast];omega
 obtain⟨R,hR⟩:∃R,eN cols ex []=R:=⟨_,rfl⟩;rw[hR]at hP;generalize fZ ex cols=D at *;obtain⟨I,bl⟩:∃I:Nat->Int×(Option Addr×Nat×Nat)->ad->Prop,∀m g h',I m g h'=∃i l,aS g.1 i/\i<=en/\m=en-i/\Le h h'/\cX 3 dR h h' (.slice g.2.1 g.2.2.1 g.2.2.2) l/\l.length=i/\eN cols (ex.drop i) l=R:=⟨_,fun _ _ _=>rfl⟩;refine ah A (ar T245.aA T245.bm) Tryz.func245 rfl (by kernel_rfl) ?_;cbv;rw[f1];by_cases c1:en<1
 ·have ae:=hk h 0 1 (Le.refl _) (by rw[hP,if_pos (.inl c1)]);clear hk hP;rw[decide_eq_true c1];cbv;exact ae
 rw[decide_eq_false c1];cbv;rw[f2];by_cases c2:en>60
 ·have ae:=hk h 0 1 (Le.refl _) (by rw[hP,if_pos (.inr c2)]);clear hk hP;rw[decide_eq_true c2];cbv;exact ae
 rw[decide_eq_false c2];rw[if_neg (by omega)]at hP;cbv;refine J2 (s:=dR) rfl (by omega) (by decide) (fun nb h0 fk hle ho=>?_);have hJ:I en (0,some ⟨nb,0,none⟩,0,en) h0:=by rw[bl];exact⟨0,[],⟨rfl⟩,Nat.zero_le _,rfl,hle,ho.buf fk rfl,rfl,hR⟩
 clear ho hR;cbv;refine aX.go (G:=Int×(Option Addr×Nat×Nat)) (fun g=>[(24,.v (.int .i64 g.1)),(6,.v (.slice g.2.1 g.2.2.1 g.2.2.2))]) (fun _=>[]) (fun m g h'=>I m g h') en (0,some ⟨nb,0,none⟩,0,en) ⟨?_,?_,?_⟩ hJ ?_
 ·cbv
 ·cbv
 ·cbv
 ·intro m g h1 hI;rw[bl]at hI;cbv;obtain⟨i,l,hg,hi,hm,l1,ba,MY,he⟩:=hI;obtain⟨z,ab,an,ac⟩:=g;have hg:aS z i:=hg;have ba:cX 3 dR h h1 (.slice ab an ac) l:=ba;have M6:=ba.sl.len;have f3:A .aG .lss z (A .nat en)=decide (i<en):=hg.gy (aS.nat en);rw[f3];by_cases aK:i<en
  ·obtain⟨n,um⟩:=aI (xs:=ex) (i:=i) (by omega);have hd:ex.drop i=n::ex.drop (i+1):=by obtain⟨h1,h2⟩:=List.getElem?_eq_some_iff.1 um;rw[List.drop_eq_getElem_cons h1,h2]
   rw[hd,fV]at he;have cU:eb.isSome=true/\0<=z/\z<(en:Int):=⟨qe.bu (by omega),hg.ix aK⟩;have fA:=hg.eq;have dD:=hg.succ (A:=A) (by omega);have j0:en-(i+1)<m:=by omega
   have di:∀a b3 m3 c3 h3,eN cols (ex.drop (i+1)) (l++[a])=R->cX 3 dR h h3 (.slice b3 m3 c3) (l++[a])->Le h h3->I (en-(i+1)) (A .bA .add .i64 z 1,b3,m3,c3) h3:=fun a b3 m3 c3 h3 e3 nP l3=>by
    rw[bl];exact⟨i+1,_,dD,aK,rfl,l3,nP,by rw[List.length_append,List.length_singleton,MY],e3⟩
   have Aj:aS z l.length:=by rw[MY];exact hg
   have yE:=hn n (List.mem_of_getElem? um);have vZ:an+1<=2^39:=by omega
   clear bl hJ hd dD;rw[decide_eq_true aK];cbv;refine⟨cU,?_⟩;cbv;refine(qe.mono (l1.t _)).load um fA (fun cs aC=>?_);obtain⟨op,a,b,⟨vk,vn,vs⟩,name⟩:=n;have aC:cs=[.int .i64 op,.int .i64 a,.int .i64 b,.int .i64 vk,.int .i64 vn,.string vs,.string name]:=aC;subst aC;cbv;refine YS (n:=⟨op,a,b,⟨vk,vn,vs⟩,name⟩) yE hc ba.sl (qc.mono (l1.t _)) Aj (fun h2 y e l2 hy=>?_);have fe:A .aG .neq e 0=decide (e≠0):=aB A ..;rw[<-hy]at he;have he:(if e≠0 then(l,e)else eN cols (ex.drop (i+1)) (l++[y]))=R:=he;clear hy;by_cases h0:e=0
   ·rw[if_neg (fun g=>g h0)]at he;have di:=fun b3 m3 c3 h3=>di y b3 m3 c3 h3 he;clear hk hP he;cbv;rw[fe,decide_eq_false (fun g=>g h0)];cbv;intro n2 h3 g2 e2;have l3:Le h2 h3:=by rw[e2];exact Le.set g2
    have v2:Sl 3 dR h3 (.slice (some ⟨n2,0,none⟩) 1 1) [y]:=bU (s:=dR) ((congrFun e2 n2).trans af) rfl;cbv;refine(ba.mono ((l2.trans l3).t _)).append v2 (by decide) rfl (by decide) vZ (l1.trans (l2.trans l3)) (fun m3 b3 c3 h4 XK l4 t3 k3 nP=>?_);have uL:=di b3 m3 c3 h4 nP l4;clear di t3 k3 nP;cbv;refine⟨en-(i+1),(_,_,_,_),j0,⟨?_,?_,?_⟩,uL⟩
    ·cbv
    ·cbv
    ·cbv
   ·rw[if_pos h0]at he;rw[<-he]at hP;have hP:D=if e≠0 then(0,e)else(tJ l,0):=hP
    rw[if_pos h0]at hP;have ae:=hk h2 0 e (l1.trans l2) hP.symm;clear hk hP he di;cbv;rw[fe,decide_eq_true h0];cbv;exact ae
  ·have jR:i=en:=by omega
   rw[List.drop_of_length_le (by omega)]at he;have he:(l,0)=R:=he;rw[<-he]at hP;have hP:D=(tJ l,0):=hP;obtain⟨x,hx⟩:=aI (xs:=l) (i:=i-1) (by omega);rw[GQ hx (by omega)]at hP;have ae:=hk h1 x 0 l1 hP.symm;have dp:=(aS.nat (A:=A) an).sub (A:=A) (⟨rfl⟩:aS 1 1) (by omega) (by omega);have fA:=dp.eq;have cU:ab.isSome=true/\0<=A .bA .sub .i64 (A .nat an) 1/\A .bA .sub .i64 (A .nat an) 1<(an:Int):=⟨ba.sl.bu (by omega),dp.ix (by omega)⟩;have hx:l[an-1]? =some x:=by rw[M6,MY];exact hx
   clear bl hJ hk hP he dp;rw[decide_eq_false aK];cbv;refine⟨cU,?_⟩;cbv;refine ba.sl.load hx fA (fun cs aC=>?_);have aC:cs=[.int .i64 x]:=aC;subst aC;cbv;exact ae
theorem qO{l:List dg}{a:Int}{x:dg}{i:Nat}(h:l[i]? =some x)(ha:a=(i:Int)):pQ l a=x:=by subst ha;unfold pQ;rw[Int.toNat_natCast,h];rfl
theorem Yy{n:Nd}(hn:Nm n.name){l:List dg}{cols:List bT}(hc:∀c∈cols,Nm c.name){r:Row}{h:ad}{lb:Option Addr}{ln lc:Nat}(ql:Sl 61 bq h (.slice lb ln lc) l)
 {cb:Option Addr} {cn cc:Nat} (qc:Sl 165 bt h (.slice cb cn cc) cols) {rb:Option Addr} {rn rc:Nat} (qr:Sl 61 bq h (.slice rb rn rc) r)
 (hpa:cu n.op>=0) (ba:cu n.op>0->0<=n.a/\n.a<l.length) (bb:cu n.op>1->0<=n.b/\n.b<l.length) (bf:n.op=2->(dK n.name cols).2=0)
 (hl:∀v∈l,m6 v.n=true) {R:Value->ad->Prop} {K:List PanicEntry->ad->Prop}
 (h1:∀h' w v,Le h h'->oB n l cols r=some w->v=w.v->R v h') (h2:∀h',Le h h'->oB n l cols r=none->K GJ h'):
 R7 247 [n.vv,.slice lb ln lc,.slice cb cn cc,.slice rb rn rc] h R K:=by
 obtain⟨A,hA⟩:=Ar.ex;have Ag:=ql.len;have hrn:=qr.len;have hP:oB n l cols r=if n.op=1 then some n.v
  else if n.op=2 then(match dK n.name cols with
   | (c,_)=>some (pQ r c))
  else if cu n.op=1 then j9 n.op (pQ l n.a) (pQ l n.a)else j9 n.op (pQ l n.a) (pQ l n.b):=rfl
 obtain⟨op,a,b,v,name⟩:=n;have dF:=qZ op;replace hn:Nm name:=hn;replace hpa:cu op>=0:=hpa;replace ba:cu op>0->0<=a/\a<l.length:=ba;replace bb:cu op>1->0<=b/\b<l.length:=bb;replace bf:op=2->(dK name cols).2=0:=bf;generalize oB ⟨op,a,b,v,name⟩ l cols r=D at *;replace hP:D=if op=1 then some v
  else if op=2 then(match dK name cols with
   | (c,_)=>some (pQ r c))
  else if cu op=1 then j9 op (pQ l a) (pQ l a)else j9 op (pQ l a) (pQ l b):=hP
 have f1:A .aG .eql op 1=decide (op=1):=aw A ..;have f2:A .aG .eql op 2=decide (op=2):=aw A ..;have mD:∀a:Int,0<=a/\a<l.length->∃x,l[a.toNat]? =some x/\a=(a.toNat:Int)/\m6 x.n=true/\(lb.isSome=true/\0<=a/\a<(ln:Int)):=fun a h0=>by
  obtain⟨x,hx⟩:=aI (xs:=l) (i:=a.toNat) (by omega);exact⟨x,hx,by omega,hl x (List.mem_of_getElem? hx),ql.bu (by omega),by omega,by omega⟩
 obtain⟨vk,vn,vs⟩:=v;refine iz A (lQ T247.aA T247.bm zI [] (fun c _ h=>K c h)) Tryz.func247 rfl (by kernel_rfl) (fun _ _ _ q=>q) ?_;rcases dF with ⟨c0,c1⟩ | ⟨c0,c1⟩ | ⟨c0,c1⟩ | ⟨c0,c1⟩
 ·by_cases d1:op=1
  ·rw[if_pos d1]at hP;have ae:=h1 h ⟨vk,vn,vs⟩ _ (Le.refl _) hP rfl;clear h1 h2 hP mD;cbv;rw[f1,decide_eq_true d1];cbv;exact ae
  ·have d2:op=2:=by omega
   rw[if_neg d1,if_pos d2]at hP;have bf:=bf d2;clear h2 mD ba bb;cbv;rw[f1,decide_eq_false d1];cbv;rw[f2,decide_eq_true d2];cbv;refine RN hn hc qc (fun h3 y e l3 hy hb=>?_);rw[hy]at hP bf;have hP:D=some (pQ r y):=hP;have bf:e=0:=bf;have hb:=hb bf;have fy:A .aG .geq y (A .nat rn)=decide (y>=(rn:Int)):=by rw[bS A,hA.nat];rfl
   by_cases KE:y>=(rn:Int)
   ·have e0:pQ r y=v0:=by unfold pQ;rw[List.getElem?_eq_none (by omega)];rfl
    rw[e0]at hP;have ae:=h1 h3 v0 _ l3 hP rfl;clear h1 hP;rw[decide_eq_true KE]at fy;cbv;rw[fy];cbv;exact ae
   ·obtain⟨x,hx⟩:=aI (xs:=r) (i:=y.toNat) (by omega);have QU:y=(y.toNat:Int):=by omega
    rw[qO hx QU]at hP;have cU:rb.isSome=true/\0<=y/\y<(rn:Int):=⟨qr.bu (by omega),by omega,by omega⟩;have ae:=h1 h3 x _ l3 hP rfl;clear h1 hP;rw[decide_eq_false KE]at fy;cbv;rw[fy];cbv;refine⟨cU,?_⟩;cbv;refine(qr.mono (l3.t _)).load hx QU (fun cs aC=>?_);obtain⟨xk,xn,xs⟩:=x;have aC:cs=[.int .i64 xk,.int .i64 xn,.string xs]:=aC;subst aC;cbv;exact ae
 ·skip;rw[if_neg (by omega),if_neg (by omega),if_pos c0]at hP;obtain⟨x,hx,BK,KG,Al⟩:=mD a (ba (by omega));rw[qO hx BK]at hP;have r1:∀h' w v,Le h h'->j9 op x x=some w->v=w.v->R v h':=fun h' w v l e hv=>h1 h' w v l (hP.trans e) hv;have r2:∀h',Le h h'->j9 op x x=none->K GJ h':=fun h' l e=>h2 h' l (hP.trans e);clear h1 h2 hP mD;cbv;rw[f1,decide_eq_false (by omega:¬op=1)];cbv;rw[f2,decide_eq_false (by omega:¬op=2)];cbv;refine Du op (fun p hp=>?_);rw[c0]at hp;subst hp;cbv;rw[(show A .aG .eql 1 1=true from by rw[aw A];rfl)];cbv;refine⟨Al,?_⟩;cbv;refine ql.load hx BK (fun cs aC=>?_);obtain⟨xk,xn,xs⟩:=x;have aC:cs=[.int .i64 xk,.int .i64 xn,.string xs]:=aC;subst aC;cbv;refine⟨Al,?_⟩;cbv;refine ql.load hx BK (fun cs aC=>?_);have aC:cs=[.int .i64 xk,.int .i64 xn,.string xs]:=aC;subst aC;cbv;refine QK op ⟨xk,xn,xs⟩ ⟨xk,xn,xs⟩ KG KG (fun h3 w v l3 hw hv=>?_) (fun h3 l3 hw=>?_)
  ·have ae:=r1 h3 w v l3 hw hv;obtain⟨wk,wn,ws⟩:=w;subst hv;clear r1 r2;cbv;exact ae
  ·have ae:=r2 h3 l3 hw;clear r1 r2;cbv;exact ae
 ·skip;rw[if_neg (by omega),if_neg (by omega),if_neg (by omega)]at hP;obtain⟨x,hx,BK,KG,Al⟩:=mD a (ba (by omega));rw[qO hx BK]at hP;obtain⟨y,hy,QW,hyi,Vr⟩:=mD b (bb (by omega));rw[qO hy QW]at hP;have r1:∀h' w v,Le h h'->j9 op x y=some w->v=w.v->R v h':=fun h' w v l e hv=>h1 h' w v l (hP.trans e) hv;have r2:∀h',Le h h'->j9 op x y=none->K GJ h':=fun h' l e=>h2 h' l (hP.trans e);clear h1 h2 hP mD;cbv;rw[f1,decide_eq_false (by omega:¬op=1)];cbv;rw[f2,decide_eq_false (by omega:¬op=2)];cbv;refine Du op (fun p hp=>?_);rw[c0]at hp;subst hp;cbv;rw[(show A .aG .eql 2 1=false from by rw[aw A];rfl)];cbv;refine⟨Al,?_⟩;cbv;refine ql.load hx BK (fun cs aC=>?_);obtain⟨xk,xn,xs⟩:=x;have aC:cs=[.int .i64 xk,.int .i64 xn,.string xs]:=aC;subst aC;cbv;refine⟨Vr,?_⟩;cbv;refine ql.load hy QW (fun cs aC=>?_);obtain⟨yk,yn,ys⟩:=y;have aC:cs=[.int .i64 yk,.int .i64 yn,.string ys]:=aC;subst aC;cbv;refine QK op ⟨xk,xn,xs⟩ ⟨yk,yn,ys⟩ KG hyi (fun h3 w v l3 hw hv=>?_) (fun h3 l3 hw=>?_)
  ·have ae:=r1 h3 w v l3 hw hv;obtain⟨wk,wn,ws⟩:=w;subst hv;clear r1 r2;cbv;exact ae
  ·have ae:=r2 h3 l3 hw;clear r1 r2;cbv;exact ae
 ·omega
section
variable {F:Fence}{n:Nat}{P:Program}{ops:Array Oper}{Q:Exit->Act->List Frame->World->Prop}{a:Act}{cs cs':List Frame}{w:World}{i:Nat}{rest:List Nat}{o:Oper}
theorem JL(hi:ops[i]? =some o)(Ir:∀f,o.about P w a.eval=some f->F.fn f)(hw:Region.wanted o (yielded ops a.tmps)=true)(hr:(execOp a.eval o).run P w=.ok .recover w)(hc:recoverD cs=none)
 (h:wpOpsSIn F n P ops Q rest (a.put o.dst .nilIface) cs w):wpOpsSIn F n P ops Q (i::rest) a cs w:=by
 simp only[wpOpsSIn,hi,hw,hr,hc,if_true];exact⟨Ir,h⟩
theorem JK{v:Value}(hi:ops[i]? =some o)(Ir:∀f,o.about P w a.eval=some f->F.fn f)(hw:Region.wanted o (yielded ops a.tmps)=true)(hr:(execOp a.eval o).run P w=.ok .recover w)(hc:recoverD cs=some (v,cs'))
 (h:wpOpsSIn F n P ops Q rest (a.put o.dst v) cs' w):wpOpsSIn F n P ops Q (i::rest) a cs w:=by
 simp only[wpOpsSIn,hi,hw,hr,hc,if_true];exact⟨Ir,h⟩
theorem gT{v:Value}(hi:ops[i]? =some o)(Ir:∀f,o.about P w a.eval=some f->F.fn f)(hw:Region.wanted o (yielded ops a.tmps)=true)(hr:(execOp a.eval o).run P w=.ok (.value v) w)
 (h:wpOpsSIn F n P ops Q rest (a.put o.dst v) cs w):wpOpsSIn F n P ops Q (i::rest) a cs w:=by
 simp only[wpOpsSIn,hi,hw,hr,if_true];exact⟨Ir,h⟩
end
theorem EU(A:Ar)[aV A]{P:Program}{T:aU}(hT:dU P T){fn:Func}{rest:Code}(ho:dw T rest=true){β:Nat->Nat}{env:Env}{h:ad}{a:Act}{w:World}{n:Nat}{c₀:Frame}{u':FrameMode}{cs:List Frame}{R:Value->ad->Prop}
 (hs:cC [] h w β env [] h a w) (rF:∀c s h,¬T.kp c s h)
 (hx:sx A T (fun _=>P) rest (fun e env L h'=>match e with
  | .exit _=>False
  |_=>mw T env L h' fn.results.toList (fun l=>jH l (fun v=>R v h'))) env [] h):
 rest.wpSIn Fence.wide n P (bodyPostS P fn c₀ cs fun e u w'=>u=u'/\∃v h',e=.returned v/\R v h'/\aY h w h' w') a ({ c₀ with mode:=u' }::cs) w:=by
 refine wpSIn_of_wpIn rfl ?_;refine fT (A:=A) (ro:=none) hT rest ho hs hx (ki.none rF) fun e bX L' h' lZ a' w' h1 h2=>?_;have fin:mw T bX L' h' fn.results.toList (fun l=>jH l (fun v=>R v h'))->a'.defers=[]/\∃u,{ c₀ with mode:=u' }::cs={ c₀ with mode:=u }::cs/\∃v,(results fn a'.tmps).run P w'=.ok v w'/\(u=u'/\∃v1 h1,Ending.returned v=.returned v1/\R v1 h1/\aY h w h1 w'):=fun hr=>by
  obtain⟨v,h3,h4,h5⟩:=pd hT h2 hr;exact⟨h2.defers,u',rfl,v,h3,rfl,v,h',rfl,h4,h5⟩
 cases e with
 |normal=>exact fin h1
 |ret=>exact fin h1
 |exit id=>exact h1.elim
theorem NC(va ea:Value)(h:ad):CtD 246 [va,ea] h (fun _ h'=>h'=h):=by
 refine⟨fun w hw n=>?_⟩;refine callsDIn_of_wpSIn (show Tryz.prog.funcs[246]? =some Tryz.f246 from Tryz.func246) rfl trivial fun c₀ cs hm=>?_;refine wpSIn_seq ?_;refine wpSIn_region ?_;have rz:recoverD (c₀::cs)=none:=by simp only[recoverD,hm]
 show wpOpsSIn _ _ _ _ _ [0,1,2,3,4,5,6] _ _ _;refine JL rfl (fun _ _=>trivial) rfl rfl rz ?_;refine gT (v:=.tuple #[.int .i64 0,.bool false]) rfl (fun _ _=>trivial) rfl (by kernel_rfl) ?_;refine gT (v:=.tuple #[.int .i64 0,.bool false]) rfl (fun _ _=>trivial) rfl (by kernel_rfl) ?_;refine gT (v:=.int .i64 0) rfl (fun _ _=>trivial) rfl (by kernel_rfl) ?_;refine gT (v:=.bool false) rfl (fun _ _=>trivial) rfl (by kernel_rfl) ?_;refine gT (v:=.int .i64 0) rfl (fun _ _=>trivial) rfl (by kernel_rfl) ?_;refine gT (v:=.bool false) rfl (fun _ _=>trivial) rfl (by kernel_rfl) ?_;obtain⟨A,hA⟩:=Ar.ex;have s0:=gY (f:=246) (fn:=Tryz.f246) (args:=[va,ea]) hw;have s1:=s0.put (d:=some 5) (x:=.v .nilIface) (v:=.nilIface) rfl;have s2:=s1.put (d:=some 6) (x:=.v (.tuple #[.int .i64 0,.bool false])) (v:=.tuple #[.int .i64 0,.bool false]) rfl;have s3:=s2.put (d:=some 4) (x:=.v (.tuple #[.int .i64 0,.bool false])) (v:=.tuple #[.int .i64 0,.bool false]) rfl;have s4:=s3.put (d:=some 7) (x:=.v (.int .i64 0)) (v:=.int .i64 0) rfl;have s5:=s4.put (d:=some 8) (x:=.v (.bool false)) (v:=.bool false) rfl;have s6:=s5.put (d:=some 2) (x:=.v (.int .i64 0)) (v:=.int .i64 0) rfl;have s7:=s6.put (d:=some 3) (x:=.v (.bool false)) (v:=.bool false) rfl;have hc0:c₀={ c₀ with mode:=.returning }:=by rw[<-hm]
 have key:=EU (n:=n) (c₀:=c₀) (cs:=cs) (u':=.returning) (fn:=Tryz.f246) (R:=fun _ h'=>h'=h) A (ar Qn.aA Qn.bm) (rest:=?_) ?_ s7 (fun _ _ _ q=>q) ?_
 ·rw[<-hc0]at key;exact key
 ·kernel_rfl
 ·cbv
theorem NA{vb eb:Nat}{h:ad}{c1 c2 c3 c4:Value}(g1:h vb=some (.cells #[c1,c2,c3] 61 (0,0)))(g2:h eb=some (.cells #[c4] 35 (0,0)))(bW:vb≠eb){R:ad->Prop}
 (hR:R (bp (bp h vb (.cells #[.int .i64 0,.int .i64 0,.string ⟨#[]⟩] 61 (0,0))) eb (.cells #[.int .i64 11] 35 (0,0)))):
 FnRX (fun _=>Tryz.prog) 246 [.pointer (some ⟨vb,0,none⟩),.pointer (some ⟨eb,0,none⟩)] (.iface 35 (.int .i64 11)) h R:=by
 refine⟨fun w hw n=>?_⟩;refine callsDIn_of_wpSIn (show Tryz.prog.funcs[246]? =some Tryz.f246 from Tryz.func246) rfl trivial fun c₀ cs hm=>?_;refine wpSIn_seq ?_;refine wpSIn_region ?_;have rz:recoverD (c₀::cs)=some (.iface 35 (.int .i64 11),{ c₀ with mode:=.panicking [{ v:=.iface 35 (.int .i64 11),recovered:=true }] }::cs):=by simp only[recoverD,hm]
 show wpOpsSIn _ _ _ _ _ [0,1,2,3,4,5,6] _ _ _;refine JK rfl (fun _ _=>trivial) rfl rfl rz ?_;refine gT (v:=.tuple #[.int .i64 11,.bool true]) rfl (fun _ _=>trivial) rfl (by kernel_rfl) ?_;refine gT (v:=.tuple #[.int .i64 11,.bool true]) rfl (fun _ _=>trivial) rfl (by kernel_rfl) ?_;refine gT (v:=.int .i64 11) rfl (fun _ _=>trivial) rfl (by kernel_rfl) ?_;refine gT (v:=.bool true) rfl (fun _ _=>trivial) rfl (by kernel_rfl) ?_;refine gT (v:=.int .i64 11) rfl (fun _ _=>trivial) rfl (by kernel_rfl) ?_;refine gT (v:=.bool true) rfl (fun _ _=>trivial) rfl (by kernel_rfl) ?_;obtain⟨A,hA⟩:=Ar.ex;have s0:=gY (f:=246) (fn:=Tryz.f246) (args:=[.pointer (some ⟨vb,0,none⟩),.pointer (some ⟨eb,0,none⟩)]) hw;have s1:=s0.put (d:=some 5) (x:=.v (.iface 35 (.int .i64 11))) (v:=.iface 35 (.int .i64 11)) rfl;have s2:=s1.put (d:=some 6) (x:=.v (.tuple #[.int .i64 11,.bool true])) (v:=.tuple #[.int .i64 11,.bool true]) rfl;have s3:=s2.put (d:=some 4) (x:=.v (.tuple #[.int .i64 11,.bool true])) (v:=.tuple #[.int .i64 11,.bool true]) rfl;have s4:=s3.put (d:=some 7) (x:=.v (.int .i64 11)) (v:=.int .i64 11) rfl;have s5:=s4.put (d:=some 8) (x:=.v (.bool true)) (v:=.bool true) rfl;have s6:=s5.put (d:=some 2) (x:=.v (.int .i64 11)) (v:=.int .i64 11) rfl;have s7:=s6.put (d:=some 3) (x:=.v (.bool true)) (v:=.bool true) rfl;have key:=EU (n:=n) (c₀:=c₀) (cs:=cs) (u':=.panicking [{ v:=.iface 35 (.int .i64 11),recovered:=true }]) (fn:=Tryz.f246) (R:=fun _ h'=>R h') A (ar Qn.aA Qn.bm) (rest:=?_) ?_ s7 (fun _ _ _ q=>q) ?_
 ·exact key
 ·kernel_rfl
 ·cbv;refine jz g1 (by simp) (fun h1 e1=>?_);have Ix:h1 eb=some (.cells #[c4] 35 (0,0)):=by rw[e1,aP (Ne.symm bW)];exact g2
  have hR:R (bp h1 eb (.cells #[.int .i64 11] 35 (0,0))):=by rw[e1];exact hR
  clear g1 g2 e1;cbv;refine jz Ix (by simp) (fun h2 e2=>?_);subst e2;cbv;exact hR
def W0(cols:List bT)(n:Nd)(i:Nat):Prop:=cu n.op>=0/\(cu n.op>0->0<=n.a/\n.a<i)/\(cu n.op>1->0<=n.b/\n.b<i)/\(n.op=2->(dK n.name cols).2=0)
theorem Kh{n:Nd}{l:List Int}{cols:List bT}{k:Int}(h:pM n l cols=(k,0)):W0 cols n l.length:=by
 unfold pM at h;by_cases c:cu n.op<0\/(cu n.op>0/\(n.a<0\/n.a>=l.length))\/(cu n.op>1/\(n.b<0\/n.b>=l.length))
 ·rw[if_pos c]at h;cases h
 ·rw[if_neg c]at h;refine⟨by omega,fun g=>by omega,fun g=>by omega,fun g=>?_⟩;rw[if_neg (by omega),if_pos g]at h;generalize dK n.name cols=r at *;obtain⟨c,e⟩:=r;have h:(if e≠0 then(0,e)else(match cols[c.toNat]? with
   |some c=>(c.kind,0)
   |none=>(0,0)))=(k,0):=h
  by_cases he:e=0
  ·exact he
  ·rw[if_pos he]at h;cases h;exact rfl
theorem yB{cols:List bT}:∀ {ex:List Nd} {l m:List Int},eN cols ex l=(m,0)->∀i n,ex[i]? =some n->W0 cols n (l.length+i)
 | [],_,_,_,i,n,hn=>by simp at hn
 |x::r,l,m,h,i,n,hn=>by
  rw[fV]at h;cases hk:pM x l cols with
  |mk k e=>
   rw[hk]at h;have h:(if e≠0 then(l,e)else eN cols r (l++[k]))=(m,0):=h;by_cases he:e=0
   ·subst he;rw[if_neg (fun g=>g rfl)]at h;cases i with
    |zero=>simp at hn;subst hn;exact Kh hk
    |succ i=>have:=yB h i n (by simpa using hn);rw[List.length_append,List.length_singleton]at this;rw[show l.length+(i+1)=l.length+1+i by omega];exact this
   ·rw[if_pos he]at h;cases h;exact absurd rfl he
theorem My{ex:List Nd}{cols:List bT}{k:Int}(h:fZ ex cols=(k,0)):ex.length>=1/\ex.length<=60/\∀i n,ex[i]? =some n->W0 cols n i:=by
 unfold fZ at h;by_cases c:ex.length<1\/ex.length>60
 ·rw[if_pos c]at h;cases h
 ·rw[if_neg c]at h;refine⟨by omega,by omega,?_⟩;cases hk:eN cols ex []with
  |mk l f=>
   rw[hk]at h;have h:(if f≠0 then((0:Int),f)else(tJ l,0))=(k,0):=h;by_cases hf:f=0
   ·subst hf;intro i n hn;have:=yB hk i n hn;simpa using this
   ·rw[if_pos hf]at h;cases h;exact absurd rfl hf
theorem oA(cols:List bT)(r:Row)(n:Nd)(e:List Nd)(l:List dg):gL cols r (n::e) l=match oB n l cols r with
 |some v=>gL cols r e (l++[v])
 |none=>none:=rfl
theorem GP{l:List dg}{i:Nat}{x:dg}(h:l[i]? =some x)(hi:l.length=i+1):pL l=x:=by unfold pL;rw[List.getLast?_eq_getElem?,hi];simp only[Nat.add_sub_cancel];rw[h];rfl
def lj(v:dg):Prop:=m6 v.n=true
theorem xU(b:Bool):lj (bH b):=by cases b<;>(show m6 _=true;decide)
theorem lA:lj v0:=by show m6 _=true;decide
theorem Oe{x:Int}{w:dg}(h:pB x=some w):lj w:=by
 unfold pB at h;split at h
 ·rename_i g;cases h;exact g
 ·cases h
theorem JF{op:Int}{a b w:dg}(ha:lj a)(hb:lj b)(h:j9 op a b=some w):lj w:=by
 unfold j9 at h;repeat' (split at h)
 all_goals first
  | (cases h;exact xU _)
  | (cases h;exact lA)
  | (cases h
     unfold mW;repeat' split
     all_goals first
      |exact ha
      |exact hb
      |exact xU _
      |exact lA)
  | (unfold cO at h
     repeat' (split at h)
     all_goals exact Oe h)
theorem C0{l:List dg}(hl:∀v∈l,lj v)(a:Int):lj (pQ l a):=by
 unfold pQ;cases h:l[a.toNat]? with
 |none=>exact lA
 |some x=>exact hl x (List.mem_of_getElem? h)
theorem Br{n:Nd}{l:List dg}{cols:List bT}{r:Row}{w:dg}(hn:lj n.v)(hl:∀v∈l,lj v)(hr:∀v∈r,lj v)(h:oB n l cols r=some w):lj w:=by
 unfold oB at h;split at h
 ·cases h;exact hn
 ·split at h
  ·cases h;exact C0 hr _
  ·split at h<;>exact JF (C0 hl _) (C0 hl _) h
theorem CX{ex:List Nd}(hn:∀n∈ex,Nm n.name/\lj n.v){cols:List bT}(hc:∀c∈cols,Nm c.name){r:Row}(hr:∀v∈r,lj v){h:ad}{eb:Option Addr}{en ec:Nat}(qe:Sl 325 dh h (.slice eb en ec) ex)
 {cb:Option Addr} {cn cc:Nat} (qc:Sl 165 bt h (.slice cb cn cc) cols) {rb:Option Addr} {rn rc:Nat} (qr:Sl 61 bq h (.slice rb rn rc) r) {k:Value->ad->Prop}
 (hk:∀h' v e w,Le h h'->(v,e)=eA ex cols r->w=v.v->k (.tuple #[w,.int .i64 e]) h'):
 Ct 163 [.slice eb en ec,.slice cb cn cc,.slice rb rn rc] h k:=by
 obtain⟨A,hA⟩:=Ar.ex;have O3:=qe.len;have hP:eA ex cols r=match fZ ex cols with
  | (_,f)=>if f≠0 then(v0,f)else match gL cols r ex []with
   |some l=>(pL l,0)
   |none=>(v0,11):=rfl
 generalize eA ex cols r=D at *;refine Hw A (lQ T163.aA T163.bm zI [] (fun _ _ _=>False)) Tryz.func163 rfl (fun _ _=>by kernel_rfl) (by kernel_rfl) ?_;cbv;intro vb h1 gv e1;have g1:h1 vb=some (.cells #[.int .i64 0,.int .i64 0,.string ⟨#[]⟩] 61 (0,0)):=by rw[e1];exact af
 have l1:Le h h1:=by rw[e1];exact Le.set gv
 cbv;intro Ep h2 ge e2;have bW:vb≠Ep:=fun e=>by rw[<-e,g1]at ge;cases ge
 have l2:Le h1 h2:=by rw[e2];exact Le.set ge
 have g2:h2 vb=some (.cells #[.int .i64 0,.int .i64 0,.string ⟨#[]⟩] 61 (0,0)):=l2 _ _ g1;have g3:h2 Ep=some (.cells #[.int .i64 0] 35 (0,0)):=by rw[e2];exact af
 have ko:=l1.trans l2;have VM:h Ep=none:=by
  cases hh:h Ep with
  |none=>rfl
  |some o=>rw[l1 _ _ hh]at ge;cases ge
 have vV:∀h' (v:dg) (e:Int),Le h2 h'->(v,e)=D->∀h5,h5=bp (bp h' vb (.cells #[.int .i64 v.k,.int .i64 v.n,.string v.s] 61 (0,0))) Ep (.cells #[.int .i64 e] 35 (0,0))->
  Le h h5:=fun h' v e l _ h5 e5 b o hb=>by
  rw[e5,aP (fun e=>by rw[e,VM]at hb;cases hb),aP (fun e=>by rw[e,gv]at hb;cases hb)];exact l _ _ (ko _ _ hb)
 clear e1 e2 l1 l2 g1 ge;cbv;refine Mz (fun n hh=>(hn n hh).1) hc (qe.mono (ko.t _)) (qc.mono (ko.t _)) (fun h3 kd e l3 fx=>?_);have fe:A .aG .neq e 0=decide (e≠0):=aB A ..;rw[<-fx]at hP;replace hP:D=if e≠0 then(v0,e)else match gL cols r ex []with
  |some l=>(pL l,0)
  |none=>(v0,11):=hP
 by_cases h0:e≠0
 ·rw[if_pos h0]at hP;have Ix:=l3 _ _ g2;have Nf:=l3 _ _ g3;have hL:=vV h3 v0 e l3 hP.symm;have hk:=fun h' l=>hk h' v0 e _ l hP.symm rfl;clear hP fx vV g2 g3;cbv;rw[fe,decide_eq_true h0];cbv;refine jz Ix (by simp) (fun h4 e4=>?_);have g4:h4 Ep=some (.cells #[.int .i64 0] 35 (0,0)):=by rw[e4,aP (Ne.symm bW)];exact Nf
  cbv;refine jz g4 (by simp) (fun h5 e5=>?_);have ae:=hk h5 (hL h5 (by rw[e5,e4];rfl));have g5:h5 vb=some (.cells #[.int .i64 0,.int .i64 0,.string ⟨#[]⟩] 61 (0,0)):=by rw[e5,aP bW,e4];exact af
  have g6:h5 Ep=some (.cells #[.int .i64 e] 35 (0,0)):=by rw[e5];exact af
  clear hk hL e4 e5 g4 Ix Nf;cbv;refine av g5 rfl rfl ?_;cbv;refine av g6 rfl rfl ?_;cbv;exact ae
 rw[if_neg h0]at hP;have e0:e=0:=Decidable.not_not.1 h0;subst e0;obtain⟨Ux,Uw,MV⟩:=My fx.symm;clear fx;obtain⟨R,hR⟩:∃R,gL cols r ex []=R:=⟨_,rfl⟩;rw[hR]at hP;obtain⟨I,bl⟩:∃I:Nat->Int×(Option Addr×Nat×Nat)->ad->Prop,∀m g h',I m g h'=∃i l,aS g.1 i/\i<=en/\m=en-i/\Le h3 h'/\cX 61 bq h3 h' (.slice g.2.1 g.2.2.1 g.2.2.2) l/\l.length=i/\(∀v∈l,lj v)/\gL cols r (ex.drop i) l=R:=⟨_,fun _ _ _=>rfl⟩;have hJ:I en (0,none,0,0) h3:=by rw[bl];exact⟨0,[],⟨rfl⟩,Nat.zero_le _,rfl,Le.refl _,cX.nil,rfl,(fun _ hh=>by cases hh),hR⟩
 clear hR;cbv;rw[fe,decide_eq_false h0];cbv;refine aX.go (G:=Int×(Option Addr×Nat×Nat)) (fun g=>[(26,.v (.int .i64 g.1)),(10,.v (.slice g.2.1 g.2.2.1 g.2.2.2))]) (fun _=>[]) (fun m g h'=>I m g h') en (0,none,0,0) ⟨?_,?_,?_⟩ hJ ?_
 ·cbv
 ·cbv
 ·cbv
 ·intro m g h4 hI;rw[bl]at hI;cbv;obtain⟨i,l,hg,hi,hm,l4,ba,MY,qJ,he⟩:=hI;obtain⟨z,ab,an,ac⟩:=g;have hg:aS z i:=hg;have ba:cX 61 bq h3 h4 (.slice ab an ac) l:=ba;have M6:=ba.sl.len;have f3:A .aG .lss z (A .nat en)=decide (i<en):=hg.gy (aS.nat en);have nT:=ko.trans (l3.trans l4);have tK:=l3.trans l4;rw[f3];by_cases aK:i<en
  ·obtain⟨n,um⟩:=aI (xs:=ex) (i:=i) (by omega);have hd:ex.drop i=n::ex.drop (i+1):=by obtain⟨h1,h2⟩:=List.getElem?_eq_some_iff.1 um;rw[List.drop_eq_getElem_cons h1,h2]
   rw[hd,oA]at he;have cU:eb.isSome=true/\0<=z/\z<(en:Int):=⟨qe.bu (by omega),hg.ix aK⟩;have fA:=hg.eq;have dD:=hg.succ (A:=A) (by omega);have j0:en-(i+1)<m:=by omega
   have di:∀a b3 m3 c3 VE,lj a->gL cols r (ex.drop (i+1)) (l++[a])=R->cX 61 bq h3 VE (.slice b3 m3 c3) (l++[a])->Le h3 VE->I (en-(i+1)) (A .bA .add .i64 z 1,b3,m3,c3) VE:=fun a b3 m3 c3 VE ia e3 nP l3'=>by
    rw[bl];exact⟨i+1,_,dD,aK,rfl,l3',nP,by rw[List.length_append,List.length_singleton,MY],(by
     intro v hv;rcases List.mem_append.1 hv with hv|hv
     ·exact qJ v hv
     ·rcases List.mem_cons.1 hv with hv|hv
      ·rw[hv];exact ia
      ·cases hv),e3⟩
   have yE:=hn n (List.mem_of_getElem? um);have jC:=MV i n um;rw[<-MY]at jC;have vZ:an+1<=2^39:=by omega
   have MU:R=none->(v0,11)=D:=fun e=>by rw[hP,e]
   clear bl hJ hd dD hP;rw[decide_eq_true aK];cbv;refine⟨cU,?_⟩;cbv;refine(qe.mono (nT.t _)).load um fA (fun cs aC=>?_);obtain⟨op,a,b,⟨vk,vn,vs⟩,name⟩:=n;have aC:cs=[.int .i64 op,.int .i64 a,.int .i64 b,.int .i64 vk,.int .i64 vn,.string vs,.string name]:=aC;subst aC;cbv;refine Yy (n:=⟨op,a,b,⟨vk,vn,vs⟩,name⟩) yE.1 hc ba.sl (qc.mono (nT.t _)) (qr.mono (nT.t _)) jC.1 jC.2.1 jC.2.2.1 jC.2.2.2 qJ (fun h5 w v l5 hw hv=>?_) (fun h5 l5 hw=>?_)
   ·have iw:=Br (n:=⟨op,a,b,⟨vk,vn,vs⟩,name⟩) yE.2 qJ hr hw;rw[hw]at he;have he:gL cols r (ex.drop (i+1)) (l++[w])=R:=he;have di:=fun b3 m3 c3 h3=>di w b3 m3 c3 h3 iw he;obtain⟨wk,wn,ws⟩:=w;subst hv;clear hk he vV MU;cbv;intro n2 h6 g6 e6;have l6:Le h5 h6:=by rw[e6];exact Le.set g6
    have v2:Sl 61 bq h6 (.slice (some ⟨n2,0,none⟩) 1 1) [⟨wk,wn,ws⟩]:=bU (s:=bq) ((congrFun e6 n2).trans af) rfl;cbv;refine(ba.mono ((l5.trans l6).t _)).append v2 (by decide) rfl (by decide) vZ (l4.trans (l5.trans l6)) (fun m3 b3 c3 h7 XK l7 t3 k3 nP=>?_);have uL:=di b3 m3 c3 h7 nP l7;clear di t3 k3 nP;cbv;refine⟨en-(i+1),(_,_,_,_),j0,⟨?_,?_,?_⟩,uL⟩
    ·cbv
    ·cbv
    ·cbv
   ·rw[hw]at he;have hD:=MU he.symm;have J9:=tK.trans l5;have hL:=vV h5 v0 11 J9 hD;have hk:=fun h' l=>hk h' v0 11 _ l hD rfl;have Ix:=J9 _ _ g2;have Nf:=J9 _ _ g3;clear di MU vV he MV;refine⟨_,rfl,NA Ix Nf bW ?_⟩;obtain⟨h6,e6⟩:∃h6,h6=bp (bp h5 vb (.cells #[.int .i64 0,.int .i64 0,.string ⟨#[]⟩] 61 (0,0))) Ep (.cells #[.int .i64 11] 35 (0,0)):=⟨_,rfl⟩;have ae:=hk h6 (hL h6 e6);have g5:h6 vb=some (.cells #[.int .i64 0,.int .i64 0,.string ⟨#[]⟩] 61 (0,0)):=by rw[e6,aP bW];exact af
    have g6:h6 Ep=some (.cells #[.int .i64 11] 35 (0,0)):=by rw[e6];exact af
    rw[<-e6];clear hk hL e6 Ix Nf;cbv;refine av g5 rfl rfl ?_;cbv;refine av g6 rfl rfl ?_;cbv;exact ae
  ·have jR:i=en:=by omega
   rw[List.drop_of_length_le (by omega)]at he;have he:some l=R:=he;rw[<-he]at hP;have hP:D=(pL l,0):=hP;obtain⟨x,hx⟩:=aI (xs:=l) (i:=i-1) (by omega);rw[GP hx (by omega)]at hP;have hL:=vV h4 x 0 tK hP.symm;have hk:=fun h' l=>hk h' x 0 _ l hP.symm rfl;have dp:=(aS.nat (A:=A) an).sub (A:=A) (⟨rfl⟩:aS 1 1) (by omega) (by omega);have fA:=dp.eq;have cU:ab.isSome=true/\0<=A .bA .sub .i64 (A .nat an) 1/\A .bA .sub .i64 (A .nat an) 1<(an:Int):=⟨ba.sl.bu (by omega),dp.ix (by omega)⟩;have hx:l[an-1]? =some x:=by rw[M6,MY];exact hx
   have Ix:=tK _ _ g2;have Nf:=tK _ _ g3;clear bl hJ hP he dp vV MV;rw[decide_eq_false aK];cbv;refine⟨cU,?_⟩;cbv;refine ba.sl.load hx fA (fun cs aC=>?_);obtain⟨xk,xn,xs⟩:=x;have aC:cs=[.int .i64 xk,.int .i64 xn,.string xs]:=aC;subst aC;cbv;refine jz Ix (by simp) (fun h5 e5=>?_);have g4:h5 Ep=some (.cells #[.int .i64 0] 35 (0,0)):=by rw[e5,aP (Ne.symm bW)];exact Nf
   cbv;refine jz g4 (by simp) (fun h6 e6=>?_);have ae:=hk h6 (hL h6 (by rw[e6,e5];rfl));have g5:h6 vb=some (.cells #[.int .i64 xk,.int .i64 xn,.string xs] 61 (0,0)):=by rw[e6,aP bW,e5];exact af
   have g6:h6 Ep=some (.cells #[.int .i64 0] 35 (0,0)):=by rw[e6];exact af
   clear hk hL e5 e6 g4 Ix Nf;cbv;refine(NC _ _ h6).mono (fun v h7 e7=>?_);subst e7;cbv;refine av g5 rfl rfl ?_;cbv;refine av g6 rfl rfl ?_;cbv;exact ae
def aJ(t:cE):List bT:=t.S.cols.map fun c=>⟨t.S.name++ax [46]++c.name,c.kind,c.null⟩
def fI(e:List Nd)(cols:List bT)(want:Int):Int:=match fZ e cols with
 | (k,f)=>if f=0/\k≠0/\k≠want then 3 else f
def aF(e:List Nd)(cols:List bT):Int:=if e.length=0 then 0 else fI e cols 1
def dL(e:List Nd)(cols:List bT)(r:Row):Bool×Int:=if e.length=0 then(true,0)else match eA e cols r with
 | (v,f)=>(decide (v.k=1)&&decide (v.n=1),f)
def cD{α:Type}(f:α->Int):List α->Int
 | []=>0
 |x::r=>if f x≠0 then f x else cD f r
def oa(cols:List bT)(r:Row):List (List Nd)->Row->Row×Int
 | [],l=>(l,0)
 |x::xs,l=>match eA x cols r with
  | (v,f)=>if f≠0 then([],f)else oa cols r xs (l++[v])
def bG(l:List (List Nd))(cols:List bT)(r:Row):Row×Int:=oa cols r l []
def bO(d:DB)(nm:ByteArray):cE:=(d.aE.find? fun t=>decide (t.S.name=nm)).getD ⟨⟨b0,[],0,false⟩,[]⟩
def lJ(bM:List Nd)(cols:List bT)(f:Row->Row×Int):List Row->List Row×List Row->(List Row×List Row)×Int
 | [],p=>(p,0)
 |r::rs,p=>match dL bM cols r with
  | (is,e)=>if e≠0 then(p,e)else if is=false then lJ bM cols f rs p else match f r with
   | (n,e)=>if e≠0 then((p.1++[r],p.2++[n]),e)else lJ bM cols f rs (p.1++[r],p.2++[n])
def wE{α:Type}(f:DB->α->DB×Int):List α->DB->DB×Int
 | [],d=>(d,0)
 |x::r,d=>match f d x with
  | (d',e)=>if e≠0 then(d',e)else wE f r d'
def SL(d:DB)(nm:ByteArray)(r:Row):dg:=pQ r (bO d nm).S.key
def sH(s:Int)(nm:ByteArray):List Row->DB->DB×Int:=wE fun d r=>X2 d s nm (SL d nm r)
def Jz(s:Int)(nm:ByteArray):List Row->DB->DB×Int:=wE fun d r=>fv d s nm r
def bK(was:DB)(r:DB×Int):DB×List Row×Int:=if r.2≠0 then(was,[],r.2)else(r.1,[],0)
def jB(d:DB)(s:Int)(x:az):DB×List Row×Int:=match ay d ⟨s,x.table,true⟩with
 | (d,e)=>if e≠0 then(d,[],e)else bK d (match bG x.exprs [] []with
  | (r,e)=>if e≠0 then(d,e)else fv d s x.table r)
def nJ(cols:List bT)(nm:ByteArray):Int×Bool:=match fK cols nm 0 with
 |some k=>((k:Int),true)
 |none=>(0,false)
def gS(cols:List bT):List ByteArray->List Int->List Int×Int
 | [],l=>(l,0)
 |nm::r,l=>match nJ cols nm with
  | (k,is)=>if is=false then(l,2)else if k∈l then(l,7)else gS cols r (l++[k])
def px(cols:List bT)(k:Int):Int:=match cols[k.toNat]? with
 |some c=>c.kind
 |none=>0
def gZ(cols tz:List bT):List (List Nd×Int)->Int
 | []=>0
 | (x,k)::r=>if fI x cols (px tz k)≠0 then fI x cols (px tz k)else gZ cols tz r
def jL(t:cE)(x:az):Int:=match gS t.S.cols x.names []with
 | (pl,e)=>if e≠0 then e else if gZ (aJ t) t.S.cols (x.exprs.zip pl)≠0 then gZ (aJ t) t.S.cols (x.exprs.zip pl)else aF x.bM (aJ t)
def QB(cols:List bT):List (dg×ByteArray)->Row->Row
 | [],r=>r
 | (v,nm)::l,r=>QB cols l (r.set (nJ cols nm).1.toNat v)
def Ef(t:cE)(x:az)(r:Row):Row×Int:=match bG x.exprs (aJ t) r with
 | (l,e)=>(QB t.S.cols (l.zip x.names) r,e)
def fH(d:DB)(s:Int)(x:az):DB×List Row×Int:=match ay d ⟨s,x.table,true⟩with
 | (d,e)=>if e≠0 then(d,[],e)else if(bO d x.table).S.only=true then(d,[],19)else bK d (
  if jL (bO d x.table) x≠0 then(d,jL (bO d x.table) x)else match lJ x.bM (aJ (bO d x.table)) (Ef (bO d x.table) x) (bO d x.table).rows ([],[])with
   | (p,e)=>if e≠0 then(d,e)else match sH s x.table p.1 d with
    | (d,e)=>if e≠0 then(d,e)else Jz s x.table p.2 d)
def fL(d:DB)(s:Int)(x:az):DB×List Row×Int:=match ay d ⟨s,x.table,true⟩with
 | (d,e)=>if e≠0 then(d,[],e)else if(bO d x.table).S.only=true then(d,[],19)else bK d (
  if aF x.bM (aJ (bO d x.table))≠0 then(d,aF x.bM (aJ (bO d x.table)))else match lJ x.bM (aJ (bO d x.table)) (fun _=>([],0)) (bO d x.table).rows ([],[])with
   | (p,e)=>if e≠0 then(d,e)else sH s x.table p.1 d)
def bh(nm:ByteArray)(cols:List bT):Int×Int:=if nm=b0 then(-1,0)else dK nm cols
def gN(cols:List bT)(i:dG):Int:=if i.fn=1 then 0 else if i.fn=2 then fI i.e cols 2 else(fZ i.e cols).2
def bD(cols:List bT)(group:Int)(i:dG):Int:=if i.fn≠0 then 0 else if group<0 then 3 else match i.e with
 | [n]=>if n.op≠2 then 3 else match dK n.name cols with
  | (k,e)=>if e≠0\/k≠group then 3 else 0
 |_=>3
structure Qy where
 group:Int
 order:Int
 jK:Bool
def dm(x:az)(cols:List bT):Qy×Int:=
 if aF x.on cols≠0 then(⟨-1,-1,false⟩,aF x.on cols)
 else if aF x.bM cols≠0 then(⟨-1,-1,false⟩,aF x.bM cols)
 else if cD (gN cols) x.items≠0 then(⟨-1,-1,false⟩,cD (gN cols) x.items)
 else match bh x.group cols with
  | (g,e)=>if e≠0 then(⟨g,-1,false⟩,e)else match bh x.order cols with
   | (o,e)=>if e≠0 then(⟨g,o,false⟩,e)else
    if(decide (x.group≠b0)||x.items.any fun i=>decide (i.fn≠0))=false then(⟨g,o,false⟩,0)
    else if x.items.length=0\/(o>=0/\o≠g)then(⟨g,o,true⟩,3)
    else(⟨g,o,true⟩,cD (bD cols g) x.items)
def ef(x:az)(cols:List bT)(a:Row):List Row->List Row->List Row×Int
 | [],out=>(out,0)
 |b::bs,out=>match dL x.on cols (a++b)with
  | (on,e)=>if e≠0 then(out,e)else if on=false then ef x cols a bs out else match dL x.bM cols (a++b)with
   | (is,e)=>if e≠0 then(out,e)else ef x cols a bs (if is=true then out++[a++b]else out)
def cy(x:az)(cols:List bT)(bs:List Row):List Row->List Row->List Row×Int
 | [],out=>(out,0)
 |a::l,out=>match ef x cols a bs out with
  | (out,e)=>if e≠0 then(out,e)else cy x cols bs l out
def cH{α:Type}(l:List α)(n:Int):List α:=if n<0 then l else l.take n.toNat
def ordV(desc:Bool)(a b:dg):Int:=if desc=true then ch b a else ch a b
def ltK(k:Int)(desc:Bool)(a b:Row):Bool:=decide (ordV desc (pQ a k) (pQ b k)<0)
def jm(x:az)(cols:List bT):List Row->List Row->List Row×Int
 | [],out=>(out,0)
 |r::rs,out=>if x.items.length=0 then jm x cols rs (out++[r])else match bG (x.items.map (·.e)) cols r with
  | (v,e)=>if e≠0 then([],e)else jm x cols rs (out++[v])
def fC(x:az)(cols:List bT)(order:Int)(rows:List Row):List Row×Int:=jm x cols (cH (if order>=0 then Je (ltK order x.desc) rows else rows) x.fw) []
def rL(k:Int):List Row->List (List Row)->List (List Row)
 | [],out=>out
 |r::rs,out=>match out.getLast? with
  |none=>rL k rs [[r]]
  |some g=>match g.getLast? with
   |none=>rL k rs (out++[[r]])
   |some p=>if AT (pQ p k) (pQ r k)=true then rL k rs (out.dropLast++[g++[r]])else rL k rs (out++[[r]])
def Fv(k:Int)(desc:Bool)(rows:List Row):List (List Row):=if k<0 then [rows]else rL k (Je (ltK k desc) rows) []
def Ow(fn:Int)(v x:dg):dg×Int:=
 if v.k=0 then(x,0)
 else if fn=2 then eA [lit v,lit x,bin 14 0 1] [] []
 else if(fn=3/\ch x v<0)\/(fn=4/\ch x v>0)then(x,0)else(v,0)
def WT(fn:Int)(e:List Nd)(cols:List bT):List Row->dg->dg×Int
 | [],v=>(v,0)
 |r::rs,v=>match eA e cols r with
  | (x,f)=>if f≠0 then(v0,f)else if x.k=0 then WT fn e cols rs v else match Ow fn v x with
   | (w,f)=>if f≠0 then(v0,f)else WT fn e cols rs w
def Qi(cols:List bT)(group:Int)(i:dG)(g:List Row):dg×Int:=
 if i.fn=1 then(⟨2,g.length,b0⟩,0)else if i.fn=0 then(match g with
  |r::_=>(pQ r group,0)
  | []=>(v0,0))else WT i.fn i.e cols g v0
def yX(cols:List bT)(group:Int)(g:List Row):List dG->Row->Row×Int
 | [],r=>(r,0)
 |i::is,r=>match Qi cols group i g with
  | (v,e)=>if e≠0 then([],e)else yX cols group g is (r++[v])
def np(x:az)(cols:List bT)(group:Int):List (List Row)->List Row->List Row×Int
 | [],out=>(out,0)
 |g::gs,out=>match yX cols group g x.items []with
  | (r,e)=>if e≠0 then([],e)else np x cols group gs (out++[r])
def eS(x:az)(cols:List bT)(group:Int)(rows:List Row):List Row×Int:=np x cols group (cH (Fv group x.desc rows) x.fw) []
def iF(x:az)(cols:List bT)(a b:List Row):List Row×Int:=match dm x cols with
 | (q,e)=>if e≠0 then([],e)else if a.length*b.length>4000 then([],4)else match cy x cols b a []with
  | (rows,e)=>if e≠0 then([],e)else if q.jK=true then eS x cols q.group rows else fC x cols q.order rows
def dJ(d:DB)(s:Int)(x:az):DB×List Row×Int:=
 if x.join=x.table then(d,[],7)else match ay d ⟨s,x.table,false⟩with
 | (d,e)=>if e≠0 then(d,[],e)else if x.join=b0 then(match iF x (aJ (bO d x.table)) (bO d x.table).rows [[]]with
  | (l,e)=>(d,l,e))
  else match ay d ⟨s,x.join,false⟩with
   | (d,e)=>if e≠0 then(d,[],e)else match iF x (aJ (bO d x.table)++aJ (bO d x.join)) (bO d x.table).rows (bO d x.join).rows with
    | (l,e)=>(d,l,e)
def jD(d:DB)(s:Int)(x:az):DB×List Row×Int:=
 if x.kind=7 then((ey d s).1,[],(ey d s).2)
 else if x.kind=9 then((ir d s).1,[],(ir d s).2)
 else if x.kind=10 then((tC d s x.name).1,[],(tC d s x.name).2)
 else if x.kind=11 then((tZ d s x.name).1,[],(tZ d s x.name).2)
 else if x.kind=3 then jB d s x else if x.kind=4 then fH d s x else if x.kind=5 then fL d s x else if x.kind=6 then dJ d s x
 else(d,[],1)
end Go.S
