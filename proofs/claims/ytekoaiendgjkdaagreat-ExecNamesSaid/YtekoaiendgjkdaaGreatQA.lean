import Derived.Test.YtekoaiendgjkdaaGreatVA
import Derived.Test.YtekoaiendgjkdaaGreatSxB
import Derived.RecoverIn
import Derived.Test.YtekoaiendgjkdaaGreatNA
import Derived.Test.YtekoaiendgjkdaaGreatSA
set_option linter.unusedVariables false
set_option linter.unusedSimpArgs false
set_option linter.unusedSectionVars false
namespace Go.S
def ru:By->Option By
 | []=>none
 |c::r=>match decide (c.toNat=46)with
  |true=>some r
  |false=>ru r
def jo(s:ByteArray):Option ByteArray:=match ru s.data.toList with
 |some r=>some (aC r)
 |none=>none
def kj(name col:ByteArray):Bool:=decide (name=col)||((jo name).isNone&&decide (jo col=some name))
def gS(name:ByteArray):List bM->Int->Option Int->Int×Int
 | [],_,none=>(0,2)
 | [],_,some a=>(a,0)
 |c::r,i,at_=>match kj name c.name with
  |false=>gS name r (i+1) at_
  |true=>match at_ with
   |some _=>(0,12)
   |none=>gS name r (i+1) (some i)
def dt(name:ByteArray)(cols:List bM):Int×Int:=gS name cols 0 none
def bX(op:Int):Int:=
 if op=1\/op=2 then 0 else if op=3\/op=4\/op=5 then 1 else if 6<=op/\op<=16 then 2 else -1
def AN(k want:Int):Bool:=decide (k=0)||decide (k=want)
def inK(op a b:Int):Int:=if op=8\/op=9\/op=10\/op=11\/op=12\/op=13 then(if a=0 then b else a)else if op=4\/op=14\/op=15\/op=16 then 2 else 1
def Vo(op:Int):Int:=if op=4\/op=14\/op=15\/op=16 then 2 else 1
def sV(op a b:Int):Int×Int:=
 if op=5 then(1,0)else if(!AN a (inK op a b)|| !AN b (inK op a b))=true then(0,3)else(Vo op,0)
def DA(l:List Int)(a:Int):Int:=(l[a.toNat]?).getD 0
def qP(n:Nd)(l:List Int)(cols:List bM):Int×Int:=
 if bX n.op<0\/(bX n.op>0/\(n.a<0\/n.a>=l.length))\/(bX n.op>1/\(n.b<0\/n.b>=l.length))then(0,1)
 else if n.op=1 then(n.v.k,fw n.v)
 else if n.op=2 then
  match dt n.name cols with
  | (c,e)=>if e≠0 then(0,e)else(match cols[c.toNat]? with
   |some c=>(c.kind,0)
   |none=>(0,0))
 else if bX n.op=1 then sV n.op (DA l n.a) (DA l n.a)else sV n.op (DA l n.a) (DA l n.b)
def iT(cols:List bM):List Nd->List Int->List Int×Int
 | [],l=>(l,0)
 |n::r,l=>match qP n l cols with
  | (k,e)=>if e≠0 then(l,e)else iT cols r (l++[k])
def sW(l:List Int):Int:=(l.getLast?).getD 0
def jB(e:List Nd)(cols:List bM):Int×Int:=
 if e.length<1\/e.length>60 then(0,1)else match iT cols e []with
  | (l,f)=>if f≠0 then(0,f)else(sW l,0)
def bI(b:Bool):dc:=match b with
 |true=>⟨1,1,b0⟩
 |false=>⟨1,0,b0⟩
def mR(x:Int):Bool:=decide (-9223372036854775808<=x)&&decide (x<=9223372036854775807)
def qF(x:Int):Option dc:=if mR x=true then some ⟨2,x,b0⟩else none
def dL(op a b:Int):Option dc:=if op=4 then qF (-a)else if op=14 then qF (a+b)else if op=15 then qF (a-b)else qF (a*b)
def Bv(a b:dc):Bool:=decide (a.k=b.k)&&decide (a.n=b.n)&&decide (a.s=b.s)
def mB(op:Int)(a b:dc):dc:=
 if Bv a (bI (decide (op=6)))=true then a else if Bv b (bI (decide (op=6)))=true then b
 else if a.k=0\/b.k=0 then v0 else bI (!decide (op=6))
def jS(op:Int)(a b:dc):Option dc:=
 if op=5 then some (bI (decide (a.k=0)))
 else if op=6\/op=7 then some (mB op a b)
 else if a.k=0\/b.k=0 then some v0
 else if op=3 then some (bI (decide (a.n=0)))
 else if op=8 then some (bI (decide (cD a b=0)))
 else if op=9 then some (bI (decide (cD a b≠0)))
 else if op=10 then some (bI (decide (cD a b<0)))
 else if op=11 then some (bI (decide (cD a b<=0)))
 else if op=12 then some (bI (decide (cD a b>0)))
 else if op=13 then some (bI (decide (cD a b>=0)))
 else dL op a.n b.n
def pr(l:List dc)(a:Int):dc:=(l[a.toNat]?).getD v0
def nG(n:Nd)(l:List dc)(cols:List bM)(r:Row):Option dc:=
 if n.op=1 then some n.v
 else if n.op=2 then(match dt n.name cols with
  | (c,_)=>some (pr r c))
 else if bX n.op=1 then jS n.op (pr l n.a) (pr l n.a)else jS n.op (pr l n.a) (pr l n.b)
def gZ(cols:List bM)(r:Row):List Nd->List dc->Option (List dc)
 | [],l=>some l
 |n::e,l=>match nG n l cols r with
  |some v=>gZ cols r e (l++[v])
  |none=>none
def pc(l:List dc):dc:=(l.getLast?).getD v0
def fW(e:List Nd)(cols:List bM)(r:Row):dc×Int:=match jB e cols with
 | (_,f)=>if f≠0 then(v0,f)else match gZ cols r e []with
  |some l=>(pc l,0)
  |none=>(v0,11)
set_option maxRecDepth 100000
set_option maxHeartbeats 8000000
open Go.Sx Go.Proofs
def TA(s:ByteArray):Prop:=∀i,i<s.size->(s.data.getD i 0).toNat<128
theorem Ey{P:Program}{ty:TypeId}{h:ad}{r pos:Nat}{s:ByteArray}(g:h r=some (.stringIter s pos))(ha:∀i,i<s.size->(s.data.getD i 0).toNat<128)
 {k:Value->ad->Prop} (h0:s.size<=pos->k (.tuple #[.bool false]) h)
 (hK:∀h' z b,pos<s.size->h'=bl h r (.stringIter s (pos+1))->aP z pos->b=((s.data.getD pos 0).toNat:Int)->k (.tuple #[.bool true,.int .i64 z,.int .i32 b]) h'):
 de (fun _=>P) (fun _=>Instr.next (.pointer (some ⟨r,0,none⟩)) true ty) h k:=Ez g ha h0 (fun h' hp e=>hK h' _ _ hp e ⟨rfl⟩ rfl)
theorem JQ(c:UInt8)(r:By):ru (c::r)=match decide (c.toNat=46)with
 |true=>some r
 |false=>ru r:=rfl
theorem Eb{s:ByteArray}(hs:TA s)(ll:s.size<=2^40){h:ad}{k:Value->ad->Prop}
 (hk:∀h' v t,Le h h'->(t=true->jo s=some v)->(t=false->jo s=none)->k (.tuple #[.string v,.bool t]) h'):
 Ct 329 [.string s] h k:=by
 obtain⟨A,hA⟩:=Ar.ex;have sA:aP (A .iH s) s.size:=⟨by rw[hA.iH]⟩;refine ah A (aq XT.ax XT.bm) Tryz.func329 rfl (by kernel_rfl) ?_;cbv;refine BQ u9 (fun r h1 hr e1=>?_);obtain⟨I,bh⟩:∃I:Nat->Unit->ad->Prop,∀m g h',I m g h'=∃i t,rJ s i t/\ru t=ru s.data.toList/\h'=bl h r (.stringIter s i)/\m=t.length:=⟨_,fun _ _ _=>rfl⟩;have hJ:I s.data.toList.length () h1:=by rw[bh];exact⟨0,_,rJ.start s,rfl,e1,rfl⟩
 have hle:∀o,Le h (bl h r o):=fun o=>Le.set hr;cbv;refine aZ.go (G:=Unit) (fun _=>[]) (fun _=>[]) (fun m g h'=>I m g h') s.data.toList.length () ⟨?_,?_,?_⟩ hJ ?_
 ·cbv
 ·cbv
 ·cbv
 ·intro m g h' hI;rw[bh]at hI;cbv;obtain⟨i,t,q,hd,e',hm⟩:=hI;have gr:h' r=some (.stringIter s i):=by rw[e'];exact ae
  have hl:=q.len;have DK:Le h h':=by rw[e'];exact hle _
  refine Ey gr hs (fun iX=>?_) (fun h2 z b hp e2 hz hb=>?_)
  ·have ht:t=[]:=by
    cases t with
    |nil=>rfl
    |cons c r=>have:(c::r).length=r.length+1:=rfl;omega
   subst ht;have hb:jo s=none:=by unfold jo;rw[<-hd];rfl
   have af:=hk h' ⟨#[]⟩ false DK (fun e=>by cases e) (fun _=>hb);cbv;exact af
  ·cases t with
   |nil=>have:([]:By).length=0:=rfl;omega
   |cons c rest=>
    have pg:b=(c.toNat:Int):=by
     rw[hb];have h3:=q.byte (A:=A) (z:=z) hz;rw[hA.byte]at h3;have e1:z.toNat=i:=by have:=hz.eq;omega
     simp only[e1]at h3;exact h3
    have f1:A .aF .eql b 46=decide (c.toNat=46):=by rw[aw A,decide_eq_decide,pg];omega
    have vi:Le h h2:=by rw[e2,e',iV];exact hle _
    rw[JQ]at hd;have ra:(c::rest).length=rest.length+1:=rfl;have qn:=q.next;have dz:=hz.succ (A:=A) (by omega);have cy:0<=A .bA .add .i64 z 1/\A .bA .add .i64 z 1<=(s.size:Int):=by have h1:=dz.eq;have h2:=sA.eq;omega
    have dr:A .sub s (A .bA .add .i64 z 1) (A .iH s)=aC rest:=by
     have wq:aP (A .iH s) (i+1+rest.length):=by
      have h5:i+1+rest.length=s.size:=by omega
      rw[h5];exact sA
     have:=qn.sub (A:=A) dz (n:=rest.length) wq;rw[List.take_of_length_le (Nat.le_refl _)]at this;exact this
    have aI:rest.length<m:=by omega
    clear hb;cbv;rw[f1];clear f1;generalize decide (c.toNat=46)=u at *;cases u with
    |true=>
     have hd:some rest=ru s.data.toList:=hd;have hbp:jo s=some (aC rest):=by unfold jo;rw[<-hd]
     obtain⟨vb,hvb⟩:∃vb,aC rest=vb:=⟨_,rfl⟩;rw[hvb]at hbp dr;have af:=hk h2 vb true vi (fun _=>hbp) (fun e=>by cases e);clear bh hJ;cbv;refine⟨cy,?_⟩;cbv;try rw[dr]
     exact af
    |false=>
     have hd:ru rest=ru s.data.toList:=hd;have cU:I rest.length () h2:=by rw[bh];exact⟨i+1,rest,qn,hd,by rw[e2,e',iV],rfl⟩
     clear bh hJ hk;cbv;refine⟨rest.length,(),aI,⟨?_,?_,?_⟩,cU⟩
     ·cbv
     ·cbv
     ·cbv
structure Nm(s:ByteArray):Prop where
 UB:TA s
 sz:s.size<=2^40
theorem PZ{name:ByteArray}{c:bM}(hn:Nm name)(hc:Nm c.name){h:ad}{k:Value->ad->Prop}(hk:∀h' t,Le h h'->t=kj name c.name->k (.bool t) h'):
 Ct 312 [.string name,.agg #[.string c.name,.int .i64 c.kind,.bool c.null]] h k:=by
 obtain⟨A,hA⟩:=Ar.ex;obtain⟨cn,ck,cl⟩:=c;have hc:Nm cn:=hc;have f1:A .je .eql name cn=decide (name=cn):=bN A ..;have ht:kj name cn=(decide (name=cn)||((jo name).isNone&&decide (jo cn=some name))):=rfl;have hk:∀h',Le h h'->k (.bool (kj name cn)) h':=fun h' l=>hk h' _ l rfl;refine ah A (aq X7.ax X7.bm) Tryz.func312 rfl (by kernel_rfl) ?_;cbv;rw[f1];clear f1;by_cases he:name=cn
 ·have af:=hk h (Le.refl _);rw[ht,decide_eq_true he]at af;have af:k (.bool true) h:=af;rw[decide_eq_true he];cbv;exact af
 ·rw[decide_eq_false he]at ht |-;cbv;refine Eb hn.UB hn.sz (fun h1 v1 t1 l1 a1 b1=>?_);cbv;refine Eb hc.UB hc.sz (fun h2 v2 t2 l2 a2 b2=>?_);have pE:A .not t1= !t1:=by rw[hA.not]
  have f2:A .je .eql name v2=decide (name=v2):=bN A ..;have hk:=hk h2 (l1.trans l2);rw[ht]at hk;cases t1 with
  |true=>rw[a1 rfl]at hk;have af:k (.bool false) h2:=hk;cbv;rw[pE];cbv;exact af
  |false=>
   rw[b1 rfl]at hk;cases t2 with
   |false=>rw[b2 rfl]at hk;have hd:decide ((none:Option ByteArray)=some name)=false:=decide_eq_false (by intro h;cases h);rw[hd]at hk;have af:k (.bool false) h2:=hk;cbv;rw[pE];cbv;exact af
   |true=>
    rw[a2 rfl]at hk;have hd:decide (some v2=some name)=decide (name=v2):=by rw[decide_eq_decide];constructor<;>(intro h;cases h;rfl)
    rw[hd]at hk;have af:k (.bool (decide (name=v2))) h2:=hk;rw[<-f2]at af;cbv;rw[pE];cbv;exact af
theorem iZ{name:ByteArray}{c:bM}{l:List bM}{i:Int}{at_:Option Int}:gS name (c::l) i at_=match kj name c.name with
 |false=>gS name l (i+1) at_
 |true=>match at_ with
  |some _=>(0,12)
  |none=>gS name l (i+1) (some i):=rfl
theorem AS{name:ByteArray}:∀(l:List bM) (i:Int) (at_:Option Int) (r:Int×Int),gS name l i at_=r->(at_=none\/∃a,at_=some a/\0<=a/\a<i)->0<=i->r.2=0->0<=r.1/\r.1<i+l.length:=by
 intro l;induction l with
 |nil=>
  intro i at_ r h ha hi h0;cases at_ with
  |none=>have h:((0:Int),(2:Int))=r:=h;subst h;cases h0
  |some a=>
   have h:(a,(0:Int))=r:=h;subst h;rcases ha with ha| ⟨b,ha,h1,h2⟩
   ·cases ha
   ·cases ha;exact⟨h1,by show a<i+((0:Nat):Int);omega⟩
 |cons c l ih=>
  intro i at_ r h ha hi h0;rw[iZ]at h;have hlen:((c::l).length:Int)=l.length+1:=by simp
  cases ht:kj name c.name with
  |false=>
   rw[ht]at h;have:=ih (i+1) at_ r h (by
    rcases ha with ha| ⟨a,ha,h1,h2⟩
    ·exact .inl ha
    ·exact .inr ⟨a,ha,h1,by omega⟩) (by omega) h0
   omega
  |true=>
   rw[ht]at h;cases at_ with
   |some a=>cases h;cases h0
   |none=>have:=ih (i+1) (some i) r h (.inr ⟨i,rfl,hi,by omega⟩) (by omega) h0;omega
theorem Py{name:ByteArray}(hn:Nm name){cols:List bM}(hc:∀c∈cols,Nm c.name){h:ad}{b:Option Addr}{n cp:Nat}(q:Sl 165 aT h (.slice b n cp) cols){k:Value->ad->Prop}
 (hk:∀h' z e,Le h h'->dt name cols=(z,e)->(e=0->0<=z/\z<cols.length)->k (.tuple #[.int .i64 z,.int .i64 e]) h'):
 Ct 284 [.string name,.slice b n cp] h k:=by
 obtain⟨A,hA⟩:=Ar.ex;have hlen:=q.len;have wv:=q.bound;have hk:∀h' z e,Le h h'->dt name cols=(z,e)->k (.tuple #[.int .i64 z,.int .i64 e]) h':=fun h' z e l he=>hk h' z e l he (fun h0=>by
  have:=AS cols 0 none (z,e) he (.inl rfl) (by decide) h0;simpa using this)
 obtain⟨R,hR⟩:∃R,dt name cols=R:=⟨_,rfl⟩;rw[hR]at hk;obtain⟨I,bh⟩:∃I:Nat->Int×Int->ad->Prop,∀m g h',I m g h'=∃i,aP g.1 i/\i<=n/\m=n-i/\Le h h'/\((g.2=-1/\gS name (cols.drop i) g.1 none=R)\/(0<=g.2/\gS name (cols.drop i) g.1 (some g.2)=R)):=⟨_,fun _ _ _=>rfl⟩;have hJ:I n (0,-1) h:=by rw[bh];exact⟨0,⟨rfl⟩,Nat.zero_le _,rfl,Le.refl _,.inl ⟨rfl,hR⟩⟩
 refine ah A (aq Yr.ax Yr.bm) Tryz.func284 rfl (by kernel_rfl) ?_;cbv;refine aZ.go (G:=Int×Int) (fun g=>[(11,.v (.int .i64 g.1)),(6,.v (.int .i64 g.2))]) (fun _=>[]) (fun m g h'=>I m g h') n (0,-1) ⟨?_,?_,?_⟩ hJ ?_
 ·cbv
 ·cbv
 ·cbv
 ·intro m g h1 hI;rw[bh]at hI;cbv;obtain⟨i,hz,hi,hm,l1,dn⟩:=hI;obtain⟨z,a⟩:=g;have hz:aP z i:=hz;have dn:(a=-1/\gS name (cols.drop i) z none=R)\/(0<=a/\gS name (cols.drop i) z (some a)=R):=dn;have f1:A .aF .lss z (A .nat n)=decide (i<n):=hz.gE (aP.nat n);have f2:A .aF .geq a 0=decide (a>=0):=bO A ..;have f3:A .aF .lss a 0=decide (a<0):=bC A ..;rw[f1];by_cases aI:i<n
  ·obtain⟨c,nT⟩:=aD (xs:=cols) (i:=i) (by omega);have sC:=hc c (List.mem_of_getElem? nT);have cy:b.isSome=true/\0<=z/\z<(n:Int):=⟨q.bF (by omega),hz.ix aI⟩;have eX:=hz.eq;have dz:=hz.succ (A:=A) (by omega);have mW:A .bA .add .i64 z 1=z+1:=lr A _ _ (by omega);have hd:cols.drop i=c::cols.drop (i+1):=by obtain⟨h1,h2⟩:=List.getElem?_eq_some_iff.1 nT;rw[List.drop_eq_getElem_cons h1,h2]
   rw[hd,iZ,iZ]at dn;have cU:∀a2 h2,Le h h2->((a2=-1/\gS name (cols.drop (i+1)) (z+1) none=R)\/(0<=a2/\gS name (cols.drop (i+1)) (z+1) (some a2)=R))->I (n-(i+1)) (A .bA .add .i64 z 1,a2) h2:=fun a2 h2 l hh=>by
    rw[bh];exact⟨i+1,dz,aI,rfl,l,by rw[mW];exact hh⟩
   have iD:n-(i+1)<m:=by omega
   clear bh hJ mW hd;rw[decide_eq_true aI];cbv;refine⟨cy,?_⟩;cbv;refine(q.mono (l1.t _)).load nT eX (fun cs aJ=>?_);obtain⟨cn,ck,cl⟩:=c;have aJ:cs=[.string cn,.int .i64 ck,.bool cl]:=aJ;subst aJ;cbv;refine PZ (c:=⟨cn,ck,cl⟩) hn sC (fun h2 t l2 ht=>?_);have iI:=l1.trans l2;replace dn:(a=-1/\(match kj name cn with
    |false=>gS name (cols.drop (i+1)) (z+1) none
    |true=>gS name (cols.drop (i+1)) (z+1) (some z))=R)\/(0<=a/\(match kj name cn with
    |false=>gS name (cols.drop (i+1)) (z+1) (some a)
    |true=>(0,12))=R):=dn
   have ht:t=kj name cn:=ht;rw[<-ht]at dn;have pE:A .not t= !t:=by rw[hA.not]
   cases t with
   |false=>
    have hI:=cU a h2 iI dn;clear cU hk dn;cbv;rw[pE];cbv;refine⟨n-(i+1),(A .bA .add .i64 z 1,a),iD,⟨?_,?_,?_⟩,hI⟩
    ·cbv
    ·cbv
    ·cbv
   |true=>
    rcases dn with ⟨ha,dn⟩ | ⟨ha,dn⟩
    ·have R9:decide (a>=0)=false:=decide_eq_false (by omega);have hI:=cU z h2 iI (.inr ⟨by have:=hz.eq;omega,dn⟩);clear cU hk dn;cbv;rw[pE];cbv;rw[f2,R9];cbv;refine⟨n-(i+1),(A .bA .add .i64 z 1,z),iD,⟨?_,?_,?_⟩,hI⟩
     ·cbv
     ·cbv
     ·cbv
    ·have R9:decide (a>=0)=true:=decide_eq_true (by omega);have af:=hk h2 0 12 iI dn.symm;clear cU hk dn;cbv;rw[pE];cbv;rw[f2,R9];cbv;exact af
  ·have hd:cols.drop i=[]:=List.drop_of_length_le (by omega);rw[hd]at dn;rw[decide_eq_false aI];rcases dn with ⟨ha,dn⟩ | ⟨ha,dn⟩
   ·have af:=hk h1 0 2 l1 dn.symm;have R9:decide (a<0)=true:=decide_eq_true (by omega);clear bh hJ hk dn;cbv;rw[f3,R9];cbv;exact af
   ·have af:=hk h1 a 0 l1 dn.symm;have R9:decide (a<0)=false:=decide_eq_false (by omega);clear bh hJ hk dn;cbv;rw[f3,R9];cbv;exact af
theorem BY(op:Int){h:ad}{k:Value->ad->Prop}(hk:∀z,z=bX op->k (.int .i64 z) h):Ct 285 [.int .i64 op] h k:=by
 obtain⟨A,hA⟩:=Ar.ex;refine ah A (aq Yq.ax Yq.bm) Tryz.func285 rfl (by kernel_rfl) ?_;cbv;repeat' (refine aN (fun hc=>?_) (fun hc=>?_)<;>(try rw[hc])<;>cbv)
 all_goals
  refine hk _ ?_;simp only[aw A,bO A,ub A,decide_eq_true_eq,decide_eq_false_iff_not]at *;unfold bX;repeat' split
  all_goals omega
theorem Xs(a b:Int){h:ad}{k:Value->ad->Prop}(hk:∀t,t=AN a b->k (.bool t) h):Ct 328 [.int .i64 a,.int .i64 b] h k:=by
 obtain⟨A,hA⟩:=Ar.ex;refine ah A (aq XU.ax XU.bm) Tryz.func328 rfl (by kernel_rfl) ?_;cbv;repeat' (refine aN (fun hc=>?_) (fun hc=>?_)<;>(try rw[hc])<;>cbv)
 all_goals
  refine hk _ ?_;simp only[aw A,decide_eq_true_eq,decide_eq_false_iff_not]at *;unfold AN;simp[*]
theorem OL(op a b:Int){h:ad}{k:Value->ad->Prop}(hk:∀z e,(z,e)=sV op a b->k (.tuple #[.int .i64 z,.int .i64 e]) h):Ct 311 [.int .i64 op,.int .i64 a,.int .i64 b] h k:=by
 obtain⟨A,hA⟩:=Ar.ex;refine ah A (aq X8.ax X8.bm) Tryz.func311 rfl (by kernel_rfl) ?_;cbv;repeat' (first
  | (refine aN (fun hc=>?_) (fun hc=>?_)<;>(try rw[hc])<;>cbv)
  | (refine Xs _ _ (fun t ht=>?_);cbv))
 all_goals
  refine hk _ _ ?_;simp only[aw A,hA.not,decide_eq_true_eq,decide_eq_false_iff_not]at *;simp only[sV,inK,Vo,AN]at *;simp_all
theorem lu(b:Bool){h:ad}{k:Value->ad->Prop}(hk:∀v,v=(bI b).v->k v h):Ct 313 [.bool b] h k:=by
 obtain⟨A,hA⟩:=Ar.ex;refine ah A (aq X6.ax X6.bm) Tryz.func313 rfl (by kernel_rfl) ?_;cbv;cases b with
 |true=>exact hk _ rfl
 |false=>exact hk _ rfl
theorem zZ(v:dc){h:ad}{k:Value->ad->Prop}(hk:k (.bool (decide (v.k=0))) h):Ct 314 [v.v] h k:=by obtain⟨A,hA⟩:=Ar.ex;obtain⟨vk,vn,vs⟩:=v;have f1:A .aF .eql vk 0=decide (vk=0):=aw A ..;have hk:k (.bool (decide (vk=0))) h:=hk;refine ah A (aq X5.ax X5.bm) Tryz.func314 rfl (by kernel_rfl) ?_;cbv;rw[f1];exact hk
abbrev EO:List PanicEntry:=[{ v:=.iface 35 (.int .i64 11),recovered:=false }]
abbrev PN(f:FuncId)(args:List Value)(h:ad)(R:Value->ad->Prop)(K:List PanicEntry->ad->Prop):Prop:=Bi (fun _=>Tryz.prog) f args h R K
def yx(n:Nat):Bool:=[345,331,333,330,332,316,286,247].contains n
theorem rF(n:Int)(o:Bool){h:ad}{R:Value->ad->Prop}{K:List PanicEntry->ad->Prop}(h1:o=false->R (.int .i64 n) h)(h2:o=true->K EO h):
 PN 345 [.int .i64 n,.bool o] h R K:=by
 obtain⟨A,hA⟩:=Ar.ex;refine gR A (ly XN.ax XN.bm yx [] (fun c _ h=>K c h)) Tryz.func345 rfl (by kernel_rfl) (fun _ _ _ q=>q) ?_;cbv;cases o with
 |true=>cbv;exact h2 rfl
 |false=>cbv;exact h1 rfl
theorem ji{x:Int}:mR x=true↔-9223372036854775808<=x/\x<=9223372036854775807:=by unfold mR;rw[Bool.and_eq_true,decide_eq_true_eq,decide_eq_true_eq]
theorem lk{x:Int}:mR x=false↔¬(-9223372036854775808<=x/\x<=9223372036854775807):=by rw[<-ji];simp
theorem sumC(a b:Int)(ha:mR a=true)(hb:mR b=true){h:ad}{R:Value->ad->Prop}{K:List PanicEntry->ad->Prop}(h1:mR (a+b)=true->R (.int .i64 (a+b)) h)(h2:mR (a+b)=false->K EO h):
 PN 331 [.int .i64 a,.int .i64 b] h R K:=by
 obtain⟨A,hA⟩:=Ar.ex;rw[ji]at ha hb;have e1:b>0->A .bA .sub .i64 9223372036854775807 b=9223372036854775807-b:=fun g=>oR A _ _ (by omega);have e2:b<0->A .bA .sub .i64 (-9223372036854775808) b=-9223372036854775808-b:=fun g=>oR A _ _ (by omega);refine gR A (ly XR.ax XR.bm yx [] (fun c _ h=>K c h)) Tryz.func331 rfl (by kernel_rfl) (fun _ _ _ q=>q) ?_;cbv;repeat' (refine aN (fun hc=>?_) (fun hc=>?_)<;>(try rw[hc])<;>cbv)
 all_goals (refine rF _ _ (fun ho=>?_) (fun ho=>?_))
 all_goals (cbv)
 all_goals (try (simp only[bH A,bC A,aw A,decide_eq_true_eq,decide_eq_false_iff_not,Bool.false_eq_true,Bool.true_eq_false,reduceCtorEq]at ho))
 all_goals (try simp only[bH A,bC A,aw A,decide_eq_true_eq,decide_eq_false_iff_not]at *)
 all_goals first
  | (refine h2 (lk.2 ?_);omega)
  | (by_cases hr:mR (a+b)=true
     ·have e3:A .bA .add .i64 a b=a+b:=lr A _ _ (ji.1 hr);rw[e3];exact h1 hr
     ·exfalso;rw[Bool.not_eq_true,lk]at hr;omega)
theorem VH(a b:Int)(ha:mR a=true)(hb:mR b=true){h:ad}{R:Value->ad->Prop}{K:List PanicEntry->ad->Prop}(h1:mR (a-b)=true->R (.int .i64 (a-b)) h)(h2:mR (a-b)=false->K EO h):
 PN 332 [.int .i64 a,.int .i64 b] h R K:=by
 obtain⟨A,hA⟩:=Ar.ex;rw[ji]at ha hb;have e1:b>0->A .bA .add .i64 (-9223372036854775808) b=-9223372036854775808+b:=fun g=>lr A _ _ (by omega);have e2:b<0->A .bA .add .i64 9223372036854775807 b=9223372036854775807+b:=fun g=>lr A _ _ (by omega);refine gR A (ly XQ.ax XQ.bm yx [] (fun c _ h=>K c h)) Tryz.func332 rfl (by kernel_rfl) (fun _ _ _ q=>q) ?_;cbv;repeat' (refine aN (fun hc=>?_) (fun hc=>?_)<;>(try rw[hc])<;>cbv)
 all_goals (refine rF _ _ (fun ho=>?_) (fun ho=>?_))
 all_goals (cbv)
 all_goals (try (simp only[bH A,bC A,aw A,decide_eq_true_eq,decide_eq_false_iff_not,Bool.false_eq_true,Bool.true_eq_false,reduceCtorEq]at ho))
 all_goals (try simp only[bH A,bC A,aw A,decide_eq_true_eq,decide_eq_false_iff_not]at *)
 all_goals first
  | (refine h2 (lk.2 ?_);omega)
  | (by_cases hr:mR (a-b)=true
     ·have e3:A .bA .sub .i64 a b=a-b:=oR A _ _ (ji.1 hr);rw[e3];exact h1 hr
     ·exfalso;rw[Bool.not_eq_true,lk]at hr;omega)
theorem QO(a:Int)(ha:mR a=true){h:ad}{R:Value->ad->Prop}{K:List PanicEntry->ad->Prop}(h1:mR (-a)=true->R (.int .i64 (-a)) h)(h2:mR (-a)=false->K EO h):
 PN 330 [.int .i64 a] h R K:=by
 obtain⟨A,hA⟩:=Ar.ex;rw[ji]at ha;refine gR A (ly XS.ax XS.bm yx [] (fun c _ h=>K c h)) Tryz.func330 rfl (by kernel_rfl) (fun _ _ _ q=>q) ?_;cbv;repeat' (refine aN (fun hc=>?_) (fun hc=>?_)<;>(try rw[hc])<;>cbv)
 all_goals (refine rF _ _ (fun ho=>?_) (fun ho=>?_))
 all_goals (cbv)
 all_goals (try (simp only[bH A,bC A,aw A,decide_eq_true_eq,decide_eq_false_iff_not,Bool.false_eq_true,Bool.true_eq_false,reduceCtorEq]at ho))
 all_goals (try simp only[bH A,bC A,aw A,decide_eq_true_eq,decide_eq_false_iff_not]at *)
 all_goals first
  | (refine h2 (lk.2 ?_);omega)
  | (by_cases hr:mR (-a)=true
     ·have e3:A .bA .sub .i64 0 a=-a:=by rw[oR A _ _ (by rw[ji]at hr;omega)];omega
      rw[e3];exact h1 hr
     ·exfalso;rw[Bool.not_eq_true,lk]at hr;omega)
theorem C5(x:Int):∃k:Int,IntKind.i64.wrap x=x+k*18446744073709551616/\-9223372036854775808<=IntKind.i64.wrap x/\IntKind.i64.wrap x<=9223372036854775807:=by
 have hs:IntKind.i64.signed=true:=rfl;simp only[IntKind.wrap,IntKind.bits,hs];simp;split
 ·exact⟨⟨-(x / 18446744073709551616)-1,by omega⟩,by omega,by omega⟩
 ·exact⟨⟨-(x / 18446744073709551616),by omega⟩,by omega,by omega⟩
theorem L9{a b:Int}(W2:b≠0)(ha:-9223372036854775808<=a/\a<=9223372036854775807)(hb:-9223372036854775808<=b/\b<=9223372036854775807)
 (h1:IntKind.i64.wrap ((IntKind.i64.wrap (a*b)).tdiv b)=a) (h2:¬(a=-1/\b=-9223372036854775808)) (h3:¬(b=-1/\a=-9223372036854775808)):-9223372036854775808<=a*b/\a*b<=9223372036854775807:=by
 obtain⟨k,hk,hc1,jW⟩:=C5 (a*b);generalize IntKind.i64.wrap (a*b)=c at *;obtain⟨j,hj,RY,Uh⟩:=C5 (c.tdiv b);have e1:=Int.tmod_add_tdiv_mul c b;have aI:(c.tdiv b).natAbs<=c.natAbs:=by rw[Int.natAbs_tdiv];exact Nat.div_le_self _ _
 by_cases Av:j=0
 ·subst Av;have hq:c.tdiv b=a:=by omega
  rw[hq]at e1;have hr:(c.tmod b).natAbs<b.natAbs:=by rw[Int.natAbs_tmod];exact Nat.mod_lt _ (by omega)
  have O1:=hr;generalize c.tmod b=r at *;generalize a*b=p at *;have:r=k*18446744073709551616:=by omega
  omega
 ·have hq:c.tdiv b=9223372036854775808:=by omega
  have Gz:c=-9223372036854775808:=by omega
  have hba:b=-1:=by
   rw[hq,Gz]at e1;have hr:((-9223372036854775808:Int).tmod b).natAbs<b.natAbs:=by rw[Int.natAbs_tmod];exact Nat.mod_lt _ (by omega)
   rw[Gz]at hq;generalize (-9223372036854775808:Int).tmod b=r at *;omega
  subst hba;omega
theorem HM(a b:Int)(ha:mR a=true)(hb:mR b=true){h:ad}{R:Value->ad->Prop}{K:List PanicEntry->ad->Prop}(h1:mR (a*b)=true->R (.int .i64 (a*b)) h)(h2:mR (a*b)=false->K EO h):
 PN 333 [.int .i64 a,.int .i64 b] h R K:=by
 obtain⟨A,hA⟩:=Ar.ex;rw[ji]at ha hb;have e1:A .bA .mul .i64 a b=IntKind.i64.wrap (a*b):=by rw[hA.bA];rfl
 have e2:∀c,A .bA .quo .i64 c b=IntKind.i64.wrap (c.tdiv b):=fun c=>by rw[hA.bA];rfl
 refine gR A (ly XP.ax XP.bm yx [] (fun c _ h=>K c h)) Tryz.func333 rfl (by kernel_rfl) (fun _ _ _ q=>q) ?_;cbv;by_cases h0:a=0\/b=0
 ·have h0':a*b=0:=by rcases h0 with rfl|rfl<;>simp
  rw[h0']at h1;have af:=h1 (by decide);clear h1 h2;repeat' (refine aN (fun hc=>?_) (fun hc=>?_)<;>(try rw[hc])<;>cbv)
  all_goals first
   |exact af
   | (exfalso;simp only[aw A,decide_eq_true_eq,decide_eq_false_iff_not]at *;omega)
 ·have ha0:A .aF .eql a 0=false:=by rw[aw A,decide_eq_false_iff_not];omega
  have W2:A .aF .eql b 0=false:=by rw[aw A,decide_eq_false_iff_not];omega
  have AE:b≠0:=by omega
  rw[ha0];cbv;rw[W2];cbv;have s1:a=-1->a*b=-b:=fun e=>by rw[e];omega
  have s2:b=-1->a*b=-a:=fun e=>by rw[e];omega
  have hw:-9223372036854775808<=a*b/\a*b<=9223372036854775807->IntKind.i64.wrap (a*b)=a*b:=fun hr=>IntWalk.i64_in _ hr;have hq:-9223372036854775808<=a*b/\a*b<=9223372036854775807->IntKind.i64.wrap ((IntKind.i64.wrap (a*b)).tdiv b)=a:=fun hr=>by
   rw[hw hr,Int.mul_tdiv_cancel _ AE];exact IntWalk.i64_in _ ha
  have hpi:=L9 (a:=a) (b:=b) AE ha hb;refine⟨AE,?_⟩;cbv;repeat' (refine aN (fun hc=>?_) (fun hc=>?_)<;>(try rw[hc])<;>cbv)
  all_goals (refine rF _ _ (fun ho=>?_) (fun ho=>?_))
  all_goals (cbv)
  all_goals (try (simp only[bH A,bC A,aw A,decide_eq_true_eq,decide_eq_false_iff_not,Bool.false_eq_true,Bool.true_eq_false,reduceCtorEq]at ho))
  all_goals (simp only[aw A,ay A,decide_eq_true_eq,decide_eq_false_iff_not,e1,e2]at *)
  all_goals first
   | (refine h2 (lk.2 ?_);omega)
   | (by_cases hr:mR (a*b)=true
      ·have O1:=hr;rw[ji]at O1;rw[hw O1];exact h1 hr
      ·exfalso;rw[Bool.not_eq_true,lk]at hr;omega)
theorem Mf(op a b:Int)(ha:mR a=true)(hb:mR b=true){h:ad}{R:Value->ad->Prop}{K:List PanicEntry->ad->Prop}(h1:∀v,dL op a b=some v->R v.v h)(h2:dL op a b=none->K EO h):
 PN 316 [.int .i64 op,.int .i64 a,.int .i64 b] h R K:=by
 obtain⟨A,hA⟩:=Ar.ex;have f1:A .aF .eql op 4=decide (op=4):=aw A ..;have f2:A .aF .eql op 14=decide (op=14):=aw A ..;have f3:A .aF .eql op 15=decide (op=15):=aw A ..;have num:∀x,(∀v,qF x=some v->R v.v h)->mR x=true->R (.agg #[.int .i64 2,.int .i64 x,.string ⟨#[]⟩]) h:=fun x hx hr=>hx ⟨2,x,b0⟩ (by unfold qF;rw[if_pos hr]);have non:∀x,(qF x=none->K EO h)->mR x=false->K EO h:=fun x hx hr=>hx (by unfold qF;rw[hr];rfl);refine gR A (ly X3.ax X3.bm yx [] (fun c _ h=>K c h)) Tryz.func316 rfl (by kernel_rfl) (fun _ _ _ q=>q) ?_;cbv;rw[f1];by_cases c1:op=4
 ·have e:dL op a b=qF (-a):=by unfold dL;rw[if_pos c1]
  rw[e]at h1 h2;rw[decide_eq_true c1];cbv;refine QO a ha (fun g=>?_) (fun g=>?_)
  ·have af:=num _ h1 g;cbv;exact af
  ·have af:=non _ h2 g;cbv;exact af
 ·rw[decide_eq_false c1];cbv;rw[f2];by_cases c2:op=14
  ·have e:dL op a b=qF (a+b):=by unfold dL;rw[if_neg c1,if_pos c2]
   rw[e]at h1 h2;rw[decide_eq_true c2];cbv;refine sumC a b ha hb (fun g=>?_) (fun g=>?_)
   ·have af:=num _ h1 g;generalize a+b=c at *;cbv;exact af
   ·have af:=non _ h2 g;cbv;exact af
  ·rw[decide_eq_false c2];cbv;rw[f3];by_cases c3:op=15
   ·have e:dL op a b=qF (a-b):=by unfold dL;rw[if_neg c1,if_neg c2,if_pos c3]
    rw[e]at h1 h2;rw[decide_eq_true c3];cbv;refine VH a b ha hb (fun g=>?_) (fun g=>?_)
    ·have af:=num _ h1 g;generalize a-b=c at *;cbv;exact af
    ·have af:=non _ h2 g;cbv;exact af
   ·have e:dL op a b=qF (a*b):=by unfold dL;rw[if_neg c1,if_neg c2,if_neg c3]
    rw[e]at h1 h2;rw[decide_eq_false c3];cbv;refine HM a b ha hb (fun g=>?_) (fun g=>?_)
    ·have af:=num _ h1 g;generalize a*b=c at *;cbv;exact af
    ·have af:=non _ h2 g;cbv;exact af
theorem DY(A:Ar)[hA:aX A](a b:dc):A .and (A .aF .eql a.k b.k) (A .and (A .aF .eql a.n b.n) (A .and (A .je .eql a.s b.s) true))=Bv a b:=by rw[hA.and,aw A,aw A,bN A];show(decide (a.k=b.k)&&(decide (a.n=b.n)&&(decide (a.s=b.s)&&true)))=_;unfold Bv;rw[Bool.and_true,Bool.and_assoc]
theorem Ij(op:Int)(a b:dc){h:ad}{k:Value->ad->Prop}(hk:∀h' v,Le h h'->v=(mB op a b).v->k v h'):Ct 315 [.int .i64 op,a.v,b.v] h k:=by
 obtain⟨A,hA⟩:=Ar.ex;have f1:A .aF .eql op 6=decide (op=6):=aw A ..;have hL:mB op a b=if Bv a (bI (decide (op=6)))=true then a else if Bv b (bI (decide (op=6)))=true then b
  else if a.k=0\/b.k=0 then v0 else bI (!decide (op=6)):=rfl
 generalize decide (op=6)=d at *;obtain⟨T,hT⟩:∃T,T=bI d:=⟨_,rfl⟩;have ev:∀x:dc,A .and (A .aF .eql x.k T.k) (A .and (A .aF .eql x.n T.n) (A .and (A .je .eql x.s T.s) true))=Bv x T:=fun x=>DY A x T;rw[<-hT]at hL;obtain⟨ak,an,sa⟩:=a;obtain⟨bk,bn,sb⟩:=b;refine ah A (aq X4.ax X4.bm) Tryz.func315 rfl (by kernel_rfl) ?_;cbv;rw[f1];cbv;intro nb h1 hn e1;have l1:Le h h1:=by rw[e1];exact Le.set hn
 have q:Sl 61 aQ h1 (.slice (some ⟨nb,0,none⟩) 2 2) [⟨ak,an,sa⟩,⟨bk,bn,sb⟩]:=by
  refine Sl.fresh (s:=aQ) (h:=h1) (n:=nb) (xs:=[⟨ak,an,sa⟩,⟨bk,bn,sb⟩]) (cap:=2) (c:=[.int .i64 ak,.int .i64 an,.string sa,.int .i64 bk,.int .i64 bn,.string sb]) (by rw[e1];exact ae) ⟨Nat.le_refl 6,fun i x hx=>?_⟩ (by show 2<=_;omega) (Nat.le_refl 2)
  match i,hx with
  |0,hx=>cases hx;rfl
  |1,hx=>cases hx;rfl
  |i+2,hx=>simp at hx
 cbv;refine aZ.go (G:=Int) (fun z=>[(16,.v (.int .i64 z))]) (fun _=>[(4,[.int .i64 ak,.int .i64 an,.string sa]),(5,[.int .i64 bk,.int .i64 bn,.string sb]),(6,[.int .i64 0,.int .i64 0,.string ⟨#[]⟩])])
  (fun m z h'=>∃i:Nat,aP z i/\m=2-i/\i<=2/\h'=h1/\(0<i->Bv ⟨ak,an,sa⟩ T=false)/\(1<i->Bv ⟨bk,bn,sb⟩ T=false)) 2 0 ⟨?_,?_,?_⟩ ⟨0,⟨rfl⟩,by omega,by omega,rfl,fun g=>by omega,fun g=>by omega⟩ ?_
 ·cbv
 ·cbv
 ·cbv
 ·intro m z h' hI;cbv;obtain⟨i,hz,hm,hi,e',ha,hb⟩:=hI;subst e';refine aN (fun hc=>?_) (fun hc=>?_)
  ·have aI:=hz.lt (len:=2) hc;rw[hc];clear hc;obtain⟨x,hx⟩:=aD (xs:=[(⟨ak,an,sa⟩:dc),⟨bk,bn,sb⟩]) (i:=i) (show i<2 by omega);have evx:=ev x;have DE:Bv x T=true->k (.agg #[.int .i64 x.k,.int .i64 x.n,.string x.s]) h':=fun g=>by
    refine hk h' _ l1 ?_;have:mB op ⟨ak,an,sa⟩ ⟨bk,bn,sb⟩=x:=by
     rw[hL]
     match i,hx,ha,hb with
     |0,hx,ha,hb=>cases hx;rw[if_pos g]
     |1,hx,ha,hb=>cases hx;rw[ha (by omega),if_neg (by simp),if_pos g]
     |i+2,hx,_,_=>simp at hx
    rw[this]
   have cU:Bv x T=false->(0<i+1->Bv ⟨ak,an,sa⟩ T=false)/\(1<i+1->Bv ⟨bk,bn,sb⟩ T=false):=fun g=>by
    match i,hx,ha,hb with
    |0,hx,ha,hb=>cases hx;exact⟨fun _=>g,fun g=>by omega⟩
    |1,hx,ha,hb=>cases hx;exact⟨fun _=>ha (by omega),fun _=>g⟩
    |i+2,hx,_,_=>simp at hx
   have dz:=hz.succ (A:=A) (by omega);have cy:=hz.ix aI;have eX:=hz.eq;have iD:2-(i+1)<m:=by omega
   clear hk hL ha hb;cbv;refine⟨⟨rfl,cy⟩,?_⟩;cbv;refine q.load hx eX (fun cs aJ=>?_);obtain⟨xk,xn,xs⟩:=x;have aJ:cs=[.int .i64 xk,.int .i64 xn,.string xs]:=aJ;subst aJ;cbv;refine lu d (fun v hv=>?_);rw[<-hT]at hv;obtain⟨tk,tn,ts⟩:=T;subst hv;cbv;have evx:A .and (A .aF .eql xk tk) (A .and (A .aF .eql xn tn) (A .and (A .je .eql xs ts) true))=Bv ⟨xk,xn,xs⟩ ⟨tk,tn,ts⟩:=evx;rw[evx];clear ev evx;generalize Bv ⟨xk,xn,xs⟩ ⟨tk,tn,ts⟩=t at *;cases t with
   |true=>have af:=DE rfl;clear DE cU;cbv;exact af
   |false=>
    have hI:=cU rfl;clear DE cU;cbv;refine⟨2-(i+1),A .bA .add .i64 z 1,iD,⟨?_,?_,?_⟩,i+1,dz,rfl,aI,rfl,hI⟩
    ·cbv
    ·cbv
    ·cbv
  ·have iW:=hz.ge (len:=2) hc;rw[hc];clear hc;have hi2:i=2:=by omega
   have e1':mB op ⟨ak,an,sa⟩ ⟨bk,bn,sb⟩=if ak=0\/bk=0 then v0 else bI (!d):=by rw[hL,ha (by omega),hb (by omega),if_neg (by simp),if_neg (by simp)]
   have nd:A .not d= !d:=by rw[hA.not]
   have Ao:(ak=0\/bk=0)->k (.agg #[.int .i64 0,.int .i64 0,.string ⟨#[]⟩]) h':=fun g=>hk h' _ l1 (by rw[e1',if_pos g];rfl);have mW:¬(ak=0\/bk=0)->k (bI (!d)).v h':=fun g=>hk h' _ l1 (by rw[e1',if_neg g]);clear hk hL ha hb e1' ev;cbv;refine zZ ⟨ak,an,sa⟩ ?_;by_cases c1:ak=0
   ·have af:=Ao (.inl c1);have hd:decide ((⟨ak,an,sa⟩:dc).k=0)=true:=decide_eq_true c1;rw[hd];cbv;exact af
   ·have hd:decide ((⟨ak,an,sa⟩:dc).k=0)=false:=decide_eq_false c1;rw[hd];cbv;refine zZ ⟨bk,bn,sb⟩ ?_;by_cases c2:bk=0
    ·have af:=Ao (.inr c2);have hd:decide ((⟨bk,bn,sb⟩:dc).k=0)=true:=decide_eq_true c2;rw[hd];cbv;exact af
    ·have af:=mW (by rintro(g|g)<;>contradiction);have hd:decide ((⟨bk,bn,sb⟩:dc).k=0)=false:=decide_eq_false c2;rw[hd];cbv;rw[nd];refine lu (!d) (fun v hv=>?_);generalize bI (!d)=tv at *;obtain⟨tk,tn,ts⟩:=tv;subst hv;cbv;exact af
theorem OH(op:Int)(a b:dc)(ha:mR a.n=true)(hb:mR b.n=true){h:ad}{R:Value->ad->Prop}{K:List PanicEntry->ad->Prop}
 (h1:∀h' w v,Le h h'->jS op a b=some w->v=w.v->R v h') (h2:∀h',Le h h'->jS op a b=none->K EO h'):
 PN 286 [.int .i64 op,a.v,b.v] h R K:=by
 obtain⟨A,hA⟩:=Ar.ex;have hP:jS op a b=if op=5 then some (bI (decide (a.k=0)))
  else if op=6\/op=7 then some (mB op a b)
  else if a.k=0\/b.k=0 then some v0
  else if op=3 then some (bI (decide (a.n=0)))
  else if op=8 then some (bI (decide (cD a b=0)))
  else if op=9 then some (bI (decide (cD a b≠0)))
  else if op=10 then some (bI (decide (cD a b<0)))
  else if op=11 then some (bI (decide (cD a b<=0)))
  else if op=12 then some (bI (decide (cD a b>0)))
  else if op=13 then some (bI (decide (cD a b>=0)))
  else dL op a.n b.n:=rfl
 have f5:A .aF .eql op 5=decide (op=5):=aw A ..;have f6:A .aF .eql op 6=decide (op=6):=aw A ..;have f7:A .aF .eql op 7=decide (op=7):=aw A ..;have f3:A .aF .eql op 3=decide (op=3):=aw A ..;have f8:A .aF .eql op 8=decide (op=8):=aw A ..;have f9:A .aF .eql op 9=decide (op=9):=aw A ..;have f10:A .aF .eql op 10=decide (op=10):=aw A ..;have f11:A .aF .eql op 11=decide (op=11):=aw A ..;have f12:A .aF .eql op 12=decide (op=12):=aw A ..;have f13:A .aF .eql op 13=decide (op=13):=aw A ..;have fz:A .aF .eql a.n 0=decide (a.n=0):=aw A ..;obtain⟨ak,an,sa⟩:=a;obtain⟨bk,bn,sb⟩:=b;generalize jS op ⟨ak,an,sa⟩ ⟨bk,bn,sb⟩=D at *;refine gR A (ly Yp.ax Yp.bm yx [] (fun c _ h=>K c h)) Tryz.func286 rfl (by kernel_rfl) (fun _ _ _ q=>q) ?_;cbv;rw[f5];by_cases c5:op=5
 ·rw[if_pos c5]at hP;rw[decide_eq_true c5];cbv;refine zZ ⟨ak,an,sa⟩ ?_;have h1:=fun v=>h1 h _ v (Le.refl _) hP;clear h2 hP;generalize decide ((⟨ak,an,sa⟩:dc).k=0)=t at *;cbv;refine lu t (fun v hv=>?_);have af:=h1 v hv;generalize bI t=tv at *;obtain⟨tk,tn,ts⟩:=tv;subst hv;cbv;exact af
 rw[if_neg c5]at hP;rw[decide_eq_false c5];cbv;rw[f6];by_cases c6:op=6
 ·rw[decide_eq_true c6];rw[if_pos (show op=6\/op=7 from .inl c6)]at hP;cbv;refine Ij op ⟨ak,an,sa⟩ ⟨bk,bn,sb⟩ (fun h3 v l3 hv=>?_);have af:=h1 h3 _ v l3 hP hv;clear h1 h2 hP;generalize mB op ⟨ak,an,sa⟩ ⟨bk,bn,sb⟩=tv at *;obtain⟨tk,tn,ts⟩:=tv;subst hv;cbv;exact af
 rw[decide_eq_false c6];cbv;rw[f7];by_cases c7:op=7
 ·rw[decide_eq_true c7];rw[if_pos (show op=6\/op=7 from .inr c7)]at hP;cbv;refine Ij op ⟨ak,an,sa⟩ ⟨bk,bn,sb⟩ (fun h3 v l3 hv=>?_);have af:=h1 h3 _ v l3 hP hv;clear h1 h2 hP;generalize mB op ⟨ak,an,sa⟩ ⟨bk,bn,sb⟩=tv at *;obtain⟨tk,tn,ts⟩:=tv;subst hv;cbv;exact af
 rw[decide_eq_false c7];rw[if_neg (by rintro(g|g)<;>contradiction)]at hP;have hP:D=if ak=0\/bk=0 then some v0
  else if op=3 then some (bI (decide (an=0)))
  else if op=8 then some (bI (decide (cD ⟨ak,an,sa⟩ ⟨bk,bn,sb⟩=0)))
  else if op=9 then some (bI (decide (cD ⟨ak,an,sa⟩ ⟨bk,bn,sb⟩≠0)))
  else if op=10 then some (bI (decide (cD ⟨ak,an,sa⟩ ⟨bk,bn,sb⟩<0)))
  else if op=11 then some (bI (decide (cD ⟨ak,an,sa⟩ ⟨bk,bn,sb⟩<=0)))
  else if op=12 then some (bI (decide (cD ⟨ak,an,sa⟩ ⟨bk,bn,sb⟩>0)))
  else if op=13 then some (bI (decide (cD ⟨ak,an,sa⟩ ⟨bk,bn,sb⟩>=0)))
  else dL op an bn:=hP
 have Ao:ak=0\/bk=0->R (.agg #[.int .i64 0,.int .i64 0,.string ⟨#[]⟩]) h:=fun g=>h1 h v0 _ (Le.refl _) (by rw[hP,if_pos g]) rfl;cbv;refine zZ ⟨ak,an,sa⟩ ?_;by_cases c1:ak=0
 ·have af:=Ao (.inl c1);have hd:decide ((⟨ak,an,sa⟩:dc).k=0)=true:=decide_eq_true c1;rw[hd];clear h1 h2 hP Ao;cbv;exact af
 have hd:decide ((⟨ak,an,sa⟩:dc).k=0)=false:=decide_eq_false c1;rw[hd];clear hd;cbv;refine zZ ⟨bk,bn,sb⟩ ?_;by_cases c2:bk=0
 ·have af:=Ao (.inr c2);have hd:decide ((⟨bk,bn,sb⟩:dc).k=0)=true:=decide_eq_true c2;rw[hd];clear h1 h2 hP Ao;cbv;exact af
 have hd:decide ((⟨bk,bn,sb⟩:dc).k=0)=false:=decide_eq_false c2;rw[hd];clear hd Ao;rw[if_neg (by rintro(g|g)<;>contradiction)]at hP;cbv;refine(vL ⟨ak,an,sa⟩ ⟨bk,bn,sb⟩ h).mono (fun v h3 hR=>?_);obtain⟨l3,z,hv,hz⟩:=hR;subst hv;rw[<-hz]at hP;have hf:∀t:Bool,∀v,D=some (bI t)->v=(bI t).v->R v h3:=fun t v e hv=>h1 h3 _ v l3 e hv;have K2:D=dL op an bn->∀v,dL op an bn=some v->R v.v h3:=fun e v hv=>h1 h3 v _ l3 (e.trans hv) rfl;have K0:D=dL op an bn->dL op an bn=none->K EO h3:=fun e hv=>h2 h3 l3 (e.trans hv);clear h1 h2 hz;have fz:A .aF .eql an 0=decide (an=0):=fz;cbv;rw[f3];by_cases Th:op=3
 ·rw[if_pos Th]at hP;rw[decide_eq_true Th];obtain⟨t,ht⟩:∃t,t=decide (an=0):=⟨_,rfl⟩;rw[<-ht]at hP fz;have hf:=hf t;clear K2 K0;cbv;try rw[fz]
  refine lu t (fun v hv=>?_);have af:=hf v hP hv;clear hf hP;generalize bI t=tv at *;obtain⟨tk,tn,ts⟩:=tv;subst hv;cbv;exact af
 rw[if_neg Th]at hP;rw[decide_eq_false Th];have gz:A .aF .eql z 0=decide (z=0):=aw A ..;cbv;rw[f8];by_cases c8':op=8
 ·rw[if_pos c8']at hP;rw[decide_eq_true c8'];obtain⟨t,ht⟩:∃t,t=decide (z=0):=⟨_,rfl⟩;rw[<-ht]at hP gz;have hf:=hf t;clear K2 K0;cbv;try rw[gz]
  refine lu t (fun v hv=>?_);have af:=hf v hP hv;clear hf hP;generalize bI t=tv at *;obtain⟨tk,tn,ts⟩:=tv;subst hv;cbv;exact af
 rw[if_neg c8']at hP;rw[decide_eq_false c8'];have gz:A .aF .neq z 0=decide (z≠0):=ay A ..;cbv;rw[f9];by_cases c9':op=9
 ·rw[if_pos c9']at hP;rw[decide_eq_true c9'];obtain⟨t,ht⟩:∃t,t=decide (z≠0):=⟨_,rfl⟩;rw[<-ht]at hP gz;have hf:=hf t;clear K2 K0;cbv;try rw[gz]
  refine lu t (fun v hv=>?_);have af:=hf v hP hv;clear hf hP;generalize bI t=tv at *;obtain⟨tk,tn,ts⟩:=tv;subst hv;cbv;exact af
 rw[if_neg c9']at hP;rw[decide_eq_false c9'];have gz:A .aF .lss z 0=decide (z<0):=bC A ..;cbv;rw[f10];by_cases NZ:op=10
 ·rw[if_pos NZ]at hP;rw[decide_eq_true NZ];obtain⟨t,ht⟩:∃t,t=decide (z<0):=⟨_,rfl⟩;rw[<-ht]at hP gz;have hf:=hf t;clear K2 K0;cbv;try rw[gz]
  refine lu t (fun v hv=>?_);have af:=hf v hP hv;clear hf hP;generalize bI t=tv at *;obtain⟨tk,tn,ts⟩:=tv;subst hv;cbv;exact af
 rw[if_neg NZ]at hP;rw[decide_eq_false NZ];have gz:A .aF .leq z 0=decide (z<=0):=ub A ..;cbv;rw[f11];by_cases NY:op=11
 ·rw[if_pos NY]at hP;rw[decide_eq_true NY];obtain⟨t,ht⟩:∃t,t=decide (z<=0):=⟨_,rfl⟩;rw[<-ht]at hP gz;have hf:=hf t;clear K2 K0;cbv;try rw[gz]
  refine lu t (fun v hv=>?_);have af:=hf v hP hv;clear hf hP;generalize bI t=tv at *;obtain⟨tk,tn,ts⟩:=tv;subst hv;cbv;exact af
 rw[if_neg NY]at hP;rw[decide_eq_false NY];have gz:A .aF .gtr z 0=decide (z>0):=bH A ..;cbv;rw[f12];by_cases NW:op=12
 ·rw[if_pos NW]at hP;rw[decide_eq_true NW];obtain⟨t,ht⟩:∃t,t=decide (z>0):=⟨_,rfl⟩;rw[<-ht]at hP gz;have hf:=hf t;clear K2 K0;cbv;try rw[gz]
  refine lu t (fun v hv=>?_);have af:=hf v hP hv;clear hf hP;generalize bI t=tv at *;obtain⟨tk,tn,ts⟩:=tv;subst hv;cbv;exact af
 rw[if_neg NW]at hP;rw[decide_eq_false NW];have gz:A .aF .geq z 0=decide (z>=0):=bO A ..;cbv;rw[f13];by_cases NV:op=13
 ·rw[if_pos NV]at hP;rw[decide_eq_true NV];obtain⟨t,ht⟩:∃t,t=decide (z>=0):=⟨_,rfl⟩;rw[<-ht]at hP gz;have hf:=hf t;clear K2 K0;cbv;try rw[gz]
  refine lu t (fun v hv=>?_);have af:=hf v hP hv;clear hf hP;generalize bI t=tv at *;obtain⟨tk,tn,ts⟩:=tv;subst hv;cbv;exact af
 rw[if_neg NV]at hP;rw[decide_eq_false NV];have K2:=K2 hP;have K0:=K0 hP;clear hf hP;cbv;refine Mf op an bn ha hb (fun v hv=>?_) (fun hv=>?_)
 ·have af:=K2 v hv;obtain⟨vk,vn,vs⟩:=v;cbv;exact af
 ·have af:=K0 hv;cbv;exact af
abbrev Nd.vv(n:Nd):Value:=.agg #[.int .i64 n.op,.int .i64 n.a,.int .i64 n.b,.int .i64 n.v.k,.int .i64 n.v.n,.string n.v.s,.string n.name]
theorem qz(op:Int):(bX op=0/\(op=1\/op=2))\/(bX op=1/\(op=3\/op=4\/op=5))\/(bX op=2/\6<=op/\op<=16)\/(bX op=-1/\op≠1/\op≠2):=by
 unfold bX;by_cases h1:op=1\/op=2
 ·left;rw[if_pos h1];exact⟨rfl,h1⟩
 ·rw[if_neg h1];by_cases h2:op=3\/op=4\/op=5
  ·right;left;rw[if_pos h2];exact⟨rfl,h2⟩
  ·rw[if_neg h2];by_cases h3:6<=op/\op<=16
   ·right;right;left;rw[if_pos h3];exact⟨rfl,h3⟩
   ·right;right;right;rw[if_neg h3];exact⟨rfl,by omega,by omega⟩
theorem yJ{l:List Int}{a x:Int}{i:Nat}(h:l[i]? =some x)(ha:a=(i:Int)):DA l a=x:=by subst ha;unfold DA;rw[Int.toNat_natCast,h];rfl
theorem VO{n:Nd}(hn:Nm n.name){l:List Int}{cols:List bM}(hc:∀c∈cols,Nm c.name){h:ad}{lb:Option Addr}{ln lc:Nat}(ql:Sl 3 dD h (.slice lb ln lc) l)
 {cb:Option Addr} {cn cc:Nat} (qc:Sl 165 aT h (.slice cb cn cc) cols) {z:Int} (hz:aP z l.length) {k:Value->ad->Prop}
 (hk:∀h' a e,Le h h'->(a,e)=qP n l cols->k (.tuple #[.int .i64 a,.int .i64 e]) h'):
 Ct 283 [n.vv,.int .i64 z,.slice lb ln lc,.slice cb cn cc] h k:=by
 obtain⟨A,hA⟩:=Ar.ex;have xI:=ql.len;have hlb:=ql.bound;have hP:qP n l cols=if bX n.op<0\/(bX n.op>0/\(n.a<0\/n.a>=l.length))\/(bX n.op>1/\(n.b<0\/n.b>=l.length))then(0,1)
  else if n.op=1 then(n.v.k,fw n.v)
  else if n.op=2 then
   match dt n.name cols with
   | (c,e)=>if e≠0 then(0,e)else(match cols[c.toNat]? with
    |some c=>(c.kind,0)
    |none=>(0,0))
  else if bX n.op=1 then sV n.op (DA l n.a) (DA l n.a)else sV n.op (DA l n.a) (DA l n.b):=rfl
 obtain⟨op,a,b,v,name⟩:=n;have dn:=qz op;have hn:Nm name:=hn;generalize qP ⟨op,a,b,v,name⟩ l cols=D at *;have hP:D=if bX op<0\/(bX op>0/\(a<0\/a>=l.length))\/(bX op>1/\(b<0\/b>=l.length))then(0,1)
  else if op=1 then(v.k,fw v)
  else if op=2 then
   match dt name cols with
   | (c,e)=>if e≠0 then(0,e)else(match cols[c.toNat]? with
    |some c=>(c.kind,0)
    |none=>(0,0))
  else if bX op=1 then sV op (DA l a) (DA l a)else sV op (DA l a) (DA l b):=hP
 have f1:A .aF .eql op 1=decide (op=1):=aw A ..;have f2:A .aF .eql op 2=decide (op=2):=aw A ..;have fa:A .aF .lss a 0=decide (a<0):=bC A ..;have fb:A .aF .lss b 0=decide (b<0):=bC A ..;obtain⟨N,hN⟩:∃N:Int,N=l.length:=⟨_,rfl⟩;have lX:∀a:Int,¬a<0->¬a>=N->∃x,l[a.toNat]? =some x/\a=(a.toNat:Int)/\(lb.isSome=true/\0<=a/\a<(ln:Int)):=fun a h0 h1=>by
  obtain⟨x,hx⟩:=aD (xs:=l) (i:=a.toNat) (by omega);exact⟨x,hx,by omega,ql.bF (by omega),by omega,by omega⟩
 rw[<-hN]at hP;have ga:A .aF .geq a z=decide (a>=N):=by rw[bO A,hz.eq,hN]
 have gb:A .aF .geq b z=decide (b>=N):=by rw[bO A,hz.eq,hN]
 have jO:(bX op<0\/(bX op>0/\(a<0\/a>=N))\/(bX op>1/\(b<0\/b>=N)))->k (.tuple #[.int .i64 0,.int .i64 1]) h:=fun g=>hk h 0 1 (Le.refl _) (by rw[hP,if_pos g]);obtain⟨vk,vn,vs⟩:=v;clear hlb xI;refine ah A (aq Ys.ax Ys.bm) Tryz.func283 rfl (by kernel_rfl) ?_;cbv;refine BY op (fun p hp=>?_);rw[<-hp]at dn hP jO;rcases dn with ⟨c0,c1⟩ | ⟨c0,c1⟩ | ⟨c0,c1⟩ | ⟨c0,c1⟩
 ·subst c0;rw[if_neg (by omega)]at hP;cbv;rw[(show A .aF .lss 0 0=false from by rw[bC A];rfl)];cbv;rw[(show A .aF .gtr 0 0=false from by rw[bH A];rfl)];cbv;rw[(show A .aF .gtr 0 1=false from by rw[bH A];rfl)];cbv;rw[f1];by_cases d1:op=1
  ·rw[if_pos d1]at hP;rw[decide_eq_true d1];clear jO;cbv;refine(A4 ⟨vk,vn,vs⟩ h).mono (fun v h3 hR=>?_);obtain⟨l3,y,hv,hy⟩:=hR;subst hv;have af:=hk h3 vk y l3 (by rw[hP,hy]);clear hk hP hy;cbv;exact af
  ·have d2:op=2:=by omega
   rw[if_neg d1,if_pos d2]at hP;rw[decide_eq_false d1];cbv;rw[f2,decide_eq_true d2];clear jO;cbv;refine Py hn hc qc (fun h3 y e l3 hy hb=>?_);rw[hy]at hP;have fe:A .aF .neq e 0=decide (e≠0):=ay A ..;have hP:D=if e≠0 then(0,e)else(match cols[y.toNat]? with
    |some c=>(c.kind,0)
    |none=>(0,0)):=hP
   clear hy;by_cases he:e=0
   ·have hb:=hb he;obtain⟨c,AA⟩:=aD (xs:=cols) (i:=y.toNat) (by omega);rw[if_neg (fun g=>g he),AA]at hP;have hql:=qc.len;have cy:cb.isSome=true/\0<=y/\y<(cn:Int):=⟨qc.bF (by omega),by omega,by omega⟩;have af:=hk h3 c.kind 0 l3 hP.symm;have OS:y=(y.toNat:Int):=by omega
    clear hk hP;cbv;rw[fe,decide_eq_false (by omega:¬e≠0)];cbv;refine⟨cy,?_⟩;cbv;refine(qc.mono (l3.t _)).js AA OS (o:=1) (m:=1) (by decide) (fun cs aJ=>?_);obtain⟨rS,A3,D6⟩:=c;have aJ:cs=[.string rS,.int .i64 A3,.bool D6]:=aJ;subst aJ;cbv;exact af
   ·rw[if_pos he]at hP;have af:=hk h3 0 e l3 hP.symm;clear hk hP;cbv;rw[fe,decide_eq_true he];cbv;exact af
 ·subst c0;cbv;rw[(show A .aF .lss 1 0=false from by rw[bC A];rfl)];cbv;rw[(show A .aF .gtr 1 0=true from by rw[bH A];rfl)];cbv;rw[fa];by_cases a0:a<0
  ·have af:=jO (by omega);clear jO hk hP;rw[decide_eq_true a0];cbv;exact af
  rw[decide_eq_false a0];cbv;rw[ga];by_cases a1:a>=N
  ·have af:=jO (by omega);clear jO hk hP;rw[decide_eq_true a1];cbv;exact af
  rw[decide_eq_false a1];cbv;rw[(show A .aF .gtr 1 1=false from by rw[bH A];rfl)];have Aw:=lX a a0 a1;cbv;obtain⟨x,hx,Ap,yV⟩:=Aw;rw[if_neg (by omega),if_neg (by omega),if_neg (by omega),if_pos rfl,yJ hx Ap]at hP;clear jO;rw[f1,decide_eq_false (by omega:¬op=1)];cbv;rw[f2,decide_eq_false (by omega:¬op=2)];cbv;rw[(show A .aF .eql 1 1=true from by rw[aw A];rfl)];cbv;refine⟨yV,?_⟩;cbv;refine ql.load hx Ap (fun cs aJ=>?_);have aJ:cs=[.int .i64 x]:=aJ;subst aJ;cbv;refine⟨yV,?_⟩;cbv;refine ql.load hx Ap (fun cs aJ=>?_);have aJ:cs=[.int .i64 x]:=aJ;subst aJ;cbv;refine OL op x x (fun d e hd=>?_);have af:=hk h d e (Le.refl _) (hd.trans hP.symm);clear hk hP hd;cbv;exact af
 ·subst c0;cbv;rw[(show A .aF .lss 2 0=false from by rw[bC A];rfl)];cbv;rw[(show A .aF .gtr 2 0=true from by rw[bH A];rfl)];cbv;rw[fa];by_cases a0:a<0
  ·have af:=jO (by omega);clear jO hk hP;rw[decide_eq_true a0];cbv;exact af
  rw[decide_eq_false a0];cbv;rw[ga];by_cases a1:a>=N
  ·have af:=jO (by omega);clear jO hk hP;rw[decide_eq_true a1];cbv;exact af
  rw[decide_eq_false a1];cbv;rw[(show A .aF .gtr 2 1=true from by rw[bH A];rfl)];have Aw:=lX a a0 a1;cbv;obtain⟨x,hx,Ap,yV⟩:=Aw;rw[fb];by_cases b0:b<0
  ·have af:=jO (by omega);clear jO hk hP;rw[decide_eq_true b0];cbv;exact af
  rw[decide_eq_false b0];cbv;rw[gb];by_cases b1:b>=N
  ·have af:=jO (by omega);clear jO hk hP;rw[decide_eq_true b1];cbv;exact af
  rw[decide_eq_false b1];have Pb:=lX b b0 b1;cbv;obtain⟨y,hy,OU,R3⟩:=Pb;rw[if_neg (by omega),if_neg (by omega),if_neg (by omega),if_neg (by omega),yJ hx Ap,yJ hy OU]at hP;clear jO;rw[f1,decide_eq_false (by omega:¬op=1)];cbv;rw[f2,decide_eq_false (by omega:¬op=2)];cbv;rw[(show A .aF .eql 2 1=false from by rw[aw A];rfl)];cbv;refine⟨yV,?_⟩;cbv;refine ql.load hx Ap (fun cs aJ=>?_);have aJ:cs=[.int .i64 x]:=aJ;subst aJ;cbv;refine⟨R3,?_⟩;cbv;refine ql.load hy OU (fun cs aJ=>?_);have aJ:cs=[.int .i64 y]:=aJ;subst aJ;cbv;refine OL op x y (fun d e hd=>?_);have af:=hk h d e (Le.refl _) (hd.trans hP.symm);clear hk hP hd;cbv;exact af
 ·subst c0;have af:=jO (.inl (by omega));clear jO hk hP;cbv;rw[(show A .aF .lss (-1) 0=true from by rw[bC A];rfl)];cbv;exact af
theorem Ii{α:Type}{e:Nat}{s:Sh α}{h:ad}{l:Nat}{A:Ar}[aX A]{bytes:Nat}{z:List Value}{k:Value->ad->Prop}(hz:z.length=s.n)(hl:l<=2^40)(hb:bytes<=128)
 (hk:∀nb h',h nb=none->Le h h'->dq e s h' nb l []->k (.slice (some ⟨nb,0,none⟩) 0 l) h'):
 po h e 0 (A .nat l) bytes z k:=by
 have yY:(2:Nat)^40=1099511627776:=rfl;have K1:(2:Int)^48=281474976710656:=rfl;rw[aX.nat (A:=A)];refine⟨by simp only[Int.ofNat_eq_natCast];omega,⟨by rw[K1];simp only[Int.ofNat_eq_natCast];omega,?_⟩,fun nb h' e1 e2=>?_⟩
 ·rw[K1];simp only[Int.ofNat_eq_natCast];have:bytes*l<=128*l:=Nat.mul_le_mul_right _ hb;have h2:((bytes*l:Nat):Int)<=((128*l:Nat):Int):=Int.ofNat_le.2 this;simp only[Int.natCast_mul]at h2;omega
 ·simp only[Int.ofNat_eq_natCast,Int.toNat_natCast]at e2 |-;refine hk nb h' e1 (by rw[e2];exact Le.set e1) ⟨⟨eL l z,by rw[e2,ae],uF,?_⟩,by simp,by simp⟩;rw[dg,hz]
theorem nO(cols:List bM)(n:Nd)(r:List Nd)(l:List Int):iT cols (n::r) l=match qP n l cols with
 | (k,e)=>if e≠0 then(l,e)else iT cols r (l++[k]):=rfl
theorem E0{l:List Int}{i:Nat}{x:Int}(h:l[i]? =some x)(hi:l.length=i+1):sW l=x:=by unfold sW;rw[List.getLast?_eq_getElem?,hi];simp only[Nat.add_sub_cancel];rw[h];rfl
theorem Kx{ex:List Nd}(hn:∀n∈ex,Nm n.name){cols:List bM}(hc:∀c∈cols,Nm c.name){h:ad}{eb:Option Addr}{en ec:Nat}(qe:Sl 325 cT h (.slice eb en ec) ex)
 {cb:Option Addr} {cn cc:Nat} (qc:Sl 165 aT h (.slice cb cn cc) cols) {k:Value->ad->Prop}
 (hk:∀h' a e,Le h h'->(a,e)=jB ex cols->k (.tuple #[.int .i64 a,.int .i64 e]) h'):
 Ct 245 [.slice eb en ec,.slice cb cn cc] h k:=by
 obtain⟨A,hA⟩:=Ar.ex;have MZ:=qe.len;have hP:jB ex cols=if ex.length<1\/ex.length>60 then(0,1)else match iT cols ex []with
  | (l,f)=>if f≠0 then(0,f)else(sW l,0):=rfl
 rw[<-MZ]at hP;have f1:A .aF .lss (A .nat en) 1=decide (en<1):=by rw[bC A,hA.nat,decide_eq_decide,Int.ofNat_eq_natCast];omega
 have f2:A .aF .gtr (A .nat en) 60=decide (en>60):=by rw[bH A,hA.nat,decide_eq_decide,Int.ofNat_eq_natCast];omega
 obtain⟨R,hR⟩:∃R,iT cols ex []=R:=⟨_,rfl⟩;rw[hR]at hP;generalize jB ex cols=D at *;obtain⟨I,bh⟩:∃I:Nat->Int×(Option Addr×Nat×Nat)->ad->Prop,∀m g h',I m g h'=∃i l,aP g.1 i/\i<=en/\m=en-i/\Le h h'/\cK 3 dD h h' (.slice g.2.1 g.2.2.1 g.2.2.2) l/\l.length=i/\iT cols (ex.drop i) l=R:=⟨_,fun _ _ _=>rfl⟩;refine ah A (aq YN.ax YN.bm) Tryz.func245 rfl (by kernel_rfl) ?_;cbv;rw[f1];by_cases c1:en<1
 ·have af:=hk h 0 1 (Le.refl _) (by rw[hP,if_pos (.inl c1)]);clear hk hP;rw[decide_eq_true c1];cbv;exact af
 rw[decide_eq_false c1];cbv;rw[f2];by_cases c2:en>60
 ·have af:=hk h 0 1 (Le.refl _) (by rw[hP,if_pos (.inr c2)]);clear hk hP;rw[decide_eq_true c2];cbv;exact af
 rw[decide_eq_false c2];rw[if_neg (by omega)]at hP;cbv;refine Ii (s:=dD) rfl (by omega) (by decide) (fun nb h0 eK hle ho=>?_);have hJ:I en (0,some ⟨nb,0,none⟩,0,en) h0:=by rw[bh];exact⟨0,[],⟨rfl⟩,Nat.zero_le _,rfl,hle,ho.buf eK rfl,rfl,hR⟩
 clear ho hR;cbv;refine aZ.go (G:=Int×(Option Addr×Nat×Nat)) (fun g=>[(24,.v (.int .i64 g.1)),(6,.v (.slice g.2.1 g.2.2.1 g.2.2.2))]) (fun _=>[]) (fun m g h'=>I m g h') en (0,some ⟨nb,0,none⟩,0,en) ⟨?_,?_,?_⟩ hJ ?_
 ·cbv
 ·cbv
 ·cbv
 ·intro m g h1 hI;rw[bh]at hI;cbv;obtain⟨i,l,hg,hi,hm,l1,ba,KT,he⟩:=hI;obtain⟨z,ab,an,ac⟩:=g;have hg:aP z i:=hg;have ba:cK 3 dD h h1 (.slice ab an ac) l:=ba;have KY:=ba.sl.len;have f3:A .aF .lss z (A .nat en)=decide (i<en):=hg.gE (aP.nat en);rw[f3];by_cases aI:i<en
  ·obtain⟨n,wq⟩:=aD (xs:=ex) (i:=i) (by omega);have hd:ex.drop i=n::ex.drop (i+1):=by obtain⟨h1,h2⟩:=List.getElem?_eq_some_iff.1 wq;rw[List.drop_eq_getElem_cons h1,h2]
   rw[hd,nO]at he;have cy:eb.isSome=true/\0<=z/\z<(en:Int):=⟨qe.bF (by omega),hg.ix aI⟩;have eX:=hg.eq;have dz:=hg.succ (A:=A) (by omega);have iD:en-(i+1)<m:=by omega
   have cU:∀a b3 m3 c3 h3,iT cols (ex.drop (i+1)) (l++[a])=R->cK 3 dD h h3 (.slice b3 m3 c3) (l++[a])->Le h h3->I (en-(i+1)) (A .bA .add .i64 z 1,b3,m3,c3) h3:=fun a b3 m3 c3 h3 e3 mX l3=>by
    rw[bh];exact⟨i+1,_,dz,aI,rfl,l3,mX,by rw[List.length_append,List.length_singleton,KT],e3⟩
   have yT:aP z l.length:=by rw[KT];exact hg
   have vg:=hn n (List.mem_of_getElem? wq);have wv:an+1<=2^39:=by omega
   clear bh hJ hd dz;rw[decide_eq_true aI];cbv;refine⟨cy,?_⟩;cbv;refine(qe.mono (l1.t _)).load wq eX (fun cs aJ=>?_);obtain⟨op,a,b,⟨vk,vn,vs⟩,name⟩:=n;have aJ:cs=[.int .i64 op,.int .i64 a,.int .i64 b,.int .i64 vk,.int .i64 vn,.string vs,.string name]:=aJ;subst aJ;cbv;refine VO (n:=⟨op,a,b,⟨vk,vn,vs⟩,name⟩) vg hc ba.sl (qc.mono (l1.t _)) yT (fun h2 y e l2 hy=>?_);have fe:A .aF .neq e 0=decide (e≠0):=ay A ..;rw[<-hy]at he;have he:(if e≠0 then(l,e)else iT cols (ex.drop (i+1)) (l++[y]))=R:=he;clear hy;by_cases h0:e=0
   ·rw[if_neg (fun g=>g h0)]at he;have cU:=fun b3 m3 c3 h3=>cU y b3 m3 c3 h3 he;clear hk hP he;cbv;rw[fe,decide_eq_false (fun g=>g h0)];cbv;intro n2 h3 g2 e2;have l3:Le h2 h3:=by rw[e2];exact Le.set g2
    have v2:Sl 3 dD h3 (.slice (some ⟨n2,0,none⟩) 1 1) [y]:=bp (s:=dD) ((congrFun e2 n2).trans ae) rfl;cbv;refine(ba.mono ((l2.trans l3).t _)).append v2 (by decide) rfl (by decide) wv (l1.trans (l2.trans l3)) (fun m3 b3 c3 h4 Uu l4 t3 k3 mX=>?_);have xL:=cU b3 m3 c3 h4 mX l4;clear cU t3 k3 mX;cbv;refine⟨en-(i+1),(_,_,_,_),iD,⟨?_,?_,?_⟩,xL⟩
    ·cbv
    ·cbv
    ·cbv
   ·rw[if_pos h0]at he;rw[<-he]at hP;have hP:D=if e≠0 then(0,e)else(sW l,0):=hP
    rw[if_pos h0]at hP;have af:=hk h2 0 e (l1.trans l2) hP.symm;clear hk hP he cU;cbv;rw[fe,decide_eq_true h0];cbv;exact af
  ·have iE:i=en:=by omega
   rw[List.drop_of_length_le (by omega)]at he;have he:(l,0)=R:=he;rw[<-he]at hP;have hP:D=(sW l,0):=hP;obtain⟨x,hx⟩:=aD (xs:=l) (i:=i-1) (by omega);rw[E0 hx (by omega)]at hP;have af:=hk h1 x 0 l1 hP.symm;have dr:=(aP.nat (A:=A) an).sub (A:=A) (⟨rfl⟩:aP 1 1) (by omega) (by omega);have eX:=dr.eq;have cy:ab.isSome=true/\0<=A .bA .sub .i64 (A .nat an) 1/\A .bA .sub .i64 (A .nat an) 1<(an:Int):=⟨ba.sl.bF (by omega),dr.ix (by omega)⟩;have hx:l[an-1]? =some x:=by rw[KY,KT];exact hx
   clear bh hJ hk hP he dr;rw[decide_eq_false aI];cbv;refine⟨cy,?_⟩;cbv;refine ba.sl.load hx eX (fun cs aJ=>?_);have aJ:cs=[.int .i64 x]:=aJ;subst aJ;cbv;exact af
theorem oC{l:List dc}{a:Int}{x:dc}{i:Nat}(h:l[i]? =some x)(ha:a=(i:Int)):pr l a=x:=by subst ha;unfold pr;rw[Int.toNat_natCast,h];rfl
theorem Vr{n:Nd}(hn:Nm n.name){l:List dc}{cols:List bM}(hc:∀c∈cols,Nm c.name){r:Row}{h:ad}{lb:Option Addr}{ln lc:Nat}(ql:Sl 61 aQ h (.slice lb ln lc) l)
 {cb:Option Addr} {cn cc:Nat} (qc:Sl 165 aT h (.slice cb cn cc) cols) {rb:Option Addr} {rn rc:Nat} (qr:Sl 61 aQ h (.slice rb rn rc) r)
 (hpa:bX n.op>=0) (ba:bX n.op>0->0<=n.a/\n.a<l.length) (bb:bX n.op>1->0<=n.b/\n.b<l.length) (bf:n.op=2->(dt n.name cols).2=0)
 (hl:∀v∈l,mR v.n=true) {R:Value->ad->Prop} {K:List PanicEntry->ad->Prop}
 (h1:∀h' w v,Le h h'->nG n l cols r=some w->v=w.v->R v h') (h2:∀h',Le h h'->nG n l cols r=none->K EO h'):
 PN 247 [n.vv,.slice lb ln lc,.slice cb cn cc,.slice rb rn rc] h R K:=by
 obtain⟨A,hA⟩:=Ar.ex;have xI:=ql.len;have hrn:=qr.len;have hP:nG n l cols r=if n.op=1 then some n.v
  else if n.op=2 then(match dt n.name cols with
   | (c,_)=>some (pr r c))
  else if bX n.op=1 then jS n.op (pr l n.a) (pr l n.a)else jS n.op (pr l n.a) (pr l n.b):=rfl
 obtain⟨op,a,b,v,name⟩:=n;have dn:=qz op;replace hn:Nm name:=hn;replace hpa:bX op>=0:=hpa;replace ba:bX op>0->0<=a/\a<l.length:=ba;replace bb:bX op>1->0<=b/\b<l.length:=bb;replace bf:op=2->(dt name cols).2=0:=bf;generalize nG ⟨op,a,b,v,name⟩ l cols r=D at *;replace hP:D=if op=1 then some v
  else if op=2 then(match dt name cols with
   | (c,_)=>some (pr r c))
  else if bX op=1 then jS op (pr l a) (pr l a)else jS op (pr l a) (pr l b):=hP
 have f1:A .aF .eql op 1=decide (op=1):=aw A ..;have f2:A .aF .eql op 2=decide (op=2):=aw A ..;have lX:∀a:Int,0<=a/\a<l.length->∃x,l[a.toNat]? =some x/\a=(a.toNat:Int)/\mR x.n=true/\(lb.isSome=true/\0<=a/\a<(ln:Int)):=fun a h0=>by
  obtain⟨x,hx⟩:=aD (xs:=l) (i:=a.toNat) (by omega);exact⟨x,hx,by omega,hl x (List.mem_of_getElem? hx),ql.bF (by omega),by omega,by omega⟩
 obtain⟨vk,vn,vs⟩:=v;refine gR A (ly YM.ax YM.bm yx [] (fun c _ h=>K c h)) Tryz.func247 rfl (by kernel_rfl) (fun _ _ _ q=>q) ?_;rcases dn with ⟨c0,c1⟩ | ⟨c0,c1⟩ | ⟨c0,c1⟩ | ⟨c0,c1⟩
 ·by_cases d1:op=1
  ·rw[if_pos d1]at hP;have af:=h1 h ⟨vk,vn,vs⟩ _ (Le.refl _) hP rfl;clear h1 h2 hP lX;cbv;rw[f1,decide_eq_true d1];cbv;exact af
  ·have d2:op=2:=by omega
   rw[if_neg d1,if_pos d2]at hP;have bf:=bf d2;clear h2 lX ba bb;cbv;rw[f1,decide_eq_false d1];cbv;rw[f2,decide_eq_true d2];cbv;refine Py hn hc qc (fun h3 y e l3 hy hb=>?_);rw[hy]at hP bf;have hP:D=some (pr r y):=hP;have bf:e=0:=bf;have hb:=hb bf;have fy:A .aF .geq y (A .nat rn)=decide (y>=(rn:Int)):=by rw[bO A,hA.nat];rfl
   by_cases Bn:y>=(rn:Int)
   ·have e0:pr r y=v0:=by unfold pr;rw[List.getElem?_eq_none (by omega)];rfl
    rw[e0]at hP;have af:=h1 h3 v0 _ l3 hP rfl;clear h1 hP;rw[decide_eq_true Bn]at fy;cbv;rw[fy];cbv;exact af
   ·obtain⟨x,hx⟩:=aD (xs:=r) (i:=y.toNat) (by omega);have OS:y=(y.toNat:Int):=by omega
    rw[oC hx OS]at hP;have cy:rb.isSome=true/\0<=y/\y<(rn:Int):=⟨qr.bF (by omega),by omega,by omega⟩;have af:=h1 h3 x _ l3 hP rfl;clear h1 hP;rw[decide_eq_false Bn]at fy;cbv;rw[fy];cbv;refine⟨cy,?_⟩;cbv;refine(qr.mono (l3.t _)).load hx OS (fun cs aJ=>?_);obtain⟨xk,xn,xs⟩:=x;have aJ:cs=[.int .i64 xk,.int .i64 xn,.string xs]:=aJ;subst aJ;cbv;exact af
 ·skip;rw[if_neg (by omega),if_neg (by omega),if_pos c0]at hP;obtain⟨x,hx,Ap,IU,yV⟩:=lX a (ba (by omega));rw[oC hx Ap]at hP;have r1:∀h' w v,Le h h'->jS op x x=some w->v=w.v->R v h':=fun h' w v l e hv=>h1 h' w v l (hP.trans e) hv;have r2:∀h',Le h h'->jS op x x=none->K EO h':=fun h' l e=>h2 h' l (hP.trans e);clear h1 h2 hP lX;cbv;rw[f1,decide_eq_false (by omega:¬op=1)];cbv;rw[f2,decide_eq_false (by omega:¬op=2)];cbv;refine BY op (fun p hp=>?_);rw[c0]at hp;subst hp;cbv;rw[(show A .aF .eql 1 1=true from by rw[aw A];rfl)];cbv;refine⟨yV,?_⟩;cbv;refine ql.load hx Ap (fun cs aJ=>?_);obtain⟨xk,xn,xs⟩:=x;have aJ:cs=[.int .i64 xk,.int .i64 xn,.string xs]:=aJ;subst aJ;cbv;refine⟨yV,?_⟩;cbv;refine ql.load hx Ap (fun cs aJ=>?_);have aJ:cs=[.int .i64 xk,.int .i64 xn,.string xs]:=aJ;subst aJ;cbv;refine OH op ⟨xk,xn,xs⟩ ⟨xk,xn,xs⟩ IU IU (fun h3 w v l3 hw hv=>?_) (fun h3 l3 hw=>?_)
  ·have af:=r1 h3 w v l3 hw hv;obtain⟨wk,wn,ws⟩:=w;subst hv;clear r1 r2;cbv;exact af
  ·have af:=r2 h3 l3 hw;clear r1 r2;cbv;exact af
 ·skip;rw[if_neg (by omega),if_neg (by omega),if_neg (by omega)]at hP;obtain⟨x,hx,Ap,IU,yV⟩:=lX a (ba (by omega));rw[oC hx Ap]at hP;obtain⟨y,hy,OU,hyi,R3⟩:=lX b (bb (by omega));rw[oC hy OU]at hP;have r1:∀h' w v,Le h h'->jS op x y=some w->v=w.v->R v h':=fun h' w v l e hv=>h1 h' w v l (hP.trans e) hv;have r2:∀h',Le h h'->jS op x y=none->K EO h':=fun h' l e=>h2 h' l (hP.trans e);clear h1 h2 hP lX;cbv;rw[f1,decide_eq_false (by omega:¬op=1)];cbv;rw[f2,decide_eq_false (by omega:¬op=2)];cbv;refine BY op (fun p hp=>?_);rw[c0]at hp;subst hp;cbv;rw[(show A .aF .eql 2 1=false from by rw[aw A];rfl)];cbv;refine⟨yV,?_⟩;cbv;refine ql.load hx Ap (fun cs aJ=>?_);obtain⟨xk,xn,xs⟩:=x;have aJ:cs=[.int .i64 xk,.int .i64 xn,.string xs]:=aJ;subst aJ;cbv;refine⟨R3,?_⟩;cbv;refine ql.load hy OU (fun cs aJ=>?_);obtain⟨yk,yn,ys⟩:=y;have aJ:cs=[.int .i64 yk,.int .i64 yn,.string ys]:=aJ;subst aJ;cbv;refine OH op ⟨xk,xn,xs⟩ ⟨yk,yn,ys⟩ IU hyi (fun h3 w v l3 hw hv=>?_) (fun h3 l3 hw=>?_)
  ·have af:=r1 h3 w v l3 hw hv;obtain⟨wk,wn,ws⟩:=w;subst hv;clear r1 r2;cbv;exact af
  ·have af:=r2 h3 l3 hw;clear r1 r2;cbv;exact af
 ·omega
section
variable {F:Fence}{n:Nat}{P:Program}{ops:Array Oper}{Q:Exit->Act->List Frame->World->Prop}{a:Act}{cs cs':List Frame}{w:World}{i:Nat}{rest:List Nat}{o:Oper}
theorem HY(hi:ops[i]? =some o)(GB:∀f,o.about P w a.eval=some f->F.fn f)(hw:Region.wanted o (yielded ops a.tmps)=true)(hr:(execOp a.eval o).run P w=.ok .recover w)(hc:recoverD cs=none)
 (h:wpOpsSIn F n P ops Q rest (a.put o.dst .nilIface) cs w):wpOpsSIn F n P ops Q (i::rest) a cs w:=by
 simp only[wpOpsSIn,hi,hw,hr,hc,if_true];exact⟨GB,h⟩
theorem HX{v:Value}(hi:ops[i]? =some o)(GB:∀f,o.about P w a.eval=some f->F.fn f)(hw:Region.wanted o (yielded ops a.tmps)=true)(hr:(execOp a.eval o).run P w=.ok .recover w)(hc:recoverD cs=some (v,cs'))
 (h:wpOpsSIn F n P ops Q rest (a.put o.dst v) cs' w):wpOpsSIn F n P ops Q (i::rest) a cs w:=by
 simp only[wpOpsSIn,hi,hw,hr,hc,if_true];exact⟨GB,h⟩
theorem gj{v:Value}(hi:ops[i]? =some o)(GB:∀f,o.about P w a.eval=some f->F.fn f)(hw:Region.wanted o (yielded ops a.tmps)=true)(hr:(execOp a.eval o).run P w=.ok (.value v) w)
 (h:wpOpsSIn F n P ops Q rest (a.put o.dst v) cs w):wpOpsSIn F n P ops Q (i::rest) a cs w:=by
 simp only[wpOpsSIn,hi,hw,hr,if_true];exact⟨GB,h⟩
end
theorem Dm(A:Ar)[aX A]{P:Program}{T:aS}(hT:dE P T){fn:Func}{rest:Code}(ho:da T rest=true){β:Nat->Nat}{env:Env}{h:ad}{a:Act}{w:World}{n:Nat}{c₀:Frame}{u':FrameMode}{cs:List Frame}{R:Value->ad->Prop}
 (hs:bZ [] h w β env [] h a w) (re:∀c s h,¬T.kp c s h)
 (hx:sx A T (fun _=>P) rest (fun e env L h'=>match e with
  | .exit _=>False
  |_=>lQ T env L h' fn.results.toList (fun l=>jr l (fun v=>R v h'))) env [] h):
 rest.wpSIn Fence.wide n P (bodyPostS P fn c₀ cs fun e u w'=>u=u'/\∃v h',e=.returned v/\R v h'/\aY h w h' w') a ({ c₀ with mode:=u' }::cs) w:=by
 refine wpSIn_of_wpIn rfl ?_;refine fC (A:=A) (ro:=none) hT rest ho hs hx (jY.none re) fun e bR L' h' lH a' w' h1 h2=>?_;have fin:lQ T bR L' h' fn.results.toList (fun l=>jr l (fun v=>R v h'))->a'.defers=[]/\∃u,{ c₀ with mode:=u' }::cs={ c₀ with mode:=u }::cs/\∃v,(results fn a'.tmps).run P w'=.ok v w'/\(u=u'/\∃v1 h1,Ending.returned v=.returned v1/\R v1 h1/\aY h w h1 w'):=fun hr=>by
  obtain⟨v,h3,h4,h5⟩:=oG hT h2 hr;exact⟨h2.defers,u',rfl,v,h3,rfl,v,h',rfl,h4,h5⟩
 cases e with
 |normal=>exact fin h1
 |ret=>exact fin h1
 |exit id=>exact h1.elim
theorem Lx(va ea:Value)(h:ad):CtD 246 [va,ea] h (fun _ h'=>h'=h):=by
 refine⟨fun w hw n=>?_⟩;refine callsDIn_of_wpSIn (show Tryz.prog.funcs[246]? =some Tryz.f246 from Tryz.func246) rfl trivial fun c₀ cs hm=>?_;refine wpSIn_seq ?_;refine wpSIn_region ?_;have qV:recoverD (c₀::cs)=none:=by simp only[recoverD,hm]
 show wpOpsSIn _ _ _ _ _ [0,1,2,3,4,5,6] _ _ _;refine HY rfl (fun _ _=>trivial) rfl rfl qV ?_;refine gj (v:=.tuple #[.int .i64 0,.bool false]) rfl (fun _ _=>trivial) rfl (by kernel_rfl) ?_;refine gj (v:=.tuple #[.int .i64 0,.bool false]) rfl (fun _ _=>trivial) rfl (by kernel_rfl) ?_;refine gj (v:=.int .i64 0) rfl (fun _ _=>trivial) rfl (by kernel_rfl) ?_;refine gj (v:=.bool false) rfl (fun _ _=>trivial) rfl (by kernel_rfl) ?_;refine gj (v:=.int .i64 0) rfl (fun _ _=>trivial) rfl (by kernel_rfl) ?_;refine gj (v:=.bool false) rfl (fun _ _=>trivial) rfl (by kernel_rfl) ?_;obtain⟨A,hA⟩:=Ar.ex;have s0:=gD (f:=246) (fn:=Tryz.f246) (args:=[va,ea]) hw;have s1:=s0.put (d:=some 5) (x:=.v .nilIface) (v:=.nilIface) rfl;have s2:=s1.put (d:=some 6) (x:=.v (.tuple #[.int .i64 0,.bool false])) (v:=.tuple #[.int .i64 0,.bool false]) rfl;have s3:=s2.put (d:=some 4) (x:=.v (.tuple #[.int .i64 0,.bool false])) (v:=.tuple #[.int .i64 0,.bool false]) rfl;have s4:=s3.put (d:=some 7) (x:=.v (.int .i64 0)) (v:=.int .i64 0) rfl;have s5:=s4.put (d:=some 8) (x:=.v (.bool false)) (v:=.bool false) rfl;have s6:=s5.put (d:=some 2) (x:=.v (.int .i64 0)) (v:=.int .i64 0) rfl;have s7:=s6.put (d:=some 3) (x:=.v (.bool false)) (v:=.bool false) rfl;have hc0:c₀={ c₀ with mode:=.returning }:=by rw[<-hm]
 have key:=Dm (n:=n) (c₀:=c₀) (cs:=cs) (u':=.returning) (fn:=Tryz.f246) (R:=fun _ h'=>h'=h) A (aq Oi.ax Oi.bm) (rest:=?_) ?_ s7 (fun _ _ _ q=>q) ?_
 ·rw[<-hc0]at key;exact key
 ·kernel_rfl
 ·cbv
theorem Lw{vb eb:Nat}{h:ad}{c1 c2 c3 c4:Value}(g1:h vb=some (.cells #[c1,c2,c3] 61 (0,0)))(g2:h eb=some (.cells #[c4] 35 (0,0)))(bG:vb≠eb){R:ad->Prop}
 (hR:R (bl (bl h vb (.cells #[.int .i64 0,.int .i64 0,.string ⟨#[]⟩] 61 (0,0))) eb (.cells #[.int .i64 11] 35 (0,0)))):
 FnRX (fun _=>Tryz.prog) 246 [.pointer (some ⟨vb,0,none⟩),.pointer (some ⟨eb,0,none⟩)] (.iface 35 (.int .i64 11)) h R:=by
 refine⟨fun w hw n=>?_⟩;refine callsDIn_of_wpSIn (show Tryz.prog.funcs[246]? =some Tryz.f246 from Tryz.func246) rfl trivial fun c₀ cs hm=>?_;refine wpSIn_seq ?_;refine wpSIn_region ?_;have qV:recoverD (c₀::cs)=some (.iface 35 (.int .i64 11),{ c₀ with mode:=.panicking [{ v:=.iface 35 (.int .i64 11),recovered:=true }] }::cs):=by simp only[recoverD,hm]
 show wpOpsSIn _ _ _ _ _ [0,1,2,3,4,5,6] _ _ _;refine HX rfl (fun _ _=>trivial) rfl rfl qV ?_;refine gj (v:=.tuple #[.int .i64 11,.bool true]) rfl (fun _ _=>trivial) rfl (by kernel_rfl) ?_;refine gj (v:=.tuple #[.int .i64 11,.bool true]) rfl (fun _ _=>trivial) rfl (by kernel_rfl) ?_;refine gj (v:=.int .i64 11) rfl (fun _ _=>trivial) rfl (by kernel_rfl) ?_;refine gj (v:=.bool true) rfl (fun _ _=>trivial) rfl (by kernel_rfl) ?_;refine gj (v:=.int .i64 11) rfl (fun _ _=>trivial) rfl (by kernel_rfl) ?_;refine gj (v:=.bool true) rfl (fun _ _=>trivial) rfl (by kernel_rfl) ?_;obtain⟨A,hA⟩:=Ar.ex;have s0:=gD (f:=246) (fn:=Tryz.f246) (args:=[.pointer (some ⟨vb,0,none⟩),.pointer (some ⟨eb,0,none⟩)]) hw;have s1:=s0.put (d:=some 5) (x:=.v (.iface 35 (.int .i64 11))) (v:=.iface 35 (.int .i64 11)) rfl;have s2:=s1.put (d:=some 6) (x:=.v (.tuple #[.int .i64 11,.bool true])) (v:=.tuple #[.int .i64 11,.bool true]) rfl;have s3:=s2.put (d:=some 4) (x:=.v (.tuple #[.int .i64 11,.bool true])) (v:=.tuple #[.int .i64 11,.bool true]) rfl;have s4:=s3.put (d:=some 7) (x:=.v (.int .i64 11)) (v:=.int .i64 11) rfl;have s5:=s4.put (d:=some 8) (x:=.v (.bool true)) (v:=.bool true) rfl;have s6:=s5.put (d:=some 2) (x:=.v (.int .i64 11)) (v:=.int .i64 11) rfl;have s7:=s6.put (d:=some 3) (x:=.v (.bool true)) (v:=.bool true) rfl;have key:=Dm (n:=n) (c₀:=c₀) (cs:=cs) (u':=.panicking [{ v:=.iface 35 (.int .i64 11),recovered:=true }]) (fn:=Tryz.f246) (R:=fun _ h'=>R h') A (aq Oi.ax Oi.bm) (rest:=?_) ?_ s7 (fun _ _ _ q=>q) ?_
 ·exact key
 ·kernel_rfl
 ·cbv;refine eH g1 (by simp) (fun h1 e1=>?_);have iF:h1 eb=some (.cells #[c4] 35 (0,0)):=by rw[e1,av (Ne.symm bG)];exact g2
  have hR:R (bl h1 eb (.cells #[.int .i64 11] 35 (0,0))):=by rw[e1];exact hR
  clear g1 g2 e1;cbv;refine eH iF (by simp) (fun h2 e2=>?_);subst e2;cbv;exact hR
def Ty(cols:List bM)(n:Nd)(i:Nat):Prop:=bX n.op>=0/\(bX n.op>0->0<=n.a/\n.a<i)/\(bX n.op>1->0<=n.b/\n.b<i)/\(n.op=2->(dt n.name cols).2=0)
theorem Iy{n:Nd}{l:List Int}{cols:List bM}{k:Int}(h:qP n l cols=(k,0)):Ty cols n l.length:=by
 unfold qP at h;by_cases c:bX n.op<0\/(bX n.op>0/\(n.a<0\/n.a>=l.length))\/(bX n.op>1/\(n.b<0\/n.b>=l.length))
 ·rw[if_pos c]at h;cases h
 ·rw[if_neg c]at h;refine⟨by omega,fun g=>by omega,fun g=>by omega,fun g=>?_⟩;rw[if_neg (by omega),if_pos g]at h;generalize dt n.name cols=r at *;obtain⟨c,e⟩:=r;have h:(if e≠0 then(0,e)else(match cols[c.toNat]? with
   |some c=>(c.kind,0)
   |none=>(0,0)))=(k,0):=h
  by_cases he:e=0
  ·exact he
  ·rw[if_pos he]at h;cases h;exact rfl
theorem xG{cols:List bM}:∀ {ex:List Nd} {l m:List Int},iT cols ex l=(m,0)->∀i n,ex[i]? =some n->Ty cols n (l.length+i)
 | [],_,_,_,i,n,hn=>by simp at hn
 |x::r,l,m,h,i,n,hn=>by
  rw[nO]at h;cases hk:qP x l cols with
  |mk k e=>
   rw[hk]at h;have h:(if e≠0 then(l,e)else iT cols r (l++[k]))=(m,0):=h;by_cases he:e=0
   ·subst he;rw[if_neg (fun g=>g rfl)]at h;cases i with
    |zero=>simp at hn;subst hn;exact Iy hk
    |succ i=>have:=xG h i n (by simpa using hn);rw[List.length_append,List.length_singleton]at this;rw[show l.length+(i+1)=l.length+1+i by omega];exact this
   ·rw[if_pos he]at h;cases h;exact absurd rfl he
theorem Kw{ex:List Nd}{cols:List bM}{k:Int}(h:jB ex cols=(k,0)):ex.length>=1/\ex.length<=60/\∀i n,ex[i]? =some n->Ty cols n i:=by
 unfold jB at h;by_cases c:ex.length<1\/ex.length>60
 ·rw[if_pos c]at h;cases h
 ·rw[if_neg c]at h;refine⟨by omega,by omega,?_⟩;cases hk:iT cols ex []with
  |mk l f=>
   rw[hk]at h;have h:(if f≠0 then((0:Int),f)else(sW l,0))=(k,0):=h;by_cases hf:f=0
   ·subst hf;intro i n hn;have:=xG hk i n hn;simpa using this
   ·rw[if_pos hf]at h;cases h;exact absurd rfl hf
theorem nF(cols:List bM)(r:Row)(n:Nd)(e:List Nd)(l:List dc):gZ cols r (n::e) l=match nG n l cols r with
 |some v=>gZ cols r e (l++[v])
 |none=>none:=rfl
theorem EZ{l:List dc}{i:Nat}{x:dc}(h:l[i]? =some x)(hi:l.length=i+1):pc l=x:=by unfold pc;rw[List.getLast?_eq_getElem?,hi];simp only[Nat.add_sub_cancel];rw[h];rfl
def kO(v:dc):Prop:=mR v.n=true
theorem xd(b:Bool):kO (bI b):=by cases b<;>(show mR _=true;decide)
theorem ui:kO v0:=by show mR _=true;decide
theorem Mg{x:Int}{w:dc}(h:qF x=some w):kO w:=by
 unfold qF at h;split at h
 ·rename_i g;cases h;exact g
 ·cases h
theorem HR{op:Int}{a b w:dc}(ha:kO a)(hb:kO b)(h:jS op a b=some w):kO w:=by
 unfold jS at h;repeat' (split at h)
 all_goals first
  | (cases h;exact xd _)
  | (cases h;exact ui)
  | (cases h
     unfold mB;repeat' split
     all_goals first
      |exact ha
      |exact hb
      |exact xd _
      |exact ui)
  | (unfold dL at h
     repeat' (split at h)
     all_goals exact Mg h)
theorem BC{l:List dc}(hl:∀v∈l,kO v)(a:Int):kO (pr l a):=by
 unfold pr;cases h:l[a.toNat]? with
 |none=>exact ui
 |some x=>exact hl x (List.mem_of_getElem? h)
theorem z0{n:Nd}{l:List dc}{cols:List bM}{r:Row}{w:dc}(hn:kO n.v)(hl:∀v∈l,kO v)(hr:∀v∈r,kO v)(h:nG n l cols r=some w):kO w:=by
 unfold nG at h;split at h
 ·cases h;exact hn
 ·split at h
  ·cases h;exact BC hr _
  ·split at h<;>exact HR (BC hl _) (BC hl _) h
theorem BB{ex:List Nd}(hn:∀n∈ex,Nm n.name/\kO n.v){cols:List bM}(hc:∀c∈cols,Nm c.name){r:Row}(hr:∀v∈r,kO v){h:ad}{eb:Option Addr}{en ec:Nat}(qe:Sl 325 cT h (.slice eb en ec) ex)
 {cb:Option Addr} {cn cc:Nat} (qc:Sl 165 aT h (.slice cb cn cc) cols) {rb:Option Addr} {rn rc:Nat} (qr:Sl 61 aQ h (.slice rb rn rc) r) {k:Value->ad->Prop}
 (hk:∀h' v e w,Le h h'->(v,e)=fW ex cols r->w=v.v->k (.tuple #[w,.int .i64 e]) h'):
 Ct 163 [.slice eb en ec,.slice cb cn cc,.slice rb rn rc] h k:=by
 obtain⟨A,hA⟩:=Ar.ex;have MZ:=qe.len;have hP:fW ex cols r=match jB ex cols with
  | (_,f)=>if f≠0 then(v0,f)else match gZ cols r ex []with
   |some l=>(pc l,0)
   |none=>(v0,11):=rfl
 generalize fW ex cols r=D at *;refine Fv A (ly ZE.ax ZE.bm yx [] (fun _ _ _=>False)) Tryz.func163 rfl (fun _ _=>by kernel_rfl) (by kernel_rfl) ?_;cbv;intro vb h1 gv e1;have g1:h1 vb=some (.cells #[.int .i64 0,.int .i64 0,.string ⟨#[]⟩] 61 (0,0)):=by rw[e1];exact ae
 have l1:Le h h1:=by rw[e1];exact Le.set gv
 cbv;intro CR h2 ge e2;have bG:vb≠CR:=fun e=>by rw[<-e,g1]at ge;cases ge
 have l2:Le h1 h2:=by rw[e2];exact Le.set ge
 have g2:h2 vb=some (.cells #[.int .i64 0,.int .i64 0,.string ⟨#[]⟩] 61 (0,0)):=l2 _ _ g1;have g3:h2 CR=some (.cells #[.int .i64 0] 35 (0,0)):=by rw[e2];exact ae
 have iI:=l1.trans l2;have Ss:h CR=none:=by
  cases hh:h CR with
  |none=>rfl
  |some o=>rw[l1 _ _ hh]at ge;cases ge
 have vq:∀h' (v:dc) (e:Int),Le h2 h'->(v,e)=D->∀h5,h5=bl (bl h' vb (.cells #[.int .i64 v.k,.int .i64 v.n,.string v.s] 61 (0,0))) CR (.cells #[.int .i64 e] 35 (0,0))->
  Le h h5:=fun h' v e l _ h5 e5 b o hb=>by
  rw[e5,av (fun e=>by rw[e,Ss]at hb;cases hb),av (fun e=>by rw[e,gv]at hb;cases hb)];exact l _ _ (iI _ _ hb)
 clear e1 e2 l1 l2 g1 ge;cbv;refine Kx (fun n hh=>(hn n hh).1) hc (qe.mono (iI.t _)) (qc.mono (iI.t _)) (fun h3 kd e l3 eN=>?_);have fe:A .aF .neq e 0=decide (e≠0):=ay A ..;rw[<-eN]at hP;replace hP:D=if e≠0 then(v0,e)else match gZ cols r ex []with
  |some l=>(pc l,0)
  |none=>(v0,11):=hP
 by_cases h0:e≠0
 ·rw[if_pos h0]at hP;have iF:=l3 _ _ g2;have K5:=l3 _ _ g3;have hL:=vq h3 v0 e l3 hP.symm;have hk:=fun h' l=>hk h' v0 e _ l hP.symm rfl;clear hP eN vq g2 g3;cbv;rw[fe,decide_eq_true h0];cbv;refine eH iF (by simp) (fun h4 e4=>?_);have g4:h4 CR=some (.cells #[.int .i64 0] 35 (0,0)):=by rw[e4,av (Ne.symm bG)];exact K5
  cbv;refine eH g4 (by simp) (fun h5 e5=>?_);have af:=hk h5 (hL h5 (by rw[e5,e4];rfl));have g5:h5 vb=some (.cells #[.int .i64 0,.int .i64 0,.string ⟨#[]⟩] 61 (0,0)):=by rw[e5,av bG,e4];exact ae
  have g6:h5 CR=some (.cells #[.int .i64 e] 35 (0,0)):=by rw[e5];exact ae
  clear hk hL e4 e5 g4 iF K5;cbv;refine ar g5 rfl rfl ?_;cbv;refine ar g6 rfl rfl ?_;cbv;exact af
 rw[if_neg h0]at hP;have e0:e=0:=Decidable.not_not.1 h0;subst e0;obtain⟨MK,IW,MT⟩:=Kw eN.symm;clear eN;obtain⟨R,hR⟩:∃R,gZ cols r ex []=R:=⟨_,rfl⟩;rw[hR]at hP;obtain⟨I,bh⟩:∃I:Nat->Int×(Option Addr×Nat×Nat)->ad->Prop,∀m g h',I m g h'=∃i l,aP g.1 i/\i<=en/\m=en-i/\Le h3 h'/\cK 61 aQ h3 h' (.slice g.2.1 g.2.2.1 g.2.2.2) l/\l.length=i/\(∀v∈l,kO v)/\gZ cols r (ex.drop i) l=R:=⟨_,fun _ _ _=>rfl⟩;have hJ:I en (0,none,0,0) h3:=by rw[bh];exact⟨0,[],⟨rfl⟩,Nat.zero_le _,rfl,Le.refl _,cK.nil,rfl,(fun _ hh=>by cases hh),hR⟩
 clear hR;cbv;rw[fe,decide_eq_false h0];cbv;refine aZ.go (G:=Int×(Option Addr×Nat×Nat)) (fun g=>[(26,.v (.int .i64 g.1)),(10,.v (.slice g.2.1 g.2.2.1 g.2.2.2))]) (fun _=>[]) (fun m g h'=>I m g h') en (0,none,0,0) ⟨?_,?_,?_⟩ hJ ?_
 ·cbv
 ·cbv
 ·cbv
 ·intro m g h4 hI;rw[bh]at hI;cbv;obtain⟨i,l,hg,hi,hm,l4,ba,KT,ra,he⟩:=hI;obtain⟨z,ab,an,ac⟩:=g;have hg:aP z i:=hg;have ba:cK 61 aQ h3 h4 (.slice ab an ac) l:=ba;have KY:=ba.sl.len;have f3:A .aF .lss z (A .nat en)=decide (i<en):=hg.gE (aP.nat en);have mf:=iI.trans (l3.trans l4);have sX:=l3.trans l4;rw[f3];by_cases aI:i<en
  ·obtain⟨n,wq⟩:=aD (xs:=ex) (i:=i) (by omega);have hd:ex.drop i=n::ex.drop (i+1):=by obtain⟨h1,h2⟩:=List.getElem?_eq_some_iff.1 wq;rw[List.drop_eq_getElem_cons h1,h2]
   rw[hd,nF]at he;have cy:eb.isSome=true/\0<=z/\z<(en:Int):=⟨qe.bF (by omega),hg.ix aI⟩;have eX:=hg.eq;have dz:=hg.succ (A:=A) (by omega);have iD:en-(i+1)<m:=by omega
   have cU:∀a b3 m3 c3 Sm,kO a->gZ cols r (ex.drop (i+1)) (l++[a])=R->cK 61 aQ h3 Sm (.slice b3 m3 c3) (l++[a])->Le h3 Sm->I (en-(i+1)) (A .bA .add .i64 z 1,b3,m3,c3) Sm:=fun a b3 m3 c3 Sm ia e3 mX l3'=>by
    rw[bh];exact⟨i+1,_,dz,aI,rfl,l3',mX,by rw[List.length_append,List.length_singleton,KT],(by
     intro v hv;rcases List.mem_append.1 hv with hv|hv
     ·exact ra v hv
     ·rcases List.mem_cons.1 hv with hv|hv
      ·rw[hv];exact ia
      ·cases hv),e3⟩
   have vg:=hn n (List.mem_of_getElem? wq);have jD:=MT i n wq;rw[<-KT]at jD;have wv:an+1<=2^39:=by omega
   have KR:R=none->(v0,11)=D:=fun e=>by rw[hP,e]
   clear bh hJ hd dz hP;rw[decide_eq_true aI];cbv;refine⟨cy,?_⟩;cbv;refine(qe.mono (mf.t _)).load wq eX (fun cs aJ=>?_);obtain⟨op,a,b,⟨vk,vn,vs⟩,name⟩:=n;have aJ:cs=[.int .i64 op,.int .i64 a,.int .i64 b,.int .i64 vk,.int .i64 vn,.string vs,.string name]:=aJ;subst aJ;cbv;refine Vr (n:=⟨op,a,b,⟨vk,vn,vs⟩,name⟩) vg.1 hc ba.sl (qc.mono (mf.t _)) (qr.mono (mf.t _)) jD.1 jD.2.1 jD.2.2.1 jD.2.2.2 ra (fun h5 w v l5 hw hv=>?_) (fun h5 l5 hw=>?_)
   ·have iw:=z0 (n:=⟨op,a,b,⟨vk,vn,vs⟩,name⟩) vg.2 ra hr hw;rw[hw]at he;have he:gZ cols r (ex.drop (i+1)) (l++[w])=R:=he;have cU:=fun b3 m3 c3 h3=>cU w b3 m3 c3 h3 iw he;obtain⟨wk,wn,ws⟩:=w;subst hv;clear hk he vq KR;cbv;intro n2 h6 g6 e6;have l6:Le h5 h6:=by rw[e6];exact Le.set g6
    have v2:Sl 61 aQ h6 (.slice (some ⟨n2,0,none⟩) 1 1) [⟨wk,wn,ws⟩]:=bp (s:=aQ) ((congrFun e6 n2).trans ae) rfl;cbv;refine(ba.mono ((l5.trans l6).t _)).append v2 (by decide) rfl (by decide) wv (l4.trans (l5.trans l6)) (fun m3 b3 c3 h7 Uu l7 t3 k3 mX=>?_);have xL:=cU b3 m3 c3 h7 mX l7;clear cU t3 k3 mX;cbv;refine⟨en-(i+1),(_,_,_,_),iD,⟨?_,?_,?_⟩,xL⟩
    ·cbv
    ·cbv
    ·cbv
   ·rw[hw]at he;have hD:=KR he.symm;have Is:=sX.trans l5;have hL:=vq h5 v0 11 Is hD;have hk:=fun h' l=>hk h' v0 11 _ l hD rfl;have iF:=Is _ _ g2;have K5:=Is _ _ g3;clear cU KR vq he MT;refine⟨_,rfl,Lw iF K5 bG ?_⟩;obtain⟨h6,e6⟩:∃h6,h6=bl (bl h5 vb (.cells #[.int .i64 0,.int .i64 0,.string ⟨#[]⟩] 61 (0,0))) CR (.cells #[.int .i64 11] 35 (0,0)):=⟨_,rfl⟩;have af:=hk h6 (hL h6 e6);have g5:h6 vb=some (.cells #[.int .i64 0,.int .i64 0,.string ⟨#[]⟩] 61 (0,0)):=by rw[e6,av bG];exact ae
    have g6:h6 CR=some (.cells #[.int .i64 11] 35 (0,0)):=by rw[e6];exact ae
    rw[<-e6];clear hk hL e6 iF K5;cbv;refine ar g5 rfl rfl ?_;cbv;refine ar g6 rfl rfl ?_;cbv;exact af
  ·have iE:i=en:=by omega
   rw[List.drop_of_length_le (by omega)]at he;have he:some l=R:=he;rw[<-he]at hP;have hP:D=(pc l,0):=hP;obtain⟨x,hx⟩:=aD (xs:=l) (i:=i-1) (by omega);rw[EZ hx (by omega)]at hP;have hL:=vq h4 x 0 sX hP.symm;have hk:=fun h' l=>hk h' x 0 _ l hP.symm rfl;have dr:=(aP.nat (A:=A) an).sub (A:=A) (⟨rfl⟩:aP 1 1) (by omega) (by omega);have eX:=dr.eq;have cy:ab.isSome=true/\0<=A .bA .sub .i64 (A .nat an) 1/\A .bA .sub .i64 (A .nat an) 1<(an:Int):=⟨ba.sl.bF (by omega),dr.ix (by omega)⟩;have hx:l[an-1]? =some x:=by rw[KY,KT];exact hx
   have iF:=sX _ _ g2;have K5:=sX _ _ g3;clear bh hJ hP he dr vq MT;rw[decide_eq_false aI];cbv;refine⟨cy,?_⟩;cbv;refine ba.sl.load hx eX (fun cs aJ=>?_);obtain⟨xk,xn,xs⟩:=x;have aJ:cs=[.int .i64 xk,.int .i64 xn,.string xs]:=aJ;subst aJ;cbv;refine eH iF (by simp) (fun h5 e5=>?_);have g4:h5 CR=some (.cells #[.int .i64 0] 35 (0,0)):=by rw[e5,av (Ne.symm bG)];exact K5
   cbv;refine eH g4 (by simp) (fun h6 e6=>?_);have af:=hk h6 (hL h6 (by rw[e6,e5];rfl));have g5:h6 vb=some (.cells #[.int .i64 xk,.int .i64 xn,.string xs] 61 (0,0)):=by rw[e6,av bG,e5];exact ae
   have g6:h6 CR=some (.cells #[.int .i64 0] 35 (0,0)):=by rw[e6];exact ae
   clear hk hL e5 e6 g4 iF K5;cbv;refine(Lx _ _ h6).mono (fun v h7 e7=>?_);subst e7;cbv;refine ar g5 rfl rfl ?_;cbv;refine ar g6 rfl rfl ?_;cbv;exact af
def aE(t:cg):List bM:=t.S.cols.map fun c=>⟨t.S.name++aC [46]++c.name,c.kind,c.null⟩
def eW(e:List Nd)(cols:List bM)(want:Int):Int:=match jB e cols with
 | (k,f)=>if f=0/\k≠0/\k≠want then 3 else f
def aG(e:List Nd)(cols:List bM):Int:=if e.length=0 then 0 else eW e cols 1
def cW(e:List Nd)(cols:List bM)(r:Row):Bool×Int:=if e.length=0 then(true,0)else match fW e cols r with
 | (v,f)=>(decide (v.k=1)&&decide (v.n=1),f)
def cf{α:Type}(f:α->Int):List α->Int
 | []=>0
 |x::r=>if f x≠0 then f x else cf f r
def mO(cols:List bM)(r:Row):List (List Nd)->Row->Row×Int
 | [],l=>(l,0)
 |x::xs,l=>match fW x cols r with
  | (v,f)=>if f≠0 then([],f)else mO cols r xs (l++[v])
def ep(l:List (List Nd))(cols:List bM)(r:Row):Row×Int:=mO cols r l []
def bU(d:DB)(nm:ByteArray):cg:=(d.aK.find? fun t=>decide (t.S.name=nm)).getD ⟨⟨b0,[],0,false⟩,[]⟩
def cR(bB:List Nd)(cols:List bM)(f:Row->Row×Int):List Row->List Row×List Row->(List Row×List Row)×Int
 | [],p=>(p,0)
 |r::rs,p=>match cW bB cols r with
  | (is,e)=>if e≠0 then(p,e)else if is=false then cR bB cols f rs p else match f r with
   | (n,e)=>if e≠0 then((p.1++[r],p.2++[n]),e)else cR bB cols f rs (p.1++[r],p.2++[n])
def tq{α:Type}(f:DB->α->DB×Int):List α->DB->DB×Int
 | [],d=>(d,0)
 |x::r,d=>match f d x with
  | (d',e)=>if e≠0 then(d',e)else tq f r d'
def jI(d:DB)(nm:ByteArray)(r:Row):dc:=pr r (bU d nm).S.key
def fB(s:Int)(nm:ByteArray):List Row->DB->DB×Int:=tq fun d r=>jq d s nm (jI d nm r)
def o0(s:Int)(nm:ByteArray):List Row->DB->DB×Int:=tq fun d r=>jJ d s nm r
def cC(was:DB)(r:DB×Int):DB×List Row×Int:=if r.2≠0 then(was,[],r.2)else(r.1,[],0)
def jh(d:DB)(s:Int)(x:aB):DB×List Row×Int:=match aO d ⟨s,x.table,true⟩with
 | (d,e)=>if e≠0 then(d,[],e)else cC d (match ep x.exprs [] []with
  | (r,e)=>if e≠0 then(d,e)else jJ d s x.table r)
def jx(cols:List bM)(nm:ByteArray):Int×Bool:=match eZ cols nm 0 with
 |some k=>((k:Int),true)
 |none=>(0,false)
def gh(cols:List bM):List ByteArray->List Int->List Int×Int
 | [],l=>(l,0)
 |nm::r,l=>match jx cols nm with
  | (k,is)=>if is=false then(l,2)else if k∈l then(l,7)else gh cols r (l++[k])
def oQ(cols:List bM)(k:Int):Int:=match cols[k.toNat]? with
 |some c=>c.kind
 |none=>0
def gF(cols gM:List bM):List (List Nd×Int)->Int
 | []=>0
 | (x,k)::r=>if eW x cols (oQ gM k)≠0 then eW x cols (oQ gM k)else gF cols gM r
def pk(t:cg)(x:aB):Int:=match gh t.S.cols x.names []with
 | (pl,e)=>if e≠0 then e else if gF (aE t) t.S.cols (x.exprs.zip pl)≠0 then gF (aE t) t.S.cols (x.exprs.zip pl)else aG x.bB (aE t)
def oX(cols:List bM):List (dc×ByteArray)->Row->Row
 | [],r=>r
 | (v,nm)::l,r=>oX cols l (r.set (jx cols nm).1.toNat v)
def jP(t:cg)(x:aB)(r:Row):Row×Int:=match ep x.exprs (aE t) r with
 | (l,e)=>(oX t.S.cols (l.zip x.names) r,e)
def jd(d:DB)(s:Int)(x:aB):DB×List Row×Int:=match aO d ⟨s,x.table,true⟩with
 | (d,e)=>if e≠0 then(d,[],e)else if(bU d x.table).S.only=true then(d,[],19)else cC d (
  if pk (bU d x.table) x≠0 then(d,pk (bU d x.table) x)else match cR x.bB (aE (bU d x.table)) (jP (bU d x.table) x) (bU d x.table).rows ([],[])with
   | (p,e)=>if e≠0 then(d,e)else match fB s x.table p.1 d with
    | (d,e)=>if e≠0 then(d,e)else o0 s x.table p.2 d)
def jl(d:DB)(s:Int)(x:aB):DB×List Row×Int:=match aO d ⟨s,x.table,true⟩with
 | (d,e)=>if e≠0 then(d,[],e)else if(bU d x.table).S.only=true then(d,[],19)else cC d (
  if aG x.bB (aE (bU d x.table))≠0 then(d,aG x.bB (aE (bU d x.table)))else match cR x.bB (aE (bU d x.table)) (fun _=>([],0)) (bU d x.table).rows ([],[])with
   | (p,e)=>if e≠0 then(d,e)else fB s x.table p.1 d)
def aV(nm:ByteArray)(cols:List bM):Int×Int:=if nm=b0 then(-1,0)else dt nm cols
def fY(cols:List bM)(i:dp):Int:=if i.fn=1 then 0 else if i.fn=2 then eW i.e cols 2 else(jB i.e cols).2
def bq(cols:List bM)(group:Int)(i:dp):Int:=if i.fn≠0 then 0 else if group<0 then 3 else match i.e with
 | [n]=>if n.op≠2 then 3 else match dt n.name cols with
  | (k,e)=>if e≠0\/k≠group then 3 else 0
 |_=>3
structure Qy where
 group:Int
 order:Int
 kU:Bool
def dx(x:aB)(cols:List bM):Qy×Int:=
 if aG x.on cols≠0 then(⟨-1,-1,false⟩,aG x.on cols)
 else if aG x.bB cols≠0 then(⟨-1,-1,false⟩,aG x.bB cols)
 else if cf (fY cols) x.items≠0 then(⟨-1,-1,false⟩,cf (fY cols) x.items)
 else match aV x.group cols with
  | (g,e)=>if e≠0 then(⟨g,-1,false⟩,e)else match aV x.order cols with
   | (o,e)=>if e≠0 then(⟨g,o,false⟩,e)else
    if(decide (x.group≠b0)||x.items.any fun i=>decide (i.fn≠0))=false then(⟨g,o,false⟩,0)
    else if x.items.length=0\/(o>=0/\o≠g)then(⟨g,o,true⟩,3)
    else(⟨g,o,true⟩,cf (bq cols g) x.items)
def fS(x:aB)(cols:List bM)(a:Row):List Row->List Row->List Row×Int
 | [],out=>(out,0)
 |b::bs,out=>match cW x.on cols (a++b)with
  | (on,e)=>if e≠0 then(out,e)else if on=false then fS x cols a bs out else match cW x.bB cols (a++b)with
   | (is,e)=>if e≠0 then(out,e)else fS x cols a bs (if is=true then out++[a++b]else out)
def cG(x:aB)(cols:List bM)(bs:List Row):List Row->List Row->List Row×Int
 | [],out=>(out,0)
 |a::l,out=>match fS x cols a bs out with
  | (out,e)=>if e≠0 then(out,e)else cG x cols bs l out
def cH{α:Type}(l:List α)(n:Int):List α:=if n<0 then l else l.take n.toNat
def ordV(desc:Bool)(a b:dc):Int:=if desc=true then cD b a else cD a b
def ltK(k:Int)(desc:Bool)(a b:Row):Bool:=decide (ordV desc (pr a k) (pr b k)<0)
def lz(x:aB)(cols:List bM):List Row->List Row->List Row×Int
 | [],out=>(out,0)
 |r::rs,out=>if x.items.length=0 then lz x cols rs (out++[r])else match ep (x.items.map (·.e)) cols r with
  | (v,e)=>if e≠0 then([],e)else lz x cols rs (out++[v])
def iR(x:aB)(cols:List bM)(order:Int)(rows:List Row):List Row×Int:=lz x cols (cH (if order>=0 then Hs (ltK order x.desc) rows else rows) x.fE) []
def ri(k:Int):List Row->List (List Row)->List (List Row)
 | [],out=>out
 |r::rs,out=>match out.getLast? with
  |none=>ri k rs [[r]]
  |some g=>match g.getLast? with
   |none=>ri k rs (out++[[r]])
   |some p=>if Bv (pr p k) (pr r k)=true then ri k rs (out.dropLast++[g++[r]])else ri k rs (out++[[r]])
def DP(k:Int)(desc:Bool)(rows:List Row):List (List Row):=if k<0 then [rows]else ri k (Hs (ltK k desc) rows) []
def My(fn:Int)(v x:dc):dc×Int:=
 if v.k=0 then(x,0)
 else if fn=2 then fW [lit v,lit x,bin 14 0 1] [] []
 else if(fn=3/\cD x v<0)\/(fn=4/\cD x v>0)then(x,0)else(v,0)
def Ts(fn:Int)(e:List Nd)(cols:List bM):List Row->dc->dc×Int
 | [],v=>(v,0)
 |r::rs,v=>match fW e cols r with
  | (x,f)=>if f≠0 then(v0,f)else if x.k=0 then Ts fn e cols rs v else match My fn v x with
   | (w,f)=>if f≠0 then(v0,f)else Ts fn e cols rs w
def Oe(cols:List bM)(group:Int)(i:dp)(g:List Row):dc×Int:=
 if i.fn=1 then(⟨2,g.length,b0⟩,0)else if i.fn=0 then(match g with
  |r::_=>(pr r group,0)
  | []=>(v0,0))else Ts i.fn i.e cols g v0
def x7(cols:List bM)(group:Int)(g:List Row):List dp->Row->Row×Int
 | [],r=>(r,0)
 |i::is,r=>match Oe cols group i g with
  | (v,e)=>if e≠0 then([],e)else x7 cols group g is (r++[v])
def mK(x:aB)(cols:List bM)(group:Int):List (List Row)->List Row->List Row×Int
 | [],out=>(out,0)
 |g::gs,out=>match x7 cols group g x.items []with
  | (r,e)=>if e≠0 then([],e)else mK x cols group gs (out++[r])
def fL(x:aB)(cols:List bM)(group:Int)(rows:List Row):List Row×Int:=mK x cols group (cH (DP group x.desc rows) x.fE) []
def ns(x:aB)(cols:List bM)(a b:List Row):List Row×Int:=match dx x cols with
 | (q,e)=>if e≠0 then([],e)else if a.length*b.length>4000 then([],4)else match cG x cols b a []with
  | (rows,e)=>if e≠0 then([],e)else if q.kU=true then fL x cols q.group rows else iR x cols q.order rows
def ey(d:DB)(s:Int)(x:aB):DB×List Row×Int:=
 if x.join=x.table then(d,[],7)else match aO d ⟨s,x.table,false⟩with
 | (d,e)=>if e≠0 then(d,[],e)else if x.join=b0 then(match ns x (aE (bU d x.table)) (bU d x.table).rows [[]]with
  | (l,e)=>(d,l,e))
  else match aO d ⟨s,x.join,false⟩with
   | (d,e)=>if e≠0 then(d,[],e)else match ns x (aE (bU d x.table)++aE (bU d x.join)) (bU d x.table).rows (bU d x.join).rows with
    | (l,e)=>(d,l,e)
def rQ(d:DB)(s:Int)(x:aB):DB×List Row×Int:=
 if x.kind=7 then((dX d s).1,[],(dX d s).2)
 else if x.kind=9 then((gO d s).1,[],(gO d s).2)
 else if x.kind=10 then((sP d s x.name).1,[],(sP d s x.name).2)
 else if x.kind=11 then((tz d s x.name).1,[],(tz d s x.name).2)
 else if x.kind=3 then jh d s x else if x.kind=4 then jd d s x else if x.kind=5 then jl d s x else if x.kind=6 then ey d s x
 else(d,[],1)
end Go.S
