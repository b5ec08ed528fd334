import Derived.Test.YtekoaiendgjkdaaGreatVA
import Derived.Test.YtekoaiendgjkdaaGreatSxB
import Derived.RecoverIn
import Derived.Test.YtekoaiendgjkdaaGreatNA
import Derived.Test.YtekoaiendgjkdaaGreatSA
set_option linter.unusedVariables false
set_option linter.unusedSimpArgs false
set_option linter.unusedSectionVars false
namespace Go.S
def pY:By->Option By
 | []=>none
 |c::r=>match decide (c.toNat=46)with
  |true=>some r
  |false=>pY r
def iY(s:ByteArray):Option ByteArray:=match pY s.data.toList with
 |some r=>some (au r)
 |none=>none
def jN(name col:ByteArray):Bool:=decide (name=col)||((iY name).isNone&&decide (iY col=some name))
def gJ(name:ByteArray):List bS->Int->Option Int->Int×Int
 | [],_,none=>(0,2)
 | [],_,some a=>(a,0)
 |c::r,i,at_=>match jN name c.name with
  |false=>gJ name r (i+1) at_
  |true=>match at_ with
   |some _=>(0,12)
   |none=>gJ name r (i+1) (some i)
def dp(name:ByteArray)(cols:List bS):Int×Int:=gJ name cols 0 none
def bW(op:Int):Int:=
 if op=1\/op=2 then 0 else if op=3\/op=4\/op=5 then 1 else if 6<=op/\op<=16 then 2 else -1
def zP(k want:Int):Bool:=decide (k=0)||decide (k=want)
def inK(op a b:Int):Int:=if op=8\/op=9\/op=10\/op=11\/op=12\/op=13 then(if a=0 then b else a)else if op=4\/op=14\/op=15\/op=16 then 2 else 1
def SM(op:Int):Int:=if op=4\/op=14\/op=15\/op=16 then 2 else 1
def rz(op a b:Int):Int×Int:=
 if op=5 then(1,0)else if(!zP a (inK op a b)|| !zP b (inK op a b))=true then(0,3)else(SM op,0)
def Cj(l:List Int)(a:Int):Int:=(l[a.toNat]?).getD 0
def oB(n:Nd)(l:List Int)(cols:List bS):Int×Int:=
 if bW n.op<0\/(bW n.op>0/\(n.a<0\/n.a>=l.length))\/(bW n.op>1/\(n.b<0\/n.b>=l.length))then(0,1)
 else if n.op=1 then(n.v.k,cC n.v)
 else if n.op=2 then
  match dp n.name cols with
  | (c,e)=>if e≠0 then(0,e)else(match cols[c.toNat]? with
   |some c=>(c.kind,0)
   |none=>(0,0))
 else if bW n.op=1 then rz n.op (Cj l n.a) (Cj l n.a)else rz n.op (Cj l n.a) (Cj l n.b)
def eY(cols:List bS):List Nd->List Int->List Int×Int
 | [],l=>(l,0)
 |n::r,l=>match oB n l cols with
  | (k,e)=>if e≠0 then(l,e)else eY cols r (l++[k])
def rB(l:List Int):Int:=(l.getLast?).getD 0
def fK(e:List Nd)(cols:List bS):Int×Int:=
 if e.length<1\/e.length>60 then(0,1)else match eY cols e []with
  | (l,f)=>if f≠0 then(0,f)else(rB l,0)
def bC(b:Bool):cR:=match b with
 |true=>⟨1,1,b0⟩
 |false=>⟨1,0,b0⟩
def lV(x:Int):Bool:=decide (-9223372036854775808<=x)&&decide (x<=9223372036854775807)
def oP(x:Int):Option cR:=if lV x=true then some ⟨2,x,b0⟩else none
def cV(op a b:Int):Option cR:=if op=4 then oP (-a)else if op=14 then oP (a+b)else if op=15 then oP (a-b)else oP (a*b)
def yq(a b:cR):Bool:=decide (a.k=b.k)&&decide (a.n=b.n)&&decide (a.s=b.s)
def lP(op:Int)(a b:cR):cR:=
 if yq a (bC (decide (op=6)))=true then a else if yq b (bC (decide (op=6)))=true then b
 else if a.k=0\/b.k=0 then v0 else bC (!decide (op=6))
def jx(op:Int)(a b:cR):Option cR:=
 if op=5 then some (bC (decide (a.k=0)))
 else if op=6\/op=7 then some (lP op a b)
 else if a.k=0\/b.k=0 then some v0
 else if op=3 then some (bC (decide (a.n=0)))
 else if op=8 then some (bC (decide (cg a b=0)))
 else if op=9 then some (bC (decide (cg a b≠0)))
 else if op=10 then some (bC (decide (cg a b<0)))
 else if op=11 then some (bC (decide (cg a b<=0)))
 else if op=12 then some (bC (decide (cg a b>0)))
 else if op=13 then some (bC (decide (cg a b>=0)))
 else cV op a.n b.n
def oH(l:List cR)(a:Int):cR:=(l[a.toNat]?).getD v0
def mW(n:Nd)(l:List cR)(cols:List bS)(r:Row):Option cR:=
 if n.op=1 then some n.v
 else if n.op=2 then(match dp n.name cols with
  | (c,_)=>some (oH r c))
 else if bW n.op=1 then jx n.op (oH l n.a) (oH l n.a)else jx n.op (oH l n.a) (oH l n.b)
def fY(cols:List bS)(r:Row):List Nd->List cR->Option (List cR)
 | [],l=>some l
 |n::e,l=>match mW n l cols r with
  |some v=>fY cols r e (l++[v])
  |none=>none
def oA(l:List cR):cR:=(l.getLast?).getD v0
def eI(e:List Nd)(cols:List bS)(r:Row):cR×Int:=match fK e cols with
 | (_,f)=>if f≠0 then(v0,f)else match fY cols r e []with
  |some l=>(oA l,0)
  |none=>(v0,11)
set_option maxRecDepth 100000
set_option maxHeartbeats 8000000
open Go.Sx Go.Proofs
def Rr(s:ByteArray):Prop:=∀i,i<s.size->(s.data.getD i 0).toNat<128
theorem Dl{P:Program}{ty:TypeId}{h:ad}{r pos:Nat}{s:ByteArray}(g:h r=some (.stringIter s pos))(ha:∀i,i<s.size->(s.data.getD i 0).toNat<128)
 {k:Value->ad->Prop} (h0:s.size<=pos->k (.tuple #[.bool false]) h)
 (hK:∀h' z b,pos<s.size->h'=aV h r (.stringIter s (pos+1))->aO z pos->b=((s.data.getD pos 0).toNat:Int)->k (.tuple #[.bool true,.int .i64 z,.int .i32 b]) h'):
 cX (fun _=>P) (fun _=>Instr.next (.pointer (some ⟨r,0,none⟩)) true ty) h k:=Dm g ha h0 (fun h' hp e=>hK h' _ _ hp e ⟨rfl⟩ rfl)
theorem Ia(c:UInt8)(r:By):pY (c::r)=match decide (c.toNat=46)with
 |true=>some r
 |false=>pY r:=rfl
theorem CU{s:ByteArray}(hs:Rr s)(kB:s.size<=2^40){h:ad}{k:Value->ad->Prop}
 (hk:∀h' v t,Le h h'->(t=true->iY s=some v)->(t=false->iY s=none)->k (.tuple #[.string v,.bool t]) h'):
 Ct 329 [.string s] h k:=by
 obtain⟨A,hA⟩:=Ar.ex;have pN:aO (A .gD s) s.size:=⟨by rw[hA.gD]⟩;refine af A (ar VC.aw VC.aZ) Tryz.func329 rfl (by kernel_rfl) ?_;cbv;refine AS u9 (fun r h1 hr e1=>?_);obtain⟨I,bm⟩:∃I:Nat->Unit->ad->Prop,∀m g h',I m g h'=∃i t,oD s i t/\pY t=pY s.data.toList/\h'=aV h r (.stringIter s i)/\m=t.length:=⟨_,fun _ _ _=>rfl⟩;have hJ:I s.data.toList.length () h1:=by rw[bm];exact⟨0,_,oD.start s,rfl,e1,rfl⟩
 have hle:∀o,Le h (aV h r o):=fun o=>Le.set hr;cbv;refine aX.go (G:=Unit) (fun _=>[]) (fun _=>[]) (fun m g h'=>I m g h') s.data.toList.length () ⟨?_,?_,?_⟩ hJ ?_
 ·cbv
 ·cbv
 ·cbv
 ·intro m g h' hI;rw[bm]at hI;cbv;obtain⟨i,t,q,hd,e',hm⟩:=hI;have gr:h' r=some (.stringIter s i):=by rw[e'];exact ah
  have hl:=q.len;have Cs:Le h h':=by rw[e'];exact hle _
  refine Dl gr hs (fun iO=>?_) (fun h2 z b hp e2 hz hb=>?_)
  ·have ht:t=[]:=by
    cases t with
    |nil=>rfl
    |cons c r=>have:(c::r).length=r.length+1:=rfl;omega
   subst ht;have hb:iY s=none:=by unfold iY;rw[<-hd];rfl
   have ae:=hk h' ⟨#[]⟩ false Cs (fun e=>by cases e) (fun _=>hb);cbv;exact ae
  ·cases t with
   |nil=>have:([]:By).length=0:=rfl;omega
   |cons c rest=>
    have nO:b=(c.toNat:Int):=by
     rw[hb];have h3:=q.byte (A:=A) (z:=z) hz;rw[hA.byte]at h3;have e1:z.toNat=i:=by have:=hz.eq;omega
     simp only[e1]at h3;exact h3
    have f1:A .aD .eql b 46=decide (c.toNat=46):=by rw[av A,decide_eq_decide,nO];omega
    have tX:Le h h2:=by rw[e2,e',iM];exact hle _
    rw[Ia]at hd;have rF:(c::rest).length=rest.length+1:=rfl;have qn:=q.next;have dS:=hz.succ (A:=A) (by omega);have cT:0<=A .bu .add .i64 z 1/\A .bu .add .i64 z 1<=(s.size:Int):=by have h1:=dS.eq;have h2:=pN.eq;omega
    have cW:A .sub s (A .bu .add .i64 z 1) (A .gD s)=au rest:=by
     have Bl:aO (A .gD s) (i+1+rest.length):=by
      have h5:i+1+rest.length=s.size:=by omega
      rw[h5];exact pN
     have:=qn.sub (A:=A) dS (n:=rest.length) Bl;rw[List.take_of_length_le (Nat.le_refl _)]at this;exact this
    have aG:rest.length<m:=by omega
    clear hb;cbv;rw[f1];clear f1;generalize decide (c.toNat=46)=u at *;cases u with
    |true=>
     have hd:some rest=pY s.data.toList:=hd;have hbp:iY s=some (au rest):=by unfold iY;rw[<-hd]
     obtain⟨vb,hvb⟩:∃vb,au rest=vb:=⟨_,rfl⟩;rw[hvb]at hbp cW;have ae:=hk h2 vb true tX (fun _=>hbp) (fun e=>by cases e);clear bm hJ;cbv;refine⟨cT,?_⟩;cbv;try rw[cW]
     exact ae
    |false=>
     have hd:pY rest=pY s.data.toList:=hd;have dc:I rest.length () h2:=by rw[bm];exact⟨i+1,rest,qn,hd,by rw[e2,e',iM],rfl⟩
     clear bm hJ hk;cbv;refine⟨rest.length,(),aG,⟨?_,?_,?_⟩,dc⟩
     ·cbv
     ·cbv
     ·cbv
structure Nm(s:ByteArray):Prop where
 Sf:Rr s
 sz:s.size<=2^40
theorem Oa{name:ByteArray}{c:bS}(hn:Nm name)(hc:Nm c.name){h:ad}{k:Value->ad->Prop}(hk:∀h' t,Le h h'->t=jN name c.name->k (.bool t) h'):
 Ct 312 [.string name,.agg #[.string c.name,.int .i64 c.kind,.bool c.null]] h k:=by
 obtain⟨A,hA⟩:=Ar.ex;obtain⟨cn,ck,cl⟩:=c;have hc:Nm cn:=hc;have f1:A .jm .eql name cn=decide (name=cn):=bL A ..;have ht:jN name cn=(decide (name=cn)||((iY name).isNone&&decide (iY cn=some name))):=rfl;have hk:∀h',Le h h'->k (.bool (jN name cn)) h':=fun h' l=>hk h' _ l rfl;refine af A (ar VQ.aw VQ.aZ) Tryz.func312 rfl (by kernel_rfl) ?_;cbv;rw[f1];clear f1;by_cases he:name=cn
 ·have ae:=hk h (Le.refl _);rw[ht,decide_eq_true he]at ae;have ae:k (.bool true) h:=ae;rw[decide_eq_true he];cbv;exact ae
 ·rw[decide_eq_false he]at ht |-;cbv;refine CU hn.Sf hn.sz (fun h1 v1 t1 l1 a1 b1=>?_);cbv;refine CU hc.Sf hc.sz (fun h2 v2 t2 l2 a2 b2=>?_);have uV:A .not t1= !t1:=by rw[hA.not]
  have f2:A .jm .eql name v2=decide (name=v2):=bL A ..;have hk:=hk h2 (l1.trans l2);rw[ht]at hk;cases t1 with
  |true=>rw[a1 rfl]at hk;have ae:k (.bool false) h2:=hk;cbv;rw[uV];cbv;exact ae
  |false=>
   rw[b1 rfl]at hk;cases t2 with
   |false=>rw[b2 rfl]at hk;have hd:decide ((none:Option ByteArray)=some name)=false:=decide_eq_false (by intro h;cases h);rw[hd]at hk;have ae:k (.bool false) h2:=hk;cbv;rw[uV];cbv;exact ae
   |true=>
    rw[a2 rfl]at hk;have hd:decide (some v2=some name)=decide (name=v2):=by rw[decide_eq_decide];constructor<;>(intro h;cases h;rfl)
    rw[hd]at hk;have ae:k (.bool (decide (name=v2))) h2:=hk;rw[<-f2]at ae;cbv;rw[uV];cbv;exact ae
theorem iP{name:ByteArray}{c:bS}{l:List bS}{i:Int}{at_:Option Int}:gJ name (c::l) i at_=match jN name c.name with
 |false=>gJ name l (i+1) at_
 |true=>match at_ with
  |some _=>(0,12)
  |none=>gJ name l (i+1) (some i):=rfl
theorem zS{name:ByteArray}:∀(l:List bS) (i:Int) (at_:Option Int) (r:Int×Int),gJ name l i at_=r->(at_=none\/∃a,at_=some a/\0<=a/\a<i)->0<=i->r.2=0->0<=r.1/\r.1<i+l.length:=by
 intro l;induction l with
 |nil=>
  intro i at_ r h ha hi h0;cases at_ with
  |none=>have h:((0:Int),(2:Int))=r:=h;subst h;cases h0
  |some a=>
   have h:(a,(0:Int))=r:=h;subst h;rcases ha with ha| ⟨b,ha,h1,h2⟩
   ·cases ha
   ·cases ha;exact⟨h1,by show a<i+((0:Nat):Int);omega⟩
 |cons c l ih=>
  intro i at_ r h ha hi h0;rw[iP]at h;have hlen:((c::l).length:Int)=l.length+1:=by simp
  cases ht:jN name c.name with
  |false=>
   rw[ht]at h;have:=ih (i+1) at_ r h (by
    rcases ha with ha| ⟨a,ha,h1,h2⟩
    ·exact .inl ha
    ·exact .inr ⟨a,ha,h1,by omega⟩) (by omega) h0
   omega
  |true=>
   rw[ht]at h;cases at_ with
   |some a=>cases h;cases h0
   |none=>have:=ih (i+1) (some i) r h (.inr ⟨i,rfl,hi,by omega⟩) (by omega) h0;omega
theorem NM{name:ByteArray}(hn:Nm name){cols:List bS}(hc:∀c∈cols,Nm c.name){h:ad}{b:Option Addr}{n cp:Nat}(q:Sl 165 bp h (.slice b n cp) cols){k:Value->ad->Prop}
 (hk:∀h' z e,Le h h'->dp name cols=(z,e)->(e=0->0<=z/\z<cols.length)->k (.tuple #[.int .i64 z,.int .i64 e]) h'):
 Ct 284 [.string name,.slice b n cp] h k:=by
 obtain⟨A,hA⟩:=Ar.ex;have hlen:=q.len;have vp:=q.bound;have hk:∀h' z e,Le h h'->dp name cols=(z,e)->k (.tuple #[.int .i64 z,.int .i64 e]) h':=fun h' z e l he=>hk h' z e l he (fun h0=>by
  have:=zS cols 0 none (z,e) he (.inl rfl) (by decide) h0;simpa using this)
 obtain⟨R,hR⟩:∃R,dp name cols=R:=⟨_,rfl⟩;rw[hR]at hk;obtain⟨I,bm⟩:∃I:Nat->Int×Int->ad->Prop,∀m g h',I m g h'=∃i,aO g.1 i/\i<=n/\m=n-i/\Le h h'/\((g.2=-1/\gJ name (cols.drop i) g.1 none=R)\/(0<=g.2/\gJ name (cols.drop i) g.1 (some g.2)=R)):=⟨_,fun _ _ _=>rfl⟩;have hJ:I n (0,-1) h:=by rw[bm];exact⟨0,⟨rfl⟩,Nat.zero_le _,rfl,Le.refl _,.inl ⟨rfl,hR⟩⟩
 refine af A (ar V9.aw V9.aZ) Tryz.func284 rfl (by kernel_rfl) ?_;cbv;refine aX.go (G:=Int×Int) (fun g=>[(11,.v (.int .i64 g.1)),(6,.v (.int .i64 g.2))]) (fun _=>[]) (fun m g h'=>I m g h') n (0,-1) ⟨?_,?_,?_⟩ hJ ?_
 ·cbv
 ·cbv
 ·cbv
 ·intro m g h1 hI;rw[bm]at hI;cbv;obtain⟨i,hz,hi,hm,l1,dk⟩:=hI;obtain⟨z,a⟩:=g;have hz:aO z i:=hz;have dk:(a=-1/\gJ name (cols.drop i) z none=R)\/(0<=a/\gJ name (cols.drop i) z (some a)=R):=dk;have f1:A .aD .lss z (A .nat n)=decide (i<n):=hz.gK (aO.nat n);have f2:A .aD .geq a 0=decide (a>=0):=bQ A ..;have f3:A .aD .lss a 0=decide (a<0):=bt A ..;rw[f1];by_cases aG:i<n
  ·obtain⟨c,oa⟩:=aE (xs:=cols) (i:=i) (by omega);have D9:=hc c (List.mem_of_getElem? oa);have cT:b.isSome=true/\0<=z/\z<(n:Int):=⟨q.bF (by omega),hz.ix aG⟩;have ir:=hz.eq;have dS:=hz.succ (A:=A) (by omega);have mC:A .bu .add .i64 z 1=z+1:=kG A _ _ (by omega);have hd:cols.drop i=c::cols.drop (i+1):=by obtain⟨h1,h2⟩:=List.getElem?_eq_some_iff.1 oa;rw[List.drop_eq_getElem_cons h1,h2]
   rw[hd,iP,iP]at dk;have dc:∀a2 h2,Le h h2->((a2=-1/\gJ name (cols.drop (i+1)) (z+1) none=R)\/(0<=a2/\gJ name (cols.drop (i+1)) (z+1) (some a2)=R))->I (n-(i+1)) (A .bu .add .i64 z 1,a2) h2:=fun a2 h2 l hh=>by
    rw[bm];exact⟨i+1,dS,aG,rfl,l,by rw[mC];exact hh⟩
   have kC:n-(i+1)<m:=by omega
   clear bm hJ mC hd;rw[decide_eq_true aG];cbv;refine⟨cT,?_⟩;cbv;refine(q.mono (l1.t _)).load oa ir (fun cs aF=>?_);obtain⟨cn,ck,cl⟩:=c;have aF:cs=[.string cn,.int .i64 ck,.bool cl]:=aF;subst aF;cbv;refine Oa (c:=⟨cn,ck,cl⟩) hn D9 (fun h2 t l2 ht=>?_);have lT:=l1.trans l2;replace dk:(a=-1/\(match jN name cn with
    |false=>gJ name (cols.drop (i+1)) (z+1) none
    |true=>gJ name (cols.drop (i+1)) (z+1) (some z))=R)\/(0<=a/\(match jN name cn with
    |false=>gJ name (cols.drop (i+1)) (z+1) (some a)
    |true=>(0,12))=R):=dk
   have ht:t=jN name cn:=ht;rw[<-ht]at dk;have uV:A .not t= !t:=by rw[hA.not]
   cases t with
   |false=>
    have hI:=dc a h2 lT dk;clear dc hk dk;cbv;rw[uV];cbv;refine⟨n-(i+1),(A .bu .add .i64 z 1,a),kC,⟨?_,?_,?_⟩,hI⟩
    ·cbv
    ·cbv
    ·cbv
   |true=>
    rcases dk with ⟨ha,dk⟩ | ⟨ha,dk⟩
    ·have Qj:decide (a>=0)=false:=decide_eq_false (by omega);have hI:=dc z h2 lT (.inr ⟨by have:=hz.eq;omega,dk⟩);clear dc hk dk;cbv;rw[uV];cbv;rw[f2,Qj];cbv;refine⟨n-(i+1),(A .bu .add .i64 z 1,z),kC,⟨?_,?_,?_⟩,hI⟩
     ·cbv
     ·cbv
     ·cbv
    ·have Qj:decide (a>=0)=true:=decide_eq_true (by omega);have ae:=hk h2 0 12 lT dk.symm;clear dc hk dk;cbv;rw[uV];cbv;rw[f2,Qj];cbv;exact ae
  ·have hd:cols.drop i=[]:=List.drop_of_length_le (by omega);rw[hd]at dk;rw[decide_eq_false aG];rcases dk with ⟨ha,dk⟩ | ⟨ha,dk⟩
   ·have ae:=hk h1 0 2 l1 dk.symm;have Qj:decide (a<0)=true:=decide_eq_true (by omega);clear bm hJ hk dk;cbv;rw[f3,Qj];cbv;exact ae
   ·have ae:=hk h1 a 0 l1 dk.symm;have Qj:decide (a<0)=false:=decide_eq_false (by omega);clear bm hJ hk dk;cbv;rw[f3,Qj];cbv;exact ae
theorem AZ(op:Int){h:ad}{k:Value->ad->Prop}(hk:∀z,z=bW op->k (.int .i64 z) h):Ct 285 [.int .i64 op] h k:=by
 obtain⟨A,hA⟩:=Ar.ex;refine af A (ar V8.aw V8.aZ) Tryz.func285 rfl (by kernel_rfl) ?_;cbv;repeat' (refine aL (fun hc=>?_) (fun hc=>?_)<;>(try rw[hc])<;>cbv)
 all_goals
  refine hk _ ?_;simp only[av A,bQ A,sF A,decide_eq_true_eq,decide_eq_false_iff_not]at *;unfold bW;repeat' split
  all_goals omega
theorem UX(a b:Int){h:ad}{k:Value->ad->Prop}(hk:∀t,t=zP a b->k (.bool t) h):Ct 328 [.int .i64 a,.int .i64 b] h k:=by
 obtain⟨A,hA⟩:=Ar.ex;refine af A (ar VD.aw VD.aZ) Tryz.func328 rfl (by kernel_rfl) ?_;cbv;repeat' (refine aL (fun hc=>?_) (fun hc=>?_)<;>(try rw[hc])<;>cbv)
 all_goals
  refine hk _ ?_;simp only[av A,decide_eq_true_eq,decide_eq_false_iff_not]at *;unfold zP;simp[*]
theorem M0(op a b:Int){h:ad}{k:Value->ad->Prop}(hk:∀z e,(z,e)=rz op a b->k (.tuple #[.int .i64 z,.int .i64 e]) h):Ct 311 [.int .i64 op,.int .i64 a,.int .i64 b] h k:=by
 obtain⟨A,hA⟩:=Ar.ex;refine af A (ar VR.aw VR.aZ) Tryz.func311 rfl (by kernel_rfl) ?_;cbv;repeat' (first
  | (refine aL (fun hc=>?_) (fun hc=>?_)<;>(try rw[hc])<;>cbv)
  | (refine UX _ _ (fun t ht=>?_);cbv))
 all_goals
  refine hk _ _ ?_;simp only[av A,hA.not,decide_eq_true_eq,decide_eq_false_iff_not]at *;simp only[rz,inK,SM,zP]at *;simp_all
theorem kM(b:Bool){h:ad}{k:Value->ad->Prop}(hk:∀v,v=(bC b).v->k v h):Ct 313 [.bool b] h k:=by
 obtain⟨A,hA⟩:=Ar.ex;refine af A (ar VP.aw VP.aZ) Tryz.func313 rfl (by kernel_rfl) ?_;cbv;cases b with
 |true=>exact hk _ rfl
 |false=>exact hk _ rfl
theorem yQ(v:cR){h:ad}{k:Value->ad->Prop}(hk:k (.bool (decide (v.k=0))) h):Ct 314 [v.v] h k:=by obtain⟨A,hA⟩:=Ar.ex;obtain⟨vk,vn,vs⟩:=v;have f1:A .aD .eql vk 0=decide (vk=0):=av A ..;have hk:k (.bool (decide (vk=0))) h:=hk;refine af A (ar VO.aw VO.aZ) Tryz.func314 rfl (by kernel_rfl) ?_;cbv;rw[f1];exact hk
abbrev DC:List PanicEntry:=[{ v:=.iface 35 (.int .i64 11),recovered:=false }]
abbrev N1(f:FuncId)(args:List Value)(h:ad)(R:Value->ad->Prop)(K:List PanicEntry->ad->Prop):Prop:=Ap (fun _=>Tryz.prog) f args h R K
def xu(n:Nat):Bool:=[345,331,333,330,332,316,286,247].contains n
theorem qA(n:Int)(o:Bool){h:ad}{R:Value->ad->Prop}{K:List PanicEntry->ad->Prop}(h1:o=false->R (.int .i64 n) h)(h2:o=true->K DC h):
 N1 345 [.int .i64 n,.bool o] h R K:=by
 obtain⟨A,hA⟩:=Ar.ex;refine gI A (kO Vw.aw Vw.aZ xu [] (fun c _ h=>K c h)) Tryz.func345 rfl (by kernel_rfl) (fun _ _ _ q=>q) ?_;cbv;cases o with
 |true=>cbv;exact h2 rfl
 |false=>cbv;exact h1 rfl
theorem fP{x:Int}:lV x=true↔-9223372036854775808<=x/\x<=9223372036854775807:=by unfold lV;rw[Bool.and_eq_true,decide_eq_true_eq,decide_eq_true_eq]
theorem kA{x:Int}:lV x=false↔¬(-9223372036854775808<=x/\x<=9223372036854775807):=by rw[<-fP];simp
theorem sumC(a b:Int)(ha:lV a=true)(hb:lV b=true){h:ad}{R:Value->ad->Prop}{K:List PanicEntry->ad->Prop}(h1:lV (a+b)=true->R (.int .i64 (a+b)) h)(h2:lV (a+b)=false->K DC h):
 N1 331 [.int .i64 a,.int .i64 b] h R K:=by
 obtain⟨A,hA⟩:=Ar.ex;rw[fP]at ha hb;have e1:b>0->A .bu .sub .i64 9223372036854775807 b=9223372036854775807-b:=fun g=>nW A _ _ (by omega);have e2:b<0->A .bu .sub .i64 (-9223372036854775808) b=-9223372036854775808-b:=fun g=>nW A _ _ (by omega);refine gI A (kO VA.aw VA.aZ xu [] (fun c _ h=>K c h)) Tryz.func331 rfl (by kernel_rfl) (fun _ _ _ q=>q) ?_;cbv;repeat' (refine aL (fun hc=>?_) (fun hc=>?_)<;>(try rw[hc])<;>cbv)
 all_goals (refine qA _ _ (fun ho=>?_) (fun ho=>?_))
 all_goals (cbv)
 all_goals (try (simp only[bB A,bt A,av A,decide_eq_true_eq,decide_eq_false_iff_not,Bool.false_eq_true,Bool.true_eq_false,reduceCtorEq]at ho))
 all_goals (try simp only[bB A,bt A,av A,decide_eq_true_eq,decide_eq_false_iff_not]at *)
 all_goals first
  | (refine h2 (kA.2 ?_);omega)
  | (by_cases hr:lV (a+b)=true
     ·have e3:A .bu .add .i64 a b=a+b:=kG A _ _ (fP.1 hr);rw[e3];exact h1 hr
     ·exfalso;rw[Bool.not_eq_true,kA]at hr;omega)
theorem S5(a b:Int)(ha:lV a=true)(hb:lV b=true){h:ad}{R:Value->ad->Prop}{K:List PanicEntry->ad->Prop}(h1:lV (a-b)=true->R (.int .i64 (a-b)) h)(h2:lV (a-b)=false->K DC h):
 N1 332 [.int .i64 a,.int .i64 b] h R K:=by
 obtain⟨A,hA⟩:=Ar.ex;rw[fP]at ha hb;have e1:b>0->A .bu .add .i64 (-9223372036854775808) b=-9223372036854775808+b:=fun g=>kG A _ _ (by omega);have e2:b<0->A .bu .add .i64 9223372036854775807 b=9223372036854775807+b:=fun g=>kG A _ _ (by omega);refine gI A (kO Vz.aw Vz.aZ xu [] (fun c _ h=>K c h)) Tryz.func332 rfl (by kernel_rfl) (fun _ _ _ q=>q) ?_;cbv;repeat' (refine aL (fun hc=>?_) (fun hc=>?_)<;>(try rw[hc])<;>cbv)
 all_goals (refine qA _ _ (fun ho=>?_) (fun ho=>?_))
 all_goals (cbv)
 all_goals (try (simp only[bB A,bt A,av A,decide_eq_true_eq,decide_eq_false_iff_not,Bool.false_eq_true,Bool.true_eq_false,reduceCtorEq]at ho))
 all_goals (try simp only[bB A,bt A,av A,decide_eq_true_eq,decide_eq_false_iff_not]at *)
 all_goals first
  | (refine h2 (kA.2 ?_);omega)
  | (by_cases hr:lV (a-b)=true
     ·have e3:A .bu .sub .i64 a b=a-b:=nW A _ _ (fP.1 hr);rw[e3];exact h1 hr
     ·exfalso;rw[Bool.not_eq_true,kA]at hr;omega)
theorem OY(a:Int)(ha:lV a=true){h:ad}{R:Value->ad->Prop}{K:List PanicEntry->ad->Prop}(h1:lV (-a)=true->R (.int .i64 (-a)) h)(h2:lV (-a)=false->K DC h):
 N1 330 [.int .i64 a] h R K:=by
 obtain⟨A,hA⟩:=Ar.ex;rw[fP]at ha;refine gI A (kO VB.aw VB.aZ xu [] (fun c _ h=>K c h)) Tryz.func330 rfl (by kernel_rfl) (fun _ _ _ q=>q) ?_;cbv;repeat' (refine aL (fun hc=>?_) (fun hc=>?_)<;>(try rw[hc])<;>cbv)
 all_goals (refine qA _ _ (fun ho=>?_) (fun ho=>?_))
 all_goals (cbv)
 all_goals (try (simp only[bB A,bt A,av A,decide_eq_true_eq,decide_eq_false_iff_not,Bool.false_eq_true,Bool.true_eq_false,reduceCtorEq]at ho))
 all_goals (try simp only[bB A,bt A,av A,decide_eq_true_eq,decide_eq_false_iff_not]at *)
 all_goals first
  | (refine h2 (kA.2 ?_);omega)
  | (by_cases hr:lV (-a)=true
     ·have e3:A .bu .sub .i64 0 a=-a:=by rw[nW A _ _ (by rw[fP]at hr;omega)];omega
      rw[e3];exact h1 hr
     ·exfalso;rw[Bool.not_eq_true,kA]at hr;omega)
theorem BO(x:Int):∃k:Int,IntKind.i64.wrap x=x+k*18446744073709551616/\-9223372036854775808<=IntKind.i64.wrap x/\IntKind.i64.wrap x<=9223372036854775807:=by
 have hs:IntKind.i64.signed=true:=rfl;simp only[IntKind.wrap,IntKind.bits,hs];simp;split
 ·exact⟨⟨-(x / 18446744073709551616)-1,by omega⟩,by omega,by omega⟩
 ·exact⟨⟨-(x / 18446744073709551616),by omega⟩,by omega,by omega⟩
theorem Ka{a b:Int}(UB:b≠0)(ha:-9223372036854775808<=a/\a<=9223372036854775807)(hb:-9223372036854775808<=b/\b<=9223372036854775807)
 (h1:IntKind.i64.wrap ((IntKind.i64.wrap (a*b)).tdiv b)=a) (h2:¬(a=-1/\b=-9223372036854775808)) (h3:¬(b=-1/\a=-9223372036854775808)):-9223372036854775808<=a*b/\a*b<=9223372036854775807:=by
 obtain⟨k,hk,hc1,iC⟩:=BO (a*b);generalize IntKind.i64.wrap (a*b)=c at *;obtain⟨j,hj,Qa,RX⟩:=BO (c.tdiv b);have e1:=Int.tmod_add_tdiv_mul c b;have aG:(c.tdiv b).natAbs<=c.natAbs:=by rw[Int.natAbs_tdiv];exact Nat.div_le_self _ _
 by_cases zB:j=0
 ·subst zB;have hq:c.tdiv b=a:=by omega
  rw[hq]at e1;have hr:(c.tmod b).natAbs<b.natAbs:=by rw[Int.natAbs_tmod];exact Nat.mod_lt _ (by omega)
  have Nj:=hr;generalize c.tmod b=r at *;generalize a*b=p at *;have:r=k*18446744073709551616:=by omega
  omega
 ·have hq:c.tdiv b=9223372036854775808:=by omega
  have Jp:c=-9223372036854775808:=by omega
  have hba:b=-1:=by
   rw[hq,Jp]at e1;have hr:((-9223372036854775808:Int).tmod b).natAbs<b.natAbs:=by rw[Int.natAbs_tmod];exact Nat.mod_lt _ (by omega)
   rw[Jp]at hq;generalize (-9223372036854775808:Int).tmod b=r at *;omega
  subst hba;omega
theorem Gb(a b:Int)(ha:lV a=true)(hb:lV b=true){h:ad}{R:Value->ad->Prop}{K:List PanicEntry->ad->Prop}(h1:lV (a*b)=true->R (.int .i64 (a*b)) h)(h2:lV (a*b)=false->K DC h):
 N1 333 [.int .i64 a,.int .i64 b] h R K:=by
 obtain⟨A,hA⟩:=Ar.ex;rw[fP]at ha hb;have e1:A .bu .mul .i64 a b=IntKind.i64.wrap (a*b):=by rw[hA.bu];rfl
 have e2:∀c,A .bu .quo .i64 c b=IntKind.i64.wrap (c.tdiv b):=fun c=>by rw[hA.bu];rfl
 refine gI A (kO Vy.aw Vy.aZ xu [] (fun c _ h=>K c h)) Tryz.func333 rfl (by kernel_rfl) (fun _ _ _ q=>q) ?_;cbv;by_cases h0:a=0\/b=0
 ·have h0':a*b=0:=by rcases h0 with rfl|rfl<;>simp
  rw[h0']at h1;have ae:=h1 (by decide);clear h1 h2;repeat' (refine aL (fun hc=>?_) (fun hc=>?_)<;>(try rw[hc])<;>cbv)
  all_goals first
   |exact ae
   | (exfalso;simp only[av A,decide_eq_true_eq,decide_eq_false_iff_not]at *;omega)
 ·have ha0:A .aD .eql a 0=false:=by rw[av A,decide_eq_false_iff_not];omega
  have UB:A .aD .eql b 0=false:=by rw[av A,decide_eq_false_iff_not];omega
  have Bs:b≠0:=by omega
  rw[ha0];cbv;rw[UB];cbv;have s1:a=-1->a*b=-b:=fun e=>by rw[e];omega
  have s2:b=-1->a*b=-a:=fun e=>by rw[e];omega
  have hw:-9223372036854775808<=a*b/\a*b<=9223372036854775807->IntKind.i64.wrap (a*b)=a*b:=fun hr=>IntWalk.i64_in _ hr;have hq:-9223372036854775808<=a*b/\a*b<=9223372036854775807->IntKind.i64.wrap ((IntKind.i64.wrap (a*b)).tdiv b)=a:=fun hr=>by
   rw[hw hr,Int.mul_tdiv_cancel _ Bs];exact IntWalk.i64_in _ ha
  have hpi:=Ka (a:=a) (b:=b) Bs ha hb;refine⟨Bs,?_⟩;cbv;repeat' (refine aL (fun hc=>?_) (fun hc=>?_)<;>(try rw[hc])<;>cbv)
  all_goals (refine qA _ _ (fun ho=>?_) (fun ho=>?_))
  all_goals (cbv)
  all_goals (try (simp only[bB A,bt A,av A,decide_eq_true_eq,decide_eq_false_iff_not,Bool.false_eq_true,Bool.true_eq_false,reduceCtorEq]at ho))
  all_goals (simp only[av A,aC A,decide_eq_true_eq,decide_eq_false_iff_not,e1,e2]at *)
  all_goals first
   | (refine h2 (kA.2 ?_);omega)
   | (by_cases hr:lV (a*b)=true
      ·have Nj:=hr;rw[fP]at Nj;rw[hw Nj];exact h1 hr
      ·exfalso;rw[Bool.not_eq_true,kA]at hr;omega)
theorem Kh(op a b:Int)(ha:lV a=true)(hb:lV b=true){h:ad}{R:Value->ad->Prop}{K:List PanicEntry->ad->Prop}(h1:∀v,cV op a b=some v->R v.v h)(h2:cV op a b=none->K DC h):
 N1 316 [.int .i64 op,.int .i64 a,.int .i64 b] h R K:=by
 obtain⟨A,hA⟩:=Ar.ex;have f1:A .aD .eql op 4=decide (op=4):=av A ..;have f2:A .aD .eql op 14=decide (op=14):=av A ..;have f3:A .aD .eql op 15=decide (op=15):=av A ..;have num:∀x,(∀v,oP x=some v->R v.v h)->lV x=true->R (.agg #[.int .i64 2,.int .i64 x,.string ⟨#[]⟩]) h:=fun x hx hr=>hx ⟨2,x,b0⟩ (by unfold oP;rw[if_pos hr]);have Yb:∀x,(oP x=none->K DC h)->lV x=false->K DC h:=fun x hx hr=>hx (by unfold oP;rw[hr];rfl);refine gI A (kO VM.aw VM.aZ xu [] (fun c _ h=>K c h)) Tryz.func316 rfl (by kernel_rfl) (fun _ _ _ q=>q) ?_;cbv;rw[f1];by_cases c1:op=4
 ·have e:cV op a b=oP (-a):=by unfold cV;rw[if_pos c1]
  rw[e]at h1 h2;rw[decide_eq_true c1];cbv;refine OY a ha (fun g=>?_) (fun g=>?_)
  ·have ae:=num _ h1 g;cbv;exact ae
  ·have ae:=Yb _ h2 g;cbv;exact ae
 ·rw[decide_eq_false c1];cbv;rw[f2];by_cases c2:op=14
  ·have e:cV op a b=oP (a+b):=by unfold cV;rw[if_neg c1,if_pos c2]
   rw[e]at h1 h2;rw[decide_eq_true c2];cbv;refine sumC a b ha hb (fun g=>?_) (fun g=>?_)
   ·have ae:=num _ h1 g;generalize a+b=c at *;cbv;exact ae
   ·have ae:=Yb _ h2 g;cbv;exact ae
  ·rw[decide_eq_false c2];cbv;rw[f3];by_cases c3:op=15
   ·have e:cV op a b=oP (a-b):=by unfold cV;rw[if_neg c1,if_neg c2,if_pos c3]
    rw[e]at h1 h2;rw[decide_eq_true c3];cbv;refine S5 a b ha hb (fun g=>?_) (fun g=>?_)
    ·have ae:=num _ h1 g;generalize a-b=c at *;cbv;exact ae
    ·have ae:=Yb _ h2 g;cbv;exact ae
   ·have e:cV op a b=oP (a*b):=by unfold cV;rw[if_neg c1,if_neg c2,if_neg c3]
    rw[e]at h1 h2;rw[decide_eq_false c3];cbv;refine Gb a b ha hb (fun g=>?_) (fun g=>?_)
    ·have ae:=num _ h1 g;generalize a*b=c at *;cbv;exact ae
    ·have ae:=Yb _ h2 g;cbv;exact ae
theorem xW(A:Ar)[hA:aP A](a b:cR):A .and (A .aD .eql a.k b.k) (A .and (A .aD .eql a.n b.n) (A .and (A .jm .eql a.s b.s) true))=yq a b:=by rw[hA.and,av A,av A,bL A];show(decide (a.k=b.k)&&(decide (a.n=b.n)&&(decide (a.s=b.s)&&true)))=_;unfold yq;rw[Bool.and_true,Bool.and_assoc]
theorem GH(op:Int)(a b:cR){h:ad}{k:Value->ad->Prop}(hk:∀h' v,Le h h'->v=(lP op a b).v->k v h'):Ct 315 [.int .i64 op,a.v,b.v] h k:=by
 obtain⟨A,hA⟩:=Ar.ex;have f1:A .aD .eql op 6=decide (op=6):=av A ..;have hL:lP op a b=if yq a (bC (decide (op=6)))=true then a else if yq b (bC (decide (op=6)))=true then b
  else if a.k=0\/b.k=0 then v0 else bC (!decide (op=6)):=rfl
 generalize decide (op=6)=d at *;obtain⟨T,hT⟩:∃T,T=bC d:=⟨_,rfl⟩;have ev:∀x:cR,A .and (A .aD .eql x.k T.k) (A .and (A .aD .eql x.n T.n) (A .and (A .jm .eql x.s T.s) true))=yq x T:=fun x=>xW A x T;rw[<-hT]at hL;obtain⟨ak,an,sa⟩:=a;obtain⟨bk,bn,sb⟩:=b;refine af A (ar VN.aw VN.aZ) Tryz.func315 rfl (by kernel_rfl) ?_;cbv;rw[f1];cbv;intro nb h1 hn e1;have l1:Le h h1:=by rw[e1];exact Le.set hn
 have q:Sl 61 aY h1 (.slice (some ⟨nb,0,none⟩) 2 2) [⟨ak,an,sa⟩,⟨bk,bn,sb⟩]:=by
  refine Sl.fresh (s:=aY) (h:=h1) (n:=nb) (xs:=[⟨ak,an,sa⟩,⟨bk,bn,sb⟩]) (cap:=2) (c:=[.int .i64 ak,.int .i64 an,.string sa,.int .i64 bk,.int .i64 bn,.string sb]) (by rw[e1];exact ah) ⟨Nat.le_refl 6,fun i x hx=>?_⟩ (by show 2<=_;omega) (Nat.le_refl 2)
  match i,hx with
  |0,hx=>cases hx;rfl
  |1,hx=>cases hx;rfl
  |i+2,hx=>simp at hx
 cbv;refine aX.go (G:=Int) (fun z=>[(16,.v (.int .i64 z))]) (fun _=>[(4,[.int .i64 ak,.int .i64 an,.string sa]),(5,[.int .i64 bk,.int .i64 bn,.string sb]),(6,[.int .i64 0,.int .i64 0,.string ⟨#[]⟩])])
  (fun m z h'=>∃i:Nat,aO z i/\m=2-i/\i<=2/\h'=h1/\(0<i->yq ⟨ak,an,sa⟩ T=false)/\(1<i->yq ⟨bk,bn,sb⟩ T=false)) 2 0 ⟨?_,?_,?_⟩ ⟨0,⟨rfl⟩,by omega,by omega,rfl,fun g=>by omega,fun g=>by omega⟩ ?_
 ·cbv
 ·cbv
 ·cbv
 ·intro m z h' hI;cbv;obtain⟨i,hz,hm,hi,e',ha,hb⟩:=hI;subst e';refine aL (fun hc=>?_) (fun hc=>?_)
  ·have aG:=hz.lt (len:=2) hc;rw[hc];clear hc;obtain⟨x,hx⟩:=aE (xs:=[(⟨ak,an,sa⟩:cR),⟨bk,bn,sb⟩]) (i:=i) (show i<2 by omega);have YW:=ev x;have Hk:yq x T=true->k (.agg #[.int .i64 x.k,.int .i64 x.n,.string x.s]) h':=fun g=>by
    refine hk h' _ l1 ?_;have:lP op ⟨ak,an,sa⟩ ⟨bk,bn,sb⟩=x:=by
     rw[hL]
     match i,hx,ha,hb with
     |0,hx,ha,hb=>cases hx;rw[if_pos g]
     |1,hx,ha,hb=>cases hx;rw[ha (by omega),if_neg (by simp),if_pos g]
     |i+2,hx,_,_=>simp at hx
    rw[this]
   have dc:yq x T=false->(0<i+1->yq ⟨ak,an,sa⟩ T=false)/\(1<i+1->yq ⟨bk,bn,sb⟩ T=false):=fun g=>by
    match i,hx,ha,hb with
    |0,hx,ha,hb=>cases hx;exact⟨fun _=>g,fun g=>by omega⟩
    |1,hx,ha,hb=>cases hx;exact⟨fun _=>ha (by omega),fun _=>g⟩
    |i+2,hx,_,_=>simp at hx
   have dS:=hz.succ (A:=A) (by omega);have cT:=hz.ix aG;have ir:=hz.eq;have kC:2-(i+1)<m:=by omega
   clear hk hL ha hb;cbv;refine⟨⟨rfl,cT⟩,?_⟩;cbv;refine q.load hx ir (fun cs aF=>?_);obtain⟨xk,xn,xs⟩:=x;have aF:cs=[.int .i64 xk,.int .i64 xn,.string xs]:=aF;subst aF;cbv;refine kM d (fun v hv=>?_);rw[<-hT]at hv;obtain⟨tk,tn,ts⟩:=T;subst hv;cbv;have YW:A .and (A .aD .eql xk tk) (A .and (A .aD .eql xn tn) (A .and (A .jm .eql xs ts) true))=yq ⟨xk,xn,xs⟩ ⟨tk,tn,ts⟩:=YW;rw[YW];clear ev YW;generalize yq ⟨xk,xn,xs⟩ ⟨tk,tn,ts⟩=t at *;cases t with
   |true=>have ae:=Hk rfl;clear Hk dc;cbv;exact ae
   |false=>
    have hI:=dc rfl;clear Hk dc;cbv;refine⟨2-(i+1),A .bu .add .i64 z 1,kC,⟨?_,?_,?_⟩,i+1,dS,rfl,aG,rfl,hI⟩
    ·cbv
    ·cbv
    ·cbv
  ·have iu:=hz.ge (len:=2) hc;rw[hc];clear hc;have hi2:i=2:=by omega
   have e1':lP op ⟨ak,an,sa⟩ ⟨bk,bn,sb⟩=if ak=0\/bk=0 then v0 else bC (!d):=by rw[hL,ha (by omega),hb (by omega),if_neg (by simp),if_neg (by simp)]
   have nd:A .not d= !d:=by rw[hA.not]
   have zn:(ak=0\/bk=0)->k (.agg #[.int .i64 0,.int .i64 0,.string ⟨#[]⟩]) h':=fun g=>hk h' _ l1 (by rw[e1',if_pos g];rfl);have mC:¬(ak=0\/bk=0)->k (bC (!d)).v h':=fun g=>hk h' _ l1 (by rw[e1',if_neg g]);clear hk hL ha hb e1' ev;cbv;refine yQ ⟨ak,an,sa⟩ ?_;by_cases c1:ak=0
   ·have ae:=zn (.inl c1);have hd:decide ((⟨ak,an,sa⟩:cR).k=0)=true:=decide_eq_true c1;rw[hd];cbv;exact ae
   ·have hd:decide ((⟨ak,an,sa⟩:cR).k=0)=false:=decide_eq_false c1;rw[hd];cbv;refine yQ ⟨bk,bn,sb⟩ ?_;by_cases c2:bk=0
    ·have ae:=zn (.inr c2);have hd:decide ((⟨bk,bn,sb⟩:cR).k=0)=true:=decide_eq_true c2;rw[hd];cbv;exact ae
    ·have ae:=mC (by rintro(g|g)<;>contradiction);have hd:decide ((⟨bk,bn,sb⟩:cR).k=0)=false:=decide_eq_false c2;rw[hd];cbv;rw[nd];refine kM (!d) (fun v hv=>?_);generalize bC (!d)=tv at *;obtain⟨tk,tn,ts⟩:=tv;subst hv;cbv;exact ae
theorem MW(op:Int)(a b:cR)(ha:lV a.n=true)(hb:lV b.n=true){h:ad}{R:Value->ad->Prop}{K:List PanicEntry->ad->Prop}
 (h1:∀h' w v,Le h h'->jx op a b=some w->v=w.v->R v h') (h2:∀h',Le h h'->jx op a b=none->K DC h'):
 N1 286 [.int .i64 op,a.v,b.v] h R K:=by
 obtain⟨A,hA⟩:=Ar.ex;have hP:jx op a b=if op=5 then some (bC (decide (a.k=0)))
  else if op=6\/op=7 then some (lP op a b)
  else if a.k=0\/b.k=0 then some v0
  else if op=3 then some (bC (decide (a.n=0)))
  else if op=8 then some (bC (decide (cg a b=0)))
  else if op=9 then some (bC (decide (cg a b≠0)))
  else if op=10 then some (bC (decide (cg a b<0)))
  else if op=11 then some (bC (decide (cg a b<=0)))
  else if op=12 then some (bC (decide (cg a b>0)))
  else if op=13 then some (bC (decide (cg a b>=0)))
  else cV op a.n b.n:=rfl
 have f5:A .aD .eql op 5=decide (op=5):=av A ..;have f6:A .aD .eql op 6=decide (op=6):=av A ..;have f7:A .aD .eql op 7=decide (op=7):=av A ..;have f3:A .aD .eql op 3=decide (op=3):=av A ..;have f8:A .aD .eql op 8=decide (op=8):=av A ..;have f9:A .aD .eql op 9=decide (op=9):=av A ..;have f10:A .aD .eql op 10=decide (op=10):=av A ..;have f11:A .aD .eql op 11=decide (op=11):=av A ..;have f12:A .aD .eql op 12=decide (op=12):=av A ..;have f13:A .aD .eql op 13=decide (op=13):=av A ..;have fz:A .aD .eql a.n 0=decide (a.n=0):=av A ..;obtain⟨ak,an,sa⟩:=a;obtain⟨bk,bn,sb⟩:=b;generalize jx op ⟨ak,an,sa⟩ ⟨bk,bn,sb⟩=D at *;refine gI A (kO V7.aw V7.aZ xu [] (fun c _ h=>K c h)) Tryz.func286 rfl (by kernel_rfl) (fun _ _ _ q=>q) ?_;cbv;rw[f5];by_cases c5:op=5
 ·rw[if_pos c5]at hP;rw[decide_eq_true c5];cbv;refine yQ ⟨ak,an,sa⟩ ?_;have h1:=fun v=>h1 h _ v (Le.refl _) hP;clear h2 hP;generalize decide ((⟨ak,an,sa⟩:cR).k=0)=t at *;cbv;refine kM t (fun v hv=>?_);have ae:=h1 v hv;generalize bC t=tv at *;obtain⟨tk,tn,ts⟩:=tv;subst hv;cbv;exact ae
 rw[if_neg c5]at hP;rw[decide_eq_false c5];cbv;rw[f6];by_cases c6:op=6
 ·rw[decide_eq_true c6];rw[if_pos (show op=6\/op=7 from .inl c6)]at hP;cbv;refine GH op ⟨ak,an,sa⟩ ⟨bk,bn,sb⟩ (fun h3 v l3 hv=>?_);have ae:=h1 h3 _ v l3 hP hv;clear h1 h2 hP;generalize lP op ⟨ak,an,sa⟩ ⟨bk,bn,sb⟩=tv at *;obtain⟨tk,tn,ts⟩:=tv;subst hv;cbv;exact ae
 rw[decide_eq_false c6];cbv;rw[f7];by_cases c7:op=7
 ·rw[decide_eq_true c7];rw[if_pos (show op=6\/op=7 from .inr c7)]at hP;cbv;refine GH op ⟨ak,an,sa⟩ ⟨bk,bn,sb⟩ (fun h3 v l3 hv=>?_);have ae:=h1 h3 _ v l3 hP hv;clear h1 h2 hP;generalize lP op ⟨ak,an,sa⟩ ⟨bk,bn,sb⟩=tv at *;obtain⟨tk,tn,ts⟩:=tv;subst hv;cbv;exact ae
 rw[decide_eq_false c7];rw[if_neg (by rintro(g|g)<;>contradiction)]at hP;have hP:D=if ak=0\/bk=0 then some v0
  else if op=3 then some (bC (decide (an=0)))
  else if op=8 then some (bC (decide (cg ⟨ak,an,sa⟩ ⟨bk,bn,sb⟩=0)))
  else if op=9 then some (bC (decide (cg ⟨ak,an,sa⟩ ⟨bk,bn,sb⟩≠0)))
  else if op=10 then some (bC (decide (cg ⟨ak,an,sa⟩ ⟨bk,bn,sb⟩<0)))
  else if op=11 then some (bC (decide (cg ⟨ak,an,sa⟩ ⟨bk,bn,sb⟩<=0)))
  else if op=12 then some (bC (decide (cg ⟨ak,an,sa⟩ ⟨bk,bn,sb⟩>0)))
  else if op=13 then some (bC (decide (cg ⟨ak,an,sa⟩ ⟨bk,bn,sb⟩>=0)))
  else cV op an bn:=hP
 have zn:ak=0\/bk=0->R (.agg #[.int .i64 0,.int .i64 0,.string ⟨#[]⟩]) h:=fun g=>h1 h v0 _ (Le.refl _) (by rw[hP,if_pos g]) rfl;cbv;refine yQ ⟨ak,an,sa⟩ ?_;by_cases c1:ak=0
 ·have ae:=zn (.inl c1);have hd:decide ((⟨ak,an,sa⟩:cR).k=0)=true:=decide_eq_true c1;rw[hd];clear h1 h2 hP zn;cbv;exact ae
 have hd:decide ((⟨ak,an,sa⟩:cR).k=0)=false:=decide_eq_false c1;rw[hd];clear hd;cbv;refine yQ ⟨bk,bn,sb⟩ ?_;by_cases c2:bk=0
 ·have ae:=zn (.inr c2);have hd:decide ((⟨bk,bn,sb⟩:cR).k=0)=true:=decide_eq_true c2;rw[hd];clear h1 h2 hP zn;cbv;exact ae
 have hd:decide ((⟨bk,bn,sb⟩:cR).k=0)=false:=decide_eq_false c2;rw[hd];clear hd zn;rw[if_neg (by rintro(g|g)<;>contradiction)]at hP;cbv;refine(uD ⟨ak,an,sa⟩ ⟨bk,bn,sb⟩ h).mono (fun v h3 hR=>?_);obtain⟨l3,z,hv,hz⟩:=hR;subst hv;rw[<-hz]at hP;have hf:∀t:Bool,∀v,D=some (bC t)->v=(bC t).v->R v h3:=fun t v e hv=>h1 h3 _ v l3 e hv;have Ju:D=cV op an bn->∀v,cV op an bn=some v->R v.v h3:=fun e v hv=>h1 h3 v _ l3 (e.trans hv) rfl;have Js:D=cV op an bn->cV op an bn=none->K DC h3:=fun e hv=>h2 h3 l3 (e.trans hv);clear h1 h2 hz;have fz:A .aD .eql an 0=decide (an=0):=fz;cbv;rw[f3];by_cases Q9:op=3
 ·rw[if_pos Q9]at hP;rw[decide_eq_true Q9];obtain⟨t,ht⟩:∃t,t=decide (an=0):=⟨_,rfl⟩;rw[<-ht]at hP fz;have hf:=hf t;clear Ju Js;cbv;try rw[fz]
  refine kM t (fun v hv=>?_);have ae:=hf v hP hv;clear hf hP;generalize bC t=tv at *;obtain⟨tk,tn,ts⟩:=tv;subst hv;cbv;exact ae
 rw[if_neg Q9]at hP;rw[decide_eq_false Q9];have gz:A .aD .eql z 0=decide (z=0):=av A ..;cbv;rw[f8];by_cases Y9:op=8
 ·rw[if_pos Y9]at hP;rw[decide_eq_true Y9];obtain⟨t,ht⟩:∃t,t=decide (z=0):=⟨_,rfl⟩;rw[<-ht]at hP gz;have hf:=hf t;clear Ju Js;cbv;try rw[gz]
  refine kM t (fun v hv=>?_);have ae:=hf v hP hv;clear hf hP;generalize bC t=tv at *;obtain⟨tk,tn,ts⟩:=tv;subst hv;cbv;exact ae
 rw[if_neg Y9]at hP;rw[decide_eq_false Y9];have gz:A .aD .neq z 0=decide (z≠0):=aC A ..;cbv;rw[f9];by_cases Y7:op=9
 ·rw[if_pos Y7]at hP;rw[decide_eq_true Y7];obtain⟨t,ht⟩:∃t,t=decide (z≠0):=⟨_,rfl⟩;rw[<-ht]at hP gz;have hf:=hf t;clear Ju Js;cbv;try rw[gz]
  refine kM t (fun v hv=>?_);have ae:=hf v hP hv;clear hf hP;generalize bC t=tv at *;obtain⟨tk,tn,ts⟩:=tv;subst hv;cbv;exact ae
 rw[if_neg Y7]at hP;rw[decide_eq_false Y7];have gz:A .aD .lss z 0=decide (z<0):=bt A ..;cbv;rw[f10];by_cases Me:op=10
 ·rw[if_pos Me]at hP;rw[decide_eq_true Me];obtain⟨t,ht⟩:∃t,t=decide (z<0):=⟨_,rfl⟩;rw[<-ht]at hP gz;have hf:=hf t;clear Ju Js;cbv;try rw[gz]
  refine kM t (fun v hv=>?_);have ae:=hf v hP hv;clear hf hP;generalize bC t=tv at *;obtain⟨tk,tn,ts⟩:=tv;subst hv;cbv;exact ae
 rw[if_neg Me]at hP;rw[decide_eq_false Me];have gz:A .aD .leq z 0=decide (z<=0):=sF A ..;cbv;rw[f11];by_cases Mc:op=11
 ·rw[if_pos Mc]at hP;rw[decide_eq_true Mc];obtain⟨t,ht⟩:∃t,t=decide (z<=0):=⟨_,rfl⟩;rw[<-ht]at hP gz;have hf:=hf t;clear Ju Js;cbv;try rw[gz]
  refine kM t (fun v hv=>?_);have ae:=hf v hP hv;clear hf hP;generalize bC t=tv at *;obtain⟨tk,tn,ts⟩:=tv;subst hv;cbv;exact ae
 rw[if_neg Mc]at hP;rw[decide_eq_false Mc];have gz:A .aD .gtr z 0=decide (z>0):=bB A ..;cbv;rw[f12];by_cases Mb:op=12
 ·rw[if_pos Mb]at hP;rw[decide_eq_true Mb];obtain⟨t,ht⟩:∃t,t=decide (z>0):=⟨_,rfl⟩;rw[<-ht]at hP gz;have hf:=hf t;clear Ju Js;cbv;try rw[gz]
  refine kM t (fun v hv=>?_);have ae:=hf v hP hv;clear hf hP;generalize bC t=tv at *;obtain⟨tk,tn,ts⟩:=tv;subst hv;cbv;exact ae
 rw[if_neg Mb]at hP;rw[decide_eq_false Mb];have gz:A .aD .geq z 0=decide (z>=0):=bQ A ..;cbv;rw[f13];by_cases Ma:op=13
 ·rw[if_pos Ma]at hP;rw[decide_eq_true Ma];obtain⟨t,ht⟩:∃t,t=decide (z>=0):=⟨_,rfl⟩;rw[<-ht]at hP gz;have hf:=hf t;clear Ju Js;cbv;try rw[gz]
  refine kM t (fun v hv=>?_);have ae:=hf v hP hv;clear hf hP;generalize bC t=tv at *;obtain⟨tk,tn,ts⟩:=tv;subst hv;cbv;exact ae
 rw[if_neg Ma]at hP;rw[decide_eq_false Ma];have Ju:=Ju hP;have Js:=Js hP;clear hf hP;cbv;refine Kh op an bn ha hb (fun v hv=>?_) (fun hv=>?_)
 ·have ae:=Ju v hv;obtain⟨vk,vn,vs⟩:=v;cbv;exact ae
 ·have ae:=Js hv;cbv;exact ae
abbrev Nd.vv(n:Nd):Value:=.agg #[.int .i64 n.op,.int .i64 n.a,.int .i64 n.b,.int .i64 n.v.k,.int .i64 n.v.n,.string n.v.s,.string n.name]
theorem py(op:Int):(bW op=0/\(op=1\/op=2))\/(bW op=1/\(op=3\/op=4\/op=5))\/(bW op=2/\6<=op/\op<=16)\/(bW op=-1/\op≠1/\op≠2):=by
 unfold bW;by_cases h1:op=1\/op=2
 ·left;rw[if_pos h1];exact⟨rfl,h1⟩
 ·rw[if_neg h1];by_cases h2:op=3\/op=4\/op=5
  ·right;left;rw[if_pos h2];exact⟨rfl,h2⟩
  ·rw[if_neg h2];by_cases h3:6<=op/\op<=16
   ·right;right;left;rw[if_pos h3];exact⟨rfl,h3⟩
   ·right;right;right;rw[if_neg h3];exact⟨rfl,by omega,by omega⟩
theorem xH{l:List Int}{a x:Int}{i:Nat}(h:l[i]? =some x)(ha:a=(i:Int)):Cj l a=x:=by subst ha;unfold Cj;rw[Int.toNat_natCast,h];rfl
theorem Td{n:Nd}(hn:Nm n.name){l:List Int}{cols:List bS}(hc:∀c∈cols,Nm c.name){h:ad}{lb:Option Addr}{ln lc:Nat}(ql:Sl 3 ef h (.slice lb ln lc) l)
 {cb:Option Addr} {cn cc:Nat} (qc:Sl 165 bp h (.slice cb cn cc) cols) {z:Int} (hz:aO z l.length) {k:Value->ad->Prop}
 (hk:∀h' a e,Le h h'->(a,e)=oB n l cols->k (.tuple #[.int .i64 a,.int .i64 e]) h'):
 Ct 283 [n.vv,.int .i64 z,.slice lb ln lc,.slice cb cn cc] h k:=by
 obtain⟨A,hA⟩:=Ar.ex;have ym:=ql.len;have hlb:=ql.bound;have hP:oB n l cols=if bW n.op<0\/(bW n.op>0/\(n.a<0\/n.a>=l.length))\/(bW n.op>1/\(n.b<0\/n.b>=l.length))then(0,1)
  else if n.op=1 then(n.v.k,cC n.v)
  else if n.op=2 then
   match dp n.name cols with
   | (c,e)=>if e≠0 then(0,e)else(match cols[c.toNat]? with
    |some c=>(c.kind,0)
    |none=>(0,0))
  else if bW n.op=1 then rz n.op (Cj l n.a) (Cj l n.a)else rz n.op (Cj l n.a) (Cj l n.b):=rfl
 obtain⟨op,a,b,v,name⟩:=n;have dk:=py op;have hn:Nm name:=hn;generalize oB ⟨op,a,b,v,name⟩ l cols=D at *;have hP:D=if bW op<0\/(bW op>0/\(a<0\/a>=l.length))\/(bW op>1/\(b<0\/b>=l.length))then(0,1)
  else if op=1 then(v.k,cC v)
  else if op=2 then
   match dp name cols with
   | (c,e)=>if e≠0 then(0,e)else(match cols[c.toNat]? with
    |some c=>(c.kind,0)
    |none=>(0,0))
  else if bW op=1 then rz op (Cj l a) (Cj l a)else rz op (Cj l a) (Cj l b):=hP
 have f1:A .aD .eql op 1=decide (op=1):=av A ..;have f2:A .aD .eql op 2=decide (op=2):=av A ..;have fa:A .aD .lss a 0=decide (a<0):=bt A ..;have fb:A .aD .lss b 0=decide (b<0):=bt A ..;obtain⟨N,hN⟩:∃N:Int,N=l.length:=⟨_,rfl⟩;have lu:∀a:Int,¬a<0->¬a>=N->∃x,l[a.toNat]? =some x/\a=(a.toNat:Int)/\(lb.isSome=true/\0<=a/\a<(ln:Int)):=fun a h0 h1=>by
  obtain⟨x,hx⟩:=aE (xs:=l) (i:=a.toNat) (by omega);exact⟨x,hx,by omega,ql.bF (by omega),by omega,by omega⟩
 rw[<-hN]at hP;have ga:A .aD .geq a z=decide (a>=N):=by rw[bQ A,hz.eq,hN]
 have gb:A .aD .geq b z=decide (b>=N):=by rw[bQ A,hz.eq,hN]
 have hG:(bW op<0\/(bW op>0/\(a<0\/a>=N))\/(bW op>1/\(b<0\/b>=N)))->k (.tuple #[.int .i64 0,.int .i64 1]) h:=fun g=>hk h 0 1 (Le.refl _) (by rw[hP,if_pos g]);obtain⟨vk,vn,vs⟩:=v;clear hlb ym;refine af A (ar Wa.aw Wa.aZ) Tryz.func283 rfl (by kernel_rfl) ?_;cbv;refine AZ op (fun p hp=>?_);rw[<-hp]at dk hP hG;rcases dk with ⟨c0,c1⟩ | ⟨c0,c1⟩ | ⟨c0,c1⟩ | ⟨c0,c1⟩
 ·subst c0;rw[if_neg (by omega)]at hP;cbv;rw[(show A .aD .lss 0 0=false from by rw[bt A];rfl)];cbv;rw[(show A .aD .gtr 0 0=false from by rw[bB A];rfl)];cbv;rw[(show A .aD .gtr 0 1=false from by rw[bB A];rfl)];cbv;rw[f1];by_cases d1:op=1
  ·rw[if_pos d1]at hP;rw[decide_eq_true d1];clear hG;cbv;refine(Ac ⟨vk,vn,vs⟩ h).mono (fun v h3 hR=>?_);obtain⟨l3,y,hv,hy⟩:=hR;subst hv;have ae:=hk h3 vk y l3 (by rw[hP,hy]);clear hk hP hy;cbv;exact ae
  ·have d2:op=2:=by omega
   rw[if_neg d1,if_pos d2]at hP;rw[decide_eq_false d1];cbv;rw[f2,decide_eq_true d2];clear hG;cbv;refine NM hn hc qc (fun h3 y e l3 hy hb=>?_);rw[hy]at hP;have fe:A .aD .neq e 0=decide (e≠0):=aC A ..;have hP:D=if e≠0 then(0,e)else(match cols[y.toNat]? with
    |some c=>(c.kind,0)
    |none=>(0,0)):=hP
   clear hy;by_cases he:e=0
   ·have hb:=hb he;obtain⟨c,vo⟩:=aE (xs:=cols) (i:=y.toNat) (by omega);rw[if_neg (fun g=>g he),vo]at hP;have Yz:=qc.len;have cT:cb.isSome=true/\0<=y/\y<(cn:Int):=⟨qc.bF (by omega),by omega,by omega⟩;have ae:=hk h3 c.kind 0 l3 hP.symm;have RH:y=(y.toNat:Int):=by omega
    clear hk hP;cbv;rw[fe,decide_eq_false (by omega:¬e≠0)];cbv;refine⟨cT,?_⟩;cbv;refine(qc.mono (l3.t _)).fF vo RH (o:=1) (m:=1) (by decide) (fun cs aF=>?_);obtain⟨CQ,E4,E3⟩:=c;have aF:cs=[.string CQ,.int .i64 E4,.bool E3]:=aF;subst aF;cbv;exact ae
   ·rw[if_pos he]at hP;have ae:=hk h3 0 e l3 hP.symm;clear hk hP;cbv;rw[fe,decide_eq_true he];cbv;exact ae
 ·subst c0;cbv;rw[(show A .aD .lss 1 0=false from by rw[bt A];rfl)];cbv;rw[(show A .aD .gtr 1 0=true from by rw[bB A];rfl)];cbv;rw[fa];by_cases a0:a<0
  ·have ae:=hG (by omega);clear hG hk hP;rw[decide_eq_true a0];cbv;exact ae
  rw[decide_eq_false a0];cbv;rw[ga];by_cases a1:a>=N
  ·have ae:=hG (by omega);clear hG hk hP;rw[decide_eq_true a1];cbv;exact ae
  rw[decide_eq_false a1];cbv;rw[(show A .aD .gtr 1 1=false from by rw[bB A];rfl)];have tZ:=lu a a0 a1;cbv;obtain⟨x,hx,zo,xR⟩:=tZ;rw[if_neg (by omega),if_neg (by omega),if_neg (by omega),if_pos rfl,xH hx zo]at hP;clear hG;rw[f1,decide_eq_false (by omega:¬op=1)];cbv;rw[f2,decide_eq_false (by omega:¬op=2)];cbv;rw[(show A .aD .eql 1 1=true from by rw[av A];rfl)];cbv;refine⟨xR,?_⟩;cbv;refine ql.load hx zo (fun cs aF=>?_);have aF:cs=[.int .i64 x]:=aF;subst aF;cbv;refine⟨xR,?_⟩;cbv;refine ql.load hx zo (fun cs aF=>?_);have aF:cs=[.int .i64 x]:=aF;subst aF;cbv;refine M0 op x x (fun d e hd=>?_);have ae:=hk h d e (Le.refl _) (hd.trans hP.symm);clear hk hP hd;cbv;exact ae
 ·subst c0;cbv;rw[(show A .aD .lss 2 0=false from by rw[bt A];rfl)];cbv;rw[(show A .aD .gtr 2 0=true from by rw[bB A];rfl)];cbv;rw[fa];by_cases a0:a<0
  ·have ae:=hG (by omega);clear hG hk hP;rw[decide_eq_true a0];cbv;exact ae
  rw[decide_eq_false a0];cbv;rw[ga];by_cases a1:a>=N
  ·have ae:=hG (by omega);clear hG hk hP;rw[decide_eq_true a1];cbv;exact ae
  rw[decide_eq_false a1];cbv;rw[(show A .aD .gtr 2 1=true from by rw[bB A];rfl)];have tZ:=lu a a0 a1;cbv;obtain⟨x,hx,zo,xR⟩:=tZ;rw[fb];by_cases b0:b<0
  ·have ae:=hG (by omega);clear hG hk hP;rw[decide_eq_true b0];cbv;exact ae
  rw[decide_eq_false b0];cbv;rw[gb];by_cases b1:b>=N
  ·have ae:=hG (by omega);clear hG hk hP;rw[decide_eq_true b1];cbv;exact ae
  rw[decide_eq_false b1];have Nu:=lu b b0 b1;cbv;obtain⟨y,hy,M7,Qe⟩:=Nu;rw[if_neg (by omega),if_neg (by omega),if_neg (by omega),if_neg (by omega),xH hx zo,xH hy M7]at hP;clear hG;rw[f1,decide_eq_false (by omega:¬op=1)];cbv;rw[f2,decide_eq_false (by omega:¬op=2)];cbv;rw[(show A .aD .eql 2 1=false from by rw[av A];rfl)];cbv;refine⟨xR,?_⟩;cbv;refine ql.load hx zo (fun cs aF=>?_);have aF:cs=[.int .i64 x]:=aF;subst aF;cbv;refine⟨Qe,?_⟩;cbv;refine ql.load hy M7 (fun cs aF=>?_);have aF:cs=[.int .i64 y]:=aF;subst aF;cbv;refine M0 op x y (fun d e hd=>?_);have ae:=hk h d e (Le.refl _) (hd.trans hP.symm);clear hk hP hd;cbv;exact ae
 ·subst c0;have ae:=hG (.inl (by omega));clear hG hk hP;cbv;rw[(show A .aD .lss (-1) 0=true from by rw[bt A];rfl)];cbv;exact ae
theorem GG{α:Type}{e:Nat}{s:Sh α}{h:ad}{l:Nat}{A:Ar}[aP A]{bytes:Nat}{z:List Value}{k:Value->ad->Prop}(hz:z.length=s.n)(hl:l<=2^40)(hb:bytes<=128)
 (hk:∀nb h',h nb=none->Le h h'->dn e s h' nb l []->k (.slice (some ⟨nb,0,none⟩) 0 l) h'):
 oE h e 0 (A .nat l) bytes z k:=by
 have zI:(2:Nat)^40=1099511627776:=rfl;have Jt:(2:Int)^48=281474976710656:=rfl;rw[aP.nat (A:=A)];refine⟨by simp only[Int.ofNat_eq_natCast];omega,⟨by rw[Jt];simp only[Int.ofNat_eq_natCast];omega,?_⟩,fun nb h' e1 e2=>?_⟩
 ·rw[Jt];simp only[Int.ofNat_eq_natCast];have:bytes*l<=128*l:=Nat.mul_le_mul_right _ hb;have h2:((bytes*l:Nat):Int)<=((128*l:Nat):Int):=Int.ofNat_le.2 this;simp only[Int.natCast_mul]at h2;omega
 ·simp only[Int.ofNat_eq_natCast,Int.toNat_natCast]at e2 |-;refine hk nb h' e1 (by rw[e2];exact Le.set e1) ⟨⟨eK l z,by rw[e2,ah],tp,?_⟩,by simp,by simp⟩;rw[df,hz]
theorem ja(cols:List bS)(n:Nd)(r:List Nd)(l:List Int):eY cols (n::r) l=match oB n l cols with
 | (k,e)=>if e≠0 then(l,e)else eY cols r (l++[k]):=rfl
theorem DN{l:List Int}{i:Nat}{x:Int}(h:l[i]? =some x)(hi:l.length=i+1):rB l=x:=by unfold rB;rw[List.getLast?_eq_getElem?,hi];simp only[Nat.add_sub_cancel];rw[h];rfl
theorem I4{ex:List Nd}(hn:∀n∈ex,Nm n.name){cols:List bS}(hc:∀c∈cols,Nm c.name){h:ad}{eb:Option Addr}{en ec:Nat}(qe:Sl 325 cP h (.slice eb en ec) ex)
 {cb:Option Addr} {cn cc:Nat} (qc:Sl 165 bp h (.slice cb cn cc) cols) {k:Value->ad->Prop}
 (hk:∀h' a e,Le h h'->(a,e)=fK ex cols->k (.tuple #[.int .i64 a,.int .i64 e]) h'):
 Ct 245 [.slice eb en ec,.slice cb cn cc] h k:=by
 obtain⟨A,hA⟩:=Ar.ex;have P8:=qe.len;have hP:fK ex cols=if ex.length<1\/ex.length>60 then(0,1)else match eY cols ex []with
  | (l,f)=>if f≠0 then(0,f)else(rB l,0):=rfl
 rw[<-P8]at hP;have f1:A .aD .lss (A .nat en) 1=decide (en<1):=by rw[bt A,hA.nat,decide_eq_decide,Int.ofNat_eq_natCast];omega
 have f2:A .aD .gtr (A .nat en) 60=decide (en>60):=by rw[bB A,hA.nat,decide_eq_decide,Int.ofNat_eq_natCast];omega
 obtain⟨R,hR⟩:∃R,eY cols ex []=R:=⟨_,rfl⟩;rw[hR]at hP;generalize fK ex cols=D at *;obtain⟨I,bm⟩:∃I:Nat->Int×(Option Addr×Nat×Nat)->ad->Prop,∀m g h',I m g h'=∃i l,aO g.1 i/\i<=en/\m=en-i/\Le h h'/\cS 3 ef h h' (.slice g.2.1 g.2.2.1 g.2.2.2) l/\l.length=i/\eY cols (ex.drop i) l=R:=⟨_,fun _ _ _=>rfl⟩;refine af A (ar Wx.aw Wx.aZ) Tryz.func245 rfl (by kernel_rfl) ?_;cbv;rw[f1];by_cases c1:en<1
 ·have ae:=hk h 0 1 (Le.refl _) (by rw[hP,if_pos (.inl c1)]);clear hk hP;rw[decide_eq_true c1];cbv;exact ae
 rw[decide_eq_false c1];cbv;rw[f2];by_cases c2:en>60
 ·have ae:=hk h 0 1 (Le.refl _) (by rw[hP,if_pos (.inr c2)]);clear hk hP;rw[decide_eq_true c2];cbv;exact ae
 rw[decide_eq_false c2];rw[if_neg (by omega)]at hP;cbv;refine GG (s:=ef) rfl (by omega) (by decide) (fun nb h0 eJ hle ho=>?_);have hJ:I en (0,some ⟨nb,0,none⟩,0,en) h0:=by rw[bm];exact⟨0,[],⟨rfl⟩,Nat.zero_le _,rfl,hle,ho.buf eJ rfl,rfl,hR⟩
 clear ho hR;cbv;refine aX.go (G:=Int×(Option Addr×Nat×Nat)) (fun g=>[(24,.v (.int .i64 g.1)),(6,.v (.slice g.2.1 g.2.2.1 g.2.2.2))]) (fun _=>[]) (fun m g h'=>I m g h') en (0,some ⟨nb,0,none⟩,0,en) ⟨?_,?_,?_⟩ hJ ?_
 ·cbv
 ·cbv
 ·cbv
 ·intro m g h1 hI;rw[bm]at hI;cbv;obtain⟨i,l,hg,hi,hm,l1,ba,Jg,he⟩:=hI;obtain⟨z,ab,an,ac⟩:=g;have hg:aO z i:=hg;have ba:cS 3 ef h h1 (.slice ab an ac) l:=ba;have Jq:=ba.sl.len;have f3:A .aD .lss z (A .nat en)=decide (i<en):=hg.gK (aO.nat en);rw[f3];by_cases aG:i<en
  ·obtain⟨n,Bl⟩:=aE (xs:=ex) (i:=i) (by omega);have hd:ex.drop i=n::ex.drop (i+1):=by obtain⟨h1,h2⟩:=List.getElem?_eq_some_iff.1 Bl;rw[List.drop_eq_getElem_cons h1,h2]
   rw[hd,ja]at he;have cT:eb.isSome=true/\0<=z/\z<(en:Int):=⟨qe.bF (by omega),hg.ix aG⟩;have ir:=hg.eq;have dS:=hg.succ (A:=A) (by omega);have kC:en-(i+1)<m:=by omega
   have dc:∀a b3 m3 c3 h3,eY cols (ex.drop (i+1)) (l++[a])=R->cS 3 ef h h3 (.slice b3 m3 c3) (l++[a])->Le h h3->I (en-(i+1)) (A .bu .add .i64 z 1,b3,m3,c3) h3:=fun a b3 m3 c3 h3 e3 nk l3=>by
    rw[bm];exact⟨i+1,_,dS,aG,rfl,l3,nk,by rw[List.length_append,List.length_singleton,Jg],e3⟩
   have xP:aO z l.length:=by rw[Jg];exact hg
   have Av:=hn n (List.mem_of_getElem? Bl);have vp:an+1<=2^39:=by omega
   clear bm hJ hd dS;rw[decide_eq_true aG];cbv;refine⟨cT,?_⟩;cbv;refine(qe.mono (l1.t _)).load Bl ir (fun cs aF=>?_);obtain⟨op,a,b,⟨vk,vn,vs⟩,name⟩:=n;have aF:cs=[.int .i64 op,.int .i64 a,.int .i64 b,.int .i64 vk,.int .i64 vn,.string vs,.string name]:=aF;subst aF;cbv;refine Td (n:=⟨op,a,b,⟨vk,vn,vs⟩,name⟩) Av hc ba.sl (qc.mono (l1.t _)) xP (fun h2 y e l2 hy=>?_);have fe:A .aD .neq e 0=decide (e≠0):=aC A ..;rw[<-hy]at he;have he:(if e≠0 then(l,e)else eY cols (ex.drop (i+1)) (l++[y]))=R:=he;clear hy;by_cases h0:e=0
   ·rw[if_neg (fun g=>g h0)]at he;have dc:=fun b3 m3 c3 h3=>dc y b3 m3 c3 h3 he;clear hk hP he;cbv;rw[fe,decide_eq_false (fun g=>g h0)];cbv;intro n2 h3 g2 e2;have l3:Le h2 h3:=by rw[e2];exact Le.set g2
    have v2:Sl 3 ef h3 (.slice (some ⟨n2,0,none⟩) 1 1) [y]:=bX (s:=ef) ((congrFun e2 n2).trans ah) rfl;cbv;refine(ba.mono ((l2.trans l3).t _)).append v2 (by decide) rfl (by decide) vp (l1.trans (l2.trans l3)) (fun m3 b3 c3 h4 Va l4 t3 k3 nk=>?_);have Cx:=dc b3 m3 c3 h4 nk l4;clear dc t3 k3 nk;cbv;refine⟨en-(i+1),(_,_,_,_),kC,⟨?_,?_,?_⟩,Cx⟩
    ·cbv
    ·cbv
    ·cbv
   ·rw[if_pos h0]at he;rw[<-he]at hP;have hP:D=if e≠0 then(0,e)else(rB l,0):=hP
    rw[if_pos h0]at hP;have ae:=hk h2 0 e (l1.trans l2) hP.symm;clear hk hP he dc;cbv;rw[fe,decide_eq_true h0];cbv;exact ae
  ·have jA:i=en:=by omega
   rw[List.drop_of_length_le (by omega)]at he;have he:(l,0)=R:=he;rw[<-he]at hP;have hP:D=(rB l,0):=hP;obtain⟨x,hx⟩:=aE (xs:=l) (i:=i-1) (by omega);rw[DN hx (by omega)]at hP;have ae:=hk h1 x 0 l1 hP.symm;have cW:=(aO.nat (A:=A) an).sub (A:=A) (⟨rfl⟩:aO 1 1) (by omega) (by omega);have ir:=cW.eq;have cT:ab.isSome=true/\0<=A .bu .sub .i64 (A .nat an) 1/\A .bu .sub .i64 (A .nat an) 1<(an:Int):=⟨ba.sl.bF (by omega),cW.ix (by omega)⟩;have hx:l[an-1]? =some x:=by rw[Jq,Jg];exact hx
   clear bm hJ hk hP he cW;rw[decide_eq_false aG];cbv;refine⟨cT,?_⟩;cbv;refine ba.sl.load hx ir (fun cs aF=>?_);have aF:cs=[.int .i64 x]:=aF;subst aF;cbv;exact ae
theorem pg{l:List cR}{a:Int}{x:cR}{i:Nat}(h:l[i]? =some x)(ha:a=(i:Int)):oH l a=x:=by subst ha;unfold oH;rw[Int.toNat_natCast,h];rfl
theorem SS{n:Nd}(hn:Nm n.name){l:List cR}{cols:List bS}(hc:∀c∈cols,Nm c.name){r:Row}{h:ad}{lb:Option Addr}{ln lc:Nat}(ql:Sl 61 aY h (.slice lb ln lc) l)
 {cb:Option Addr} {cn cc:Nat} (qc:Sl 165 bp h (.slice cb cn cc) cols) {rb:Option Addr} {rn rc:Nat} (qr:Sl 61 aY h (.slice rb rn rc) r)
 (YA:bW n.op>=0) (ba:bW n.op>0->0<=n.a/\n.a<l.length) (bb:bW n.op>1->0<=n.b/\n.b<l.length) (bf:n.op=2->(dp n.name cols).2=0)
 (hl:∀v∈l,lV v.n=true) {R:Value->ad->Prop} {K:List PanicEntry->ad->Prop}
 (h1:∀h' w v,Le h h'->mW n l cols r=some w->v=w.v->R v h') (h2:∀h',Le h h'->mW n l cols r=none->K DC h'):
 N1 247 [n.vv,.slice lb ln lc,.slice cb cn cc,.slice rb rn rc] h R K:=by
 obtain⟨A,hA⟩:=Ar.ex;have ym:=ql.len;have hrn:=qr.len;have hP:mW n l cols r=if n.op=1 then some n.v
  else if n.op=2 then(match dp n.name cols with
   | (c,_)=>some (oH r c))
  else if bW n.op=1 then jx n.op (oH l n.a) (oH l n.a)else jx n.op (oH l n.a) (oH l n.b):=rfl
 obtain⟨op,a,b,v,name⟩:=n;have dk:=py op;replace hn:Nm name:=hn;replace YA:bW op>=0:=YA;replace ba:bW op>0->0<=a/\a<l.length:=ba;replace bb:bW op>1->0<=b/\b<l.length:=bb;replace bf:op=2->(dp name cols).2=0:=bf;generalize mW ⟨op,a,b,v,name⟩ l cols r=D at *;replace hP:D=if op=1 then some v
  else if op=2 then(match dp name cols with
   | (c,_)=>some (oH r c))
  else if bW op=1 then jx op (oH l a) (oH l a)else jx op (oH l a) (oH l b):=hP
 have f1:A .aD .eql op 1=decide (op=1):=av A ..;have f2:A .aD .eql op 2=decide (op=2):=av A ..;have lu:∀a:Int,0<=a/\a<l.length->∃x,l[a.toNat]? =some x/\a=(a.toNat:Int)/\lV x.n=true/\(lb.isSome=true/\0<=a/\a<(ln:Int)):=fun a h0=>by
  obtain⟨x,hx⟩:=aE (xs:=l) (i:=a.toNat) (by omega);exact⟨x,hx,by omega,hl x (List.mem_of_getElem? hx),ql.bF (by omega),by omega,by omega⟩
 obtain⟨vk,vn,vs⟩:=v;refine gI A (kO Ww.aw Ww.aZ xu [] (fun c _ h=>K c h)) Tryz.func247 rfl (by kernel_rfl) (fun _ _ _ q=>q) ?_;rcases dk with ⟨c0,c1⟩ | ⟨c0,c1⟩ | ⟨c0,c1⟩ | ⟨c0,c1⟩
 ·by_cases d1:op=1
  ·rw[if_pos d1]at hP;have ae:=h1 h ⟨vk,vn,vs⟩ _ (Le.refl _) hP rfl;clear h1 h2 hP lu;cbv;rw[f1,decide_eq_true d1];cbv;exact ae
  ·have d2:op=2:=by omega
   rw[if_neg d1,if_pos d2]at hP;have bf:=bf d2;clear h2 lu ba bb;cbv;rw[f1,decide_eq_false d1];cbv;rw[f2,decide_eq_true d2];cbv;refine NM hn hc qc (fun h3 y e l3 hy hb=>?_);rw[hy]at hP bf;have hP:D=some (oH r y):=hP;have bf:e=0:=bf;have hb:=hb bf;have fy:A .aD .geq y (A .nat rn)=decide (y>=(rn:Int)):=by rw[bQ A,hA.nat];rfl
   by_cases Hh:y>=(rn:Int)
   ·have e0:oH r y=v0:=by unfold oH;rw[List.getElem?_eq_none (by omega)];rfl
    rw[e0]at hP;have ae:=h1 h3 v0 _ l3 hP rfl;clear h1 hP;rw[decide_eq_true Hh]at fy;cbv;rw[fy];cbv;exact ae
   ·obtain⟨x,hx⟩:=aE (xs:=r) (i:=y.toNat) (by omega);have RH:y=(y.toNat:Int):=by omega
    rw[pg hx RH]at hP;have cT:rb.isSome=true/\0<=y/\y<(rn:Int):=⟨qr.bF (by omega),by omega,by omega⟩;have ae:=h1 h3 x _ l3 hP rfl;clear h1 hP;rw[decide_eq_false Hh]at fy;cbv;rw[fy];cbv;refine⟨cT,?_⟩;cbv;refine(qr.mono (l3.t _)).load hx RH (fun cs aF=>?_);obtain⟨xk,xn,xs⟩:=x;have aF:cs=[.int .i64 xk,.int .i64 xn,.string xs]:=aF;subst aF;cbv;exact ae
 ·skip;rw[if_neg (by omega),if_neg (by omega),if_pos c0]at hP;obtain⟨x,hx,zo,Hl,xR⟩:=lu a (ba (by omega));rw[pg hx zo]at hP;have r1:∀h' w v,Le h h'->jx op x x=some w->v=w.v->R v h':=fun h' w v l e hv=>h1 h' w v l (hP.trans e) hv;have r2:∀h',Le h h'->jx op x x=none->K DC h':=fun h' l e=>h2 h' l (hP.trans e);clear h1 h2 hP lu;cbv;rw[f1,decide_eq_false (by omega:¬op=1)];cbv;rw[f2,decide_eq_false (by omega:¬op=2)];cbv;refine AZ op (fun p hp=>?_);rw[c0]at hp;subst hp;cbv;rw[(show A .aD .eql 1 1=true from by rw[av A];rfl)];cbv;refine⟨xR,?_⟩;cbv;refine ql.load hx zo (fun cs aF=>?_);obtain⟨xk,xn,xs⟩:=x;have aF:cs=[.int .i64 xk,.int .i64 xn,.string xs]:=aF;subst aF;cbv;refine⟨xR,?_⟩;cbv;refine ql.load hx zo (fun cs aF=>?_);have aF:cs=[.int .i64 xk,.int .i64 xn,.string xs]:=aF;subst aF;cbv;refine MW op ⟨xk,xn,xs⟩ ⟨xk,xn,xs⟩ Hl Hl (fun h3 w v l3 hw hv=>?_) (fun h3 l3 hw=>?_)
  ·have ae:=r1 h3 w v l3 hw hv;obtain⟨wk,wn,ws⟩:=w;subst hv;clear r1 r2;cbv;exact ae
  ·have ae:=r2 h3 l3 hw;clear r1 r2;cbv;exact ae
 ·skip;rw[if_neg (by omega),if_neg (by omega),if_neg (by omega)]at hP;obtain⟨x,hx,zo,Hl,xR⟩:=lu a (ba (by omega));rw[pg hx zo]at hP;obtain⟨y,hy,M7,hyi,Qe⟩:=lu b (bb (by omega));rw[pg hy M7]at hP;have r1:∀h' w v,Le h h'->jx op x y=some w->v=w.v->R v h':=fun h' w v l e hv=>h1 h' w v l (hP.trans e) hv;have r2:∀h',Le h h'->jx op x y=none->K DC h':=fun h' l e=>h2 h' l (hP.trans e);clear h1 h2 hP lu;cbv;rw[f1,decide_eq_false (by omega:¬op=1)];cbv;rw[f2,decide_eq_false (by omega:¬op=2)];cbv;refine AZ op (fun p hp=>?_);rw[c0]at hp;subst hp;cbv;rw[(show A .aD .eql 2 1=false from by rw[av A];rfl)];cbv;refine⟨xR,?_⟩;cbv;refine ql.load hx zo (fun cs aF=>?_);obtain⟨xk,xn,xs⟩:=x;have aF:cs=[.int .i64 xk,.int .i64 xn,.string xs]:=aF;subst aF;cbv;refine⟨Qe,?_⟩;cbv;refine ql.load hy M7 (fun cs aF=>?_);obtain⟨yk,yn,ys⟩:=y;have aF:cs=[.int .i64 yk,.int .i64 yn,.string ys]:=aF;subst aF;cbv;refine MW op ⟨xk,xn,xs⟩ ⟨yk,yn,ys⟩ Hl hyi (fun h3 w v l3 hw hv=>?_) (fun h3 l3 hw=>?_)
  ·have ae:=r1 h3 w v l3 hw hv;obtain⟨wk,wn,ws⟩:=w;subst hv;clear r1 r2;cbv;exact ae
  ·have ae:=r2 h3 l3 hw;clear r1 r2;cbv;exact ae
 ·omega
section
variable {F:Fence}{n:Nat}{P:Program}{ops:Array Oper}{Q:Exit->Act->List Frame->World->Prop}{a:Act}{cs cs':List Frame}{w:World}{i:Nat}{rest:List Nat}{o:Oper}
theorem Gl(hi:ops[i]? =some o)(EW:∀f,o.about P w a.eval=some f->F.fn f)(hw:Region.wanted o (yielded ops a.tmps)=true)(hr:(execOp a.eval o).run P w=.ok .recover w)(hc:recoverD cs=none)
 (h:wpOpsSIn F n P ops Q rest (a.put o.dst .nilIface) cs w):wpOpsSIn F n P ops Q (i::rest) a cs w:=by
 simp only[wpOpsSIn,hi,hw,hr,hc,if_true];exact⟨EW,h⟩
theorem Gk{v:Value}(hi:ops[i]? =some o)(EW:∀f,o.about P w a.eval=some f->F.fn f)(hw:Region.wanted o (yielded ops a.tmps)=true)(hr:(execOp a.eval o).run P w=.ok .recover w)(hc:recoverD cs=some (v,cs'))
 (h:wpOpsSIn F n P ops Q rest (a.put o.dst v) cs' w):wpOpsSIn F n P ops Q (i::rest) a cs w:=by
 simp only[wpOpsSIn,hi,hw,hr,hc,if_true];exact⟨EW,h⟩
theorem fN{v:Value}(hi:ops[i]? =some o)(EW:∀f,o.about P w a.eval=some f->F.fn f)(hw:Region.wanted o (yielded ops a.tmps)=true)(hr:(execOp a.eval o).run P w=.ok (.value v) w)
 (h:wpOpsSIn F n P ops Q rest (a.put o.dst v) cs w):wpOpsSIn F n P ops Q (i::rest) a cs w:=by
 simp only[wpOpsSIn,hi,hw,hr,if_true];exact⟨EW,h⟩
end
theorem B1(A:Ar)[aP A]{P:Program}{T:aQ}(hT:dx P T){fn:Func}{rest:Code}(ho:da T rest=true){β:Nat->Nat}{env:Env}{h:ad}{a:Act}{w:World}{n:Nat}{c₀:Frame}{u':FrameMode}{cs:List Frame}{R:Value->ad->Prop}
 (hs:bZ [] h w β env [] h a w) (pO:∀c s h,¬T.kp c s h)
 (hx:sx A T (fun _=>P) rest (fun e env L h'=>match e with
  | .exit _=>False
  |_=>ll T env L h' fn.results.toList (fun l=>iZ l (fun v=>R v h'))) env [] h):
 rest.wpSIn Fence.wide n P (bodyPostS P fn c₀ cs fun e u w'=>u=u'/\∃v h',e=.returned v/\R v h'/\aR h w h' w') a ({ c₀ with mode:=u' }::cs) w:=by
 refine wpSIn_of_wpIn rfl ?_;refine eV (A:=A) (ro:=none) hT rest ho hs hx (jB.none pO) fun e bJ L' h' kY a' w' h1 h2=>?_;have fin:ll T bJ L' h' fn.results.toList (fun l=>iZ l (fun v=>R v h'))->a'.defers=[]/\∃u,{ c₀ with mode:=u' }::cs={ c₀ with mode:=u }::cs/\∃v,(results fn a'.tmps).run P w'=.ok v w'/\(u=u'/\∃v1 h1,Ending.returned v=.returned v1/\R v1 h1/\aR h w h1 w'):=fun hr=>by
  obtain⟨v,h3,h4,h5⟩:=nI hT h2 hr;exact⟨h2.defers,u',rfl,v,h3,rfl,v,h',rfl,h4,h5⟩
 cases e with
 |normal=>exact fin h1
 |ret=>exact fin h1
 |exit id=>exact h1.elim
theorem JK(va ea:Value)(h:ad):X2 246 [va,ea] h (fun _ h'=>h'=h):=by
 refine⟨fun w hw n=>?_⟩;refine callsDIn_of_wpSIn (show Tryz.prog.funcs[246]? =some Tryz.f246 from Tryz.func246) rfl trivial fun c₀ cs hm=>?_;refine wpSIn_seq ?_;refine wpSIn_region ?_;have pJ:recoverD (c₀::cs)=none:=by simp only[recoverD,hm]
 show wpOpsSIn _ _ _ _ _ [0,1,2,3,4,5,6] _ _ _;refine Gl rfl (fun _ _=>trivial) rfl rfl pJ ?_;refine fN (v:=.tuple #[.int .i64 0,.bool false]) rfl (fun _ _=>trivial) rfl (by kernel_rfl) ?_;refine fN (v:=.tuple #[.int .i64 0,.bool false]) rfl (fun _ _=>trivial) rfl (by kernel_rfl) ?_;refine fN (v:=.int .i64 0) rfl (fun _ _=>trivial) rfl (by kernel_rfl) ?_;refine fN (v:=.bool false) rfl (fun _ _=>trivial) rfl (by kernel_rfl) ?_;refine fN (v:=.int .i64 0) rfl (fun _ _=>trivial) rfl (by kernel_rfl) ?_;refine fN (v:=.bool false) rfl (fun _ _=>trivial) rfl (by kernel_rfl) ?_;obtain⟨A,hA⟩:=Ar.ex;have s0:=fW (f:=246) (fn:=Tryz.f246) (args:=[va,ea]) hw;have s1:=s0.put (d:=some 5) (x:=.v .nilIface) (v:=.nilIface) rfl;have s2:=s1.put (d:=some 6) (x:=.v (.tuple #[.int .i64 0,.bool false])) (v:=.tuple #[.int .i64 0,.bool false]) rfl;have s3:=s2.put (d:=some 4) (x:=.v (.tuple #[.int .i64 0,.bool false])) (v:=.tuple #[.int .i64 0,.bool false]) rfl;have s4:=s3.put (d:=some 7) (x:=.v (.int .i64 0)) (v:=.int .i64 0) rfl;have s5:=s4.put (d:=some 8) (x:=.v (.bool false)) (v:=.bool false) rfl;have s6:=s5.put (d:=some 2) (x:=.v (.int .i64 0)) (v:=.int .i64 0) rfl;have s7:=s6.put (d:=some 3) (x:=.v (.bool false)) (v:=.bool false) rfl;have hc0:c₀={ c₀ with mode:=.returning }:=by rw[<-hm]
 have key:=B1 (n:=n) (c₀:=c₀) (cs:=cs) (u':=.returning) (fn:=Tryz.f246) (R:=fun _ h'=>h'=h) A (ar MA.aw MA.aZ) (rest:=?_) ?_ s7 (fun _ _ _ q=>q) ?_
 ·rw[<-hc0]at key;exact key
 ·kernel_rfl
 ·cbv
theorem JJ{vb eb:Nat}{h:ad}{c1 c2 c3 c4:Value}(g1:h vb=some (.cells #[c1,c2,c3] 61 (0,0)))(g2:h eb=some (.cells #[c4] 35 (0,0)))(bU:vb≠eb){R:ad->Prop}
 (hR:R (aV (aV h vb (.cells #[.int .i64 0,.int .i64 0,.string ⟨#[]⟩] 61 (0,0))) eb (.cells #[.int .i64 11] 35 (0,0)))):
 X1 (fun _=>Tryz.prog) 246 [.pointer (some ⟨vb,0,none⟩),.pointer (some ⟨eb,0,none⟩)] (.iface 35 (.int .i64 11)) h R:=by
 refine⟨fun w hw n=>?_⟩;refine callsDIn_of_wpSIn (show Tryz.prog.funcs[246]? =some Tryz.f246 from Tryz.func246) rfl trivial fun c₀ cs hm=>?_;refine wpSIn_seq ?_;refine wpSIn_region ?_;have pJ:recoverD (c₀::cs)=some (.iface 35 (.int .i64 11),{ c₀ with mode:=.panicking [{ v:=.iface 35 (.int .i64 11),recovered:=true }] }::cs):=by simp only[recoverD,hm]
 show wpOpsSIn _ _ _ _ _ [0,1,2,3,4,5,6] _ _ _;refine Gk rfl (fun _ _=>trivial) rfl rfl pJ ?_;refine fN (v:=.tuple #[.int .i64 11,.bool true]) rfl (fun _ _=>trivial) rfl (by kernel_rfl) ?_;refine fN (v:=.tuple #[.int .i64 11,.bool true]) rfl (fun _ _=>trivial) rfl (by kernel_rfl) ?_;refine fN (v:=.int .i64 11) rfl (fun _ _=>trivial) rfl (by kernel_rfl) ?_;refine fN (v:=.bool true) rfl (fun _ _=>trivial) rfl (by kernel_rfl) ?_;refine fN (v:=.int .i64 11) rfl (fun _ _=>trivial) rfl (by kernel_rfl) ?_;refine fN (v:=.bool true) rfl (fun _ _=>trivial) rfl (by kernel_rfl) ?_;obtain⟨A,hA⟩:=Ar.ex;have s0:=fW (f:=246) (fn:=Tryz.f246) (args:=[.pointer (some ⟨vb,0,none⟩),.pointer (some ⟨eb,0,none⟩)]) hw;have s1:=s0.put (d:=some 5) (x:=.v (.iface 35 (.int .i64 11))) (v:=.iface 35 (.int .i64 11)) rfl;have s2:=s1.put (d:=some 6) (x:=.v (.tuple #[.int .i64 11,.bool true])) (v:=.tuple #[.int .i64 11,.bool true]) rfl;have s3:=s2.put (d:=some 4) (x:=.v (.tuple #[.int .i64 11,.bool true])) (v:=.tuple #[.int .i64 11,.bool true]) rfl;have s4:=s3.put (d:=some 7) (x:=.v (.int .i64 11)) (v:=.int .i64 11) rfl;have s5:=s4.put (d:=some 8) (x:=.v (.bool true)) (v:=.bool true) rfl;have s6:=s5.put (d:=some 2) (x:=.v (.int .i64 11)) (v:=.int .i64 11) rfl;have s7:=s6.put (d:=some 3) (x:=.v (.bool true)) (v:=.bool true) rfl;have key:=B1 (n:=n) (c₀:=c₀) (cs:=cs) (u':=.panicking [{ v:=.iface 35 (.int .i64 11),recovered:=true }]) (fn:=Tryz.f246) (R:=fun _ h'=>R h') A (ar MA.aw MA.aZ) (rest:=?_) ?_ s7 (fun _ _ _ q=>q) ?_
 ·exact key
 ·kernel_rfl
 ·cbv;refine kP g1 (by simp) (fun h1 e1=>?_);have E0:h1 eb=some (.cells #[c4] 35 (0,0)):=by rw[e1,aU (Ne.symm bU)];exact g2
  have hR:R (aV h1 eb (.cells #[.int .i64 11] 35 (0,0))):=by rw[e1];exact hR
  clear g1 g2 e1;cbv;refine kP E0 (by simp) (fun h2 e2=>?_);subst e2;cbv;exact hR
def Ro(cols:List bS)(n:Nd)(i:Nat):Prop:=bW n.op>=0/\(bW n.op>0->0<=n.a/\n.a<i)/\(bW n.op>1->0<=n.b/\n.b<i)/\(n.op=2->(dp n.name cols).2=0)
theorem GQ{n:Nd}{l:List Int}{cols:List bS}{k:Int}(h:oB n l cols=(k,0)):Ro cols n l.length:=by
 unfold oB at h;by_cases c:bW n.op<0\/(bW n.op>0/\(n.a<0\/n.a>=l.length))\/(bW n.op>1/\(n.b<0\/n.b>=l.length))
 ·rw[if_pos c]at h;cases h
 ·rw[if_neg c]at h;refine⟨by omega,fun g=>by omega,fun g=>by omega,fun g=>?_⟩;rw[if_neg (by omega),if_pos g]at h;generalize dp n.name cols=r at *;obtain⟨c,e⟩:=r;have h:(if e≠0 then(0,e)else(match cols[c.toNat]? with
   |some c=>(c.kind,0)
   |none=>(0,0)))=(k,0):=h
  by_cases he:e=0
  ·exact he
  ·rw[if_pos he]at h;cases h;exact rfl
theorem wo{cols:List bS}:∀ {ex:List Nd} {l m:List Int},eY cols ex l=(m,0)->∀i n,ex[i]? =some n->Ro cols n (l.length+i)
 | [],_,_,_,i,n,hn=>by simp at hn
 |x::r,l,m,h,i,n,hn=>by
  rw[ja]at h;cases hk:oB x l cols with
  |mk k e=>
   rw[hk]at h;have h:(if e≠0 then(l,e)else eY cols r (l++[k]))=(m,0):=h;by_cases he:e=0
   ·subst he;rw[if_neg (fun g=>g rfl)]at h;cases i with
    |zero=>simp at hn;subst hn;exact GQ hk
    |succ i=>have:=wo h i n (by simpa using hn);rw[List.length_append,List.length_singleton]at this;rw[show l.length+(i+1)=l.length+1+i by omega];exact this
   ·rw[if_pos he]at h;cases h;exact absurd rfl he
theorem I3{ex:List Nd}{cols:List bS}{k:Int}(h:fK ex cols=(k,0)):ex.length>=1/\ex.length<=60/\∀i n,ex[i]? =some n->Ro cols n i:=by
 unfold fK at h;by_cases c:ex.length<1\/ex.length>60
 ·rw[if_pos c]at h;cases h
 ·rw[if_neg c]at h;refine⟨by omega,by omega,?_⟩;cases hk:eY cols ex []with
  |mk l f=>
   rw[hk]at h;have h:(if f≠0 then((0:Int),f)else(rB l,0))=(k,0):=h;by_cases hf:f=0
   ·subst hf;intro i n hn;have:=wo hk i n hn;simpa using this
   ·rw[if_pos hf]at h;cases h;exact absurd rfl hf
theorem mV(cols:List bS)(r:Row)(n:Nd)(e:List Nd)(l:List cR):fY cols r (n::e) l=match mW n l cols r with
 |some v=>fY cols r e (l++[v])
 |none=>none:=rfl
theorem DM{l:List cR}{i:Nat}{x:cR}(h:l[i]? =some x)(hi:l.length=i+1):oA l=x:=by unfold oA;rw[List.getLast?_eq_getElem?,hi];simp only[Nat.add_sub_cancel];rw[h];rfl
def j8(v:cR):Prop:=lV v.n=true
theorem vG(b:Bool):j8 (bC b):=by cases b<;>(show lV _=true;decide)
theorem mg:j8 v0:=by show lV _=true;decide
theorem Ki{x:Int}{w:cR}(h:oP x=some w):j8 w:=by
 unfold oP at h;split at h
 ·rename_i g;cases h;exact g
 ·cases h
theorem Gf{op:Int}{a b w:cR}(ha:j8 a)(hb:j8 b)(h:jx op a b=some w):j8 w:=by
 unfold jx at h;repeat' (split at h)
 all_goals first
  | (cases h;exact vG _)
  | (cases h;exact mg)
  | (cases h
     unfold lP;repeat' split
     all_goals first
      |exact ha
      |exact hb
      |exact vG _
      |exact mg)
  | (unfold cV at h
     repeat' (split at h)
     all_goals exact Ki h)
theorem AF{l:List cR}(hl:∀v∈l,j8 v)(a:Int):j8 (oH l a):=by
 unfold oH;cases h:l[a.toNat]? with
 |none=>exact mg
 |some x=>exact hl x (List.mem_of_getElem? h)
theorem yR{n:Nd}{l:List cR}{cols:List bS}{r:Row}{w:cR}(hn:j8 n.v)(hl:∀v∈l,j8 v)(hr:∀v∈r,j8 v)(h:mW n l cols r=some w):j8 w:=by
 unfold mW at h;split at h
 ·cases h;exact hn
 ·split at h
  ·cases h;exact AF hr _
  ·split at h<;>exact Gf (AF hl _) (AF hl _) h
theorem AD{ex:List Nd}(hn:∀n∈ex,Nm n.name/\j8 n.v){cols:List bS}(hc:∀c∈cols,Nm c.name){r:Row}(hr:∀v∈r,j8 v){h:ad}{eb:Option Addr}{en ec:Nat}(qe:Sl 325 cP h (.slice eb en ec) ex)
 {cb:Option Addr} {cn cc:Nat} (qc:Sl 165 bp h (.slice cb cn cc) cols) {rb:Option Addr} {rn rc:Nat} (qr:Sl 61 aY h (.slice rb rn rc) r) {k:Value->ad->Prop}
 (hk:∀h' v e w,Le h h'->(v,e)=eI ex cols r->w=v.v->k (.tuple #[w,.int .i64 e]) h'):
 Ct 163 [.slice eb en ec,.slice cb cn cc,.slice rb rn rc] h k:=by
 obtain⟨A,hA⟩:=Ar.ex;have P8:=qe.len;have hP:eI ex cols r=match fK ex cols with
  | (_,f)=>if f≠0 then(v0,f)else match fY cols r ex []with
   |some l=>(oA l,0)
   |none=>(v0,11):=rfl
 generalize eI ex cols r=D at *;refine Ee A (kO Xo.aw Xo.aZ xu [] (fun _ _ _=>False)) Tryz.func163 rfl (fun _ _=>by kernel_rfl) (by kernel_rfl) ?_;cbv;intro vb h1 gv e1;have g1:h1 vb=some (.cells #[.int .i64 0,.int .i64 0,.string ⟨#[]⟩] 61 (0,0)):=by rw[e1];exact ah
 have l1:Le h h1:=by rw[e1];exact Le.set gv
 cbv;intro BG h2 ge e2;have bU:vb≠BG:=fun e=>by rw[<-e,g1]at ge;cases ge
 have l2:Le h1 h2:=by rw[e2];exact Le.set ge
 have g2:h2 vb=some (.cells #[.int .i64 0,.int .i64 0,.string ⟨#[]⟩] 61 (0,0)):=l2 _ _ g1;have g3:h2 BG=some (.cells #[.int .i64 0] 35 (0,0)):=by rw[e2];exact ah
 have lT:=l1.trans l2;have ge0:h BG=none:=by
  cases hh:h BG with
  |none=>rfl
  |some o=>rw[l1 _ _ hh]at ge;cases ge
 have ud:∀h' (v:cR) (e:Int),Le h2 h'->(v,e)=D->∀h5,h5=aV (aV h' vb (.cells #[.int .i64 v.k,.int .i64 v.n,.string v.s] 61 (0,0))) BG (.cells #[.int .i64 e] 35 (0,0))->
  Le h h5:=fun h' v e l _ h5 e5 b o hb=>by
  rw[e5,aU (fun e=>by rw[e,ge0]at hb;cases hb),aU (fun e=>by rw[e,gv]at hb;cases hb)];exact l _ _ (lT _ _ hb)
 clear e1 e2 l1 l2 g1 ge;cbv;refine I4 (fun n hh=>(hn n hh).1) hc (qe.mono (lT.t _)) (qc.mono (lT.t _)) (fun h3 kd e l3 eM=>?_);have fe:A .aD .neq e 0=decide (e≠0):=aC A ..;rw[<-eM]at hP;replace hP:D=if e≠0 then(v0,e)else match fY cols r ex []with
  |some l=>(oA l,0)
  |none=>(v0,11):=hP
 by_cases h0:e≠0
 ·rw[if_pos h0]at hP;have E0:=l3 _ _ g2;have Jw:=l3 _ _ g3;have hL:=ud h3 v0 e l3 hP.symm;have hk:=fun h' l=>hk h' v0 e _ l hP.symm rfl;clear hP eM ud g2 g3;cbv;rw[fe,decide_eq_true h0];cbv;refine kP E0 (by simp) (fun h4 e4=>?_);have g4:h4 BG=some (.cells #[.int .i64 0] 35 (0,0)):=by rw[e4,aU (Ne.symm bU)];exact Jw
  cbv;refine kP g4 (by simp) (fun h5 e5=>?_);have ae:=hk h5 (hL h5 (by rw[e5,e4];rfl));have g5:h5 vb=some (.cells #[.int .i64 0,.int .i64 0,.string ⟨#[]⟩] 61 (0,0)):=by rw[e5,aU bU,e4];exact ah
  have g6:h5 BG=some (.cells #[.int .i64 e] 35 (0,0)):=by rw[e5];exact ah
  clear hk hL e4 e5 g4 E0 Jw;cbv;refine ay g5 rfl rfl ?_;cbv;refine ay g6 rfl rfl ?_;cbv;exact ae
 rw[if_neg h0]at hP;have e0:e=0:=Decidable.not_not.1 h0;subst e0;obtain⟨hx1,hx2,K3⟩:=I3 eM.symm;clear eM;obtain⟨R,hR⟩:∃R,fY cols r ex []=R:=⟨_,rfl⟩;rw[hR]at hP;obtain⟨I,bm⟩:∃I:Nat->Int×(Option Addr×Nat×Nat)->ad->Prop,∀m g h',I m g h'=∃i l,aO g.1 i/\i<=en/\m=en-i/\Le h3 h'/\cS 61 aY h3 h' (.slice g.2.1 g.2.2.1 g.2.2.2) l/\l.length=i/\(∀v∈l,j8 v)/\fY cols r (ex.drop i) l=R:=⟨_,fun _ _ _=>rfl⟩;have hJ:I en (0,none,0,0) h3:=by rw[bm];exact⟨0,[],⟨rfl⟩,Nat.zero_le _,rfl,Le.refl _,cS.nil,rfl,(fun _ hh=>by cases hh),hR⟩
 clear hR;cbv;rw[fe,decide_eq_false h0];cbv;refine aX.go (G:=Int×(Option Addr×Nat×Nat)) (fun g=>[(26,.v (.int .i64 g.1)),(10,.v (.slice g.2.1 g.2.2.1 g.2.2.2))]) (fun _=>[]) (fun m g h'=>I m g h') en (0,none,0,0) ⟨?_,?_,?_⟩ hJ ?_
 ·cbv
 ·cbv
 ·cbv
 ·intro m g h4 hI;rw[bm]at hI;cbv;obtain⟨i,l,hg,hi,hm,l4,ba,Jg,rF,he⟩:=hI;obtain⟨z,ab,an,ac⟩:=g;have hg:aO z i:=hg;have ba:cS 61 aY h3 h4 (.slice ab an ac) l:=ba;have Jq:=ba.sl.len;have f3:A .aD .lss z (A .nat en)=decide (i<en):=hg.gK (aO.nat en);have rD:=lT.trans (l3.trans l4);have rC:=l3.trans l4;rw[f3];by_cases aG:i<en
  ·obtain⟨n,Bl⟩:=aE (xs:=ex) (i:=i) (by omega);have hd:ex.drop i=n::ex.drop (i+1):=by obtain⟨h1,h2⟩:=List.getElem?_eq_some_iff.1 Bl;rw[List.drop_eq_getElem_cons h1,h2]
   rw[hd,mV]at he;have cT:eb.isSome=true/\0<=z/\z<(en:Int):=⟨qe.bF (by omega),hg.ix aG⟩;have ir:=hg.eq;have dS:=hg.succ (A:=A) (by omega);have kC:en-(i+1)<m:=by omega
   have dc:∀a b3 m3 c3 Qm,j8 a->fY cols r (ex.drop (i+1)) (l++[a])=R->cS 61 aY h3 Qm (.slice b3 m3 c3) (l++[a])->Le h3 Qm->I (en-(i+1)) (A .bu .add .i64 z 1,b3,m3,c3) Qm:=fun a b3 m3 c3 Qm ia e3 nk l3'=>by
    rw[bm];exact⟨i+1,_,dS,aG,rfl,l3',nk,by rw[List.length_append,List.length_singleton,Jg],(by
     intro v hv;rcases List.mem_append.1 hv with hv|hv
     ·exact rF v hv
     ·rcases List.mem_cons.1 hv with hv|hv
      ·rw[hv];exact ia
      ·cases hv),e3⟩
   have Av:=hn n (List.mem_of_getElem? Bl);have jh:=K3 i n Bl;rw[<-Jg]at jh;have vp:an+1<=2^39:=by omega
   have Jf:R=none->(v0,11)=D:=fun e=>by rw[hP,e]
   clear bm hJ hd dS hP;rw[decide_eq_true aG];cbv;refine⟨cT,?_⟩;cbv;refine(qe.mono (rD.t _)).load Bl ir (fun cs aF=>?_);obtain⟨op,a,b,⟨vk,vn,vs⟩,name⟩:=n;have aF:cs=[.int .i64 op,.int .i64 a,.int .i64 b,.int .i64 vk,.int .i64 vn,.string vs,.string name]:=aF;subst aF;cbv;refine SS (n:=⟨op,a,b,⟨vk,vn,vs⟩,name⟩) Av.1 hc ba.sl (qc.mono (rD.t _)) (qr.mono (rD.t _)) jh.1 jh.2.1 jh.2.2.1 jh.2.2.2 rF (fun h5 w v l5 hw hv=>?_) (fun h5 l5 hw=>?_)
   ·have iw:=yR (n:=⟨op,a,b,⟨vk,vn,vs⟩,name⟩) Av.2 rF hr hw;rw[hw]at he;have he:fY cols r (ex.drop (i+1)) (l++[w])=R:=he;have dc:=fun b3 m3 c3 h3=>dc w b3 m3 c3 h3 iw he;obtain⟨wk,wn,ws⟩:=w;subst hv;clear hk he ud Jf;cbv;intro n2 h6 g6 e6;have l6:Le h5 h6:=by rw[e6];exact Le.set g6
    have v2:Sl 61 aY h6 (.slice (some ⟨n2,0,none⟩) 1 1) [⟨wk,wn,ws⟩]:=bX (s:=aY) ((congrFun e6 n2).trans ah) rfl;cbv;refine(ba.mono ((l5.trans l6).t _)).append v2 (by decide) rfl (by decide) vp (l4.trans (l5.trans l6)) (fun m3 b3 c3 h7 Va l7 t3 k3 nk=>?_);have Cx:=dc b3 m3 c3 h7 nk l7;clear dc t3 k3 nk;cbv;refine⟨en-(i+1),(_,_,_,_),kC,⟨?_,?_,?_⟩,Cx⟩
    ·cbv
    ·cbv
    ·cbv
   ·rw[hw]at he;have hD:=Jf he.symm;have GL:=rC.trans l5;have hL:=ud h5 v0 11 GL hD;have hk:=fun h' l=>hk h' v0 11 _ l hD rfl;have E0:=GL _ _ g2;have Jw:=GL _ _ g3;clear dc Jf ud he K3;refine⟨_,rfl,JJ E0 Jw bU ?_⟩;obtain⟨h6,e6⟩:∃h6,h6=aV (aV h5 vb (.cells #[.int .i64 0,.int .i64 0,.string ⟨#[]⟩] 61 (0,0))) BG (.cells #[.int .i64 11] 35 (0,0)):=⟨_,rfl⟩;have ae:=hk h6 (hL h6 e6);have g5:h6 vb=some (.cells #[.int .i64 0,.int .i64 0,.string ⟨#[]⟩] 61 (0,0)):=by rw[e6,aU bU];exact ah
    have g6:h6 BG=some (.cells #[.int .i64 11] 35 (0,0)):=by rw[e6];exact ah
    rw[<-e6];clear hk hL e6 E0 Jw;cbv;refine ay g5 rfl rfl ?_;cbv;refine ay g6 rfl rfl ?_;cbv;exact ae
  ·have jA:i=en:=by omega
   rw[List.drop_of_length_le (by omega)]at he;have he:some l=R:=he;rw[<-he]at hP;have hP:D=(oA l,0):=hP;obtain⟨x,hx⟩:=aE (xs:=l) (i:=i-1) (by omega);rw[DM hx (by omega)]at hP;have hL:=ud h4 x 0 rC hP.symm;have hk:=fun h' l=>hk h' x 0 _ l hP.symm rfl;have cW:=(aO.nat (A:=A) an).sub (A:=A) (⟨rfl⟩:aO 1 1) (by omega) (by omega);have ir:=cW.eq;have cT:ab.isSome=true/\0<=A .bu .sub .i64 (A .nat an) 1/\A .bu .sub .i64 (A .nat an) 1<(an:Int):=⟨ba.sl.bF (by omega),cW.ix (by omega)⟩;have hx:l[an-1]? =some x:=by rw[Jq,Jg];exact hx
   have E0:=rC _ _ g2;have Jw:=rC _ _ g3;clear bm hJ hP he cW ud K3;rw[decide_eq_false aG];cbv;refine⟨cT,?_⟩;cbv;refine ba.sl.load hx ir (fun cs aF=>?_);obtain⟨xk,xn,xs⟩:=x;have aF:cs=[.int .i64 xk,.int .i64 xn,.string xs]:=aF;subst aF;cbv;refine kP E0 (by simp) (fun h5 e5=>?_);have g4:h5 BG=some (.cells #[.int .i64 0] 35 (0,0)):=by rw[e5,aU (Ne.symm bU)];exact Jw
   cbv;refine kP g4 (by simp) (fun h6 e6=>?_);have ae:=hk h6 (hL h6 (by rw[e6,e5];rfl));have g5:h6 vb=some (.cells #[.int .i64 xk,.int .i64 xn,.string xs] 61 (0,0)):=by rw[e6,aU bU,e5];exact ah
   have g6:h6 BG=some (.cells #[.int .i64 0] 35 (0,0)):=by rw[e6];exact ah
   clear hk hL e5 e6 g4 E0 Jw;cbv;refine(JK _ _ h6).mono (fun v h7 e7=>?_);subst e7;cbv;refine ay g5 rfl rfl ?_;cbv;refine ay g6 rfl rfl ?_;cbv;exact ae
def cj(t:cA):List bS:=t.S.cols.map fun c=>⟨t.S.name++au [46]++c.name,c.kind,c.null⟩
def iV(e:List Nd)(cols:List bS)(want:Int):Int:=match fK e cols with
 | (k,f)=>if f=0/\k≠0/\k≠want then 3 else f
def aK(e:List Nd)(cols:List bS):Int:=if e.length=0 then 0 else iV e cols 1
def eA(e:List Nd)(cols:List bS)(r:Row):Bool×Int:=if e.length=0 then(true,0)else match eI e cols r with
 | (v,f)=>(decide (v.k=1)&&decide (v.n=1),f)
def cd{α:Type}(f:α->Int):List α->Int
 | []=>0
 |x::r=>if f x≠0 then f x else cd f r
def mP(cols:List bS)(r:Row):List (List Nd)->Row->Row×Int
 | [],l=>(l,0)
 |x::xs,l=>match eI x cols r with
  | (v,f)=>if f≠0 then([],f)else mP cols r xs (l++[v])
def bE(l:List (List Nd))(cols:List bS)(r:Row):Row×Int:=mP cols r l []
def dG(d:DB)(nm:ByteArray):cA:=(d.aB.find? fun t=>decide (t.S.name=nm)).getD ⟨⟨b0,[],0,false⟩,[]⟩
def nU(bT:List Nd)(cols:List bS)(f:Row->Row×Int):List Row->List Row×List Row->(List Row×List Row)×Int
 | [],p=>(p,0)
 |r::rs,p=>match eA bT cols r with
  | (is,e)=>if e≠0 then(p,e)else if is=false then nU bT cols f rs p else match f r with
   | (n,e)=>if e≠0 then((p.1++[r],p.2++[n]),e)else nU bT cols f rs (p.1++[r],p.2++[n])
def uA{α:Type}(f:DB->α->DB×Int):List α->DB->DB×Int
 | [],d=>(d,0)
 |x::r,d=>match f d x with
  | (d',e)=>if e≠0 then(d',e)else uA f r d'
def Ou(d:DB)(nm:ByteArray)(r:Row):cR:=oH r (dG d nm).S.key
def wY(s:Int)(nm:ByteArray):List Row->DB->DB×Int:=uA fun d r=>So d s nm (Ou d nm r)
def MT(s:Int)(nm:ByteArray):List Row->DB->DB×Int:=uA fun d r=>ff d s nm r
def cY(was:DB)(r:DB×Int):DB×List Row×Int:=if r.2≠0 then(was,[],r.2)else(r.1,[],0)
def iW(d:DB)(s:Int)(x:aA):DB×List Row×Int:=match ax d ⟨s,x.table,true⟩with
 | (d,e)=>if e≠0 then(d,[],e)else cY d (match bE x.exprs [] []with
  | (r,e)=>if e≠0 then(d,e)else ff d s x.table r)
def NN(cols:List bS)(nm:ByteArray):Int×Bool:=match sH cols nm 0 with
 |some k=>((k:Int),true)
 |none=>(0,false)
def B4(cols:List bS):List ByteArray->List Int->List Int×Int
 | [],l=>(l,0)
 |nm::r,l=>match NN cols nm with
  | (k,is)=>if is=false then(l,2)else if k∈l then(l,7)else B4 cols r (l++[k])
def CP(cols:List bS)(k:Int):Int:=match cols[k.toNat]? with
 |some c=>c.kind
 |none=>0
def A6(cols Fz:List bS):List (List Nd×Int)->Int
 | []=>0
 | (x,k)::r=>if iV x cols (CP Fz k)≠0 then iV x cols (CP Fz k)else A6 cols Fz r
def CE(t:cA)(x:aA):Int:=match B4 t.S.cols x.names []with
 | (pl,e)=>if e≠0 then e else if A6 (cj t) t.S.cols (x.exprs.zip pl)≠0 then A6 (cj t) t.S.cols (x.exprs.zip pl)else aK x.bT (cj t)
def MM(cols:List bS):List (cR×ByteArray)->Row->Row
 | [],r=>r
 | (v,nm)::l,r=>MM cols l (r.set (NN cols nm).1.toNat v)
def HS(t:cA)(x:aA)(r:Row):Row×Int:=match bE x.exprs (cj t) r with
 | (l,e)=>(MM t.S.cols (l.zip x.names) r,e)
def kg(d:DB)(s:Int)(x:aA):DB×List Row×Int:=match ax d ⟨s,x.table,true⟩with
 | (d,e)=>if e≠0 then(d,[],e)else if(dG d x.table).S.only=true then(d,[],19)else cY d (
  if CE (dG d x.table) x≠0 then(d,CE (dG d x.table) x)else match nU x.bT (cj (dG d x.table)) (HS (dG d x.table) x) (dG d x.table).rows ([],[])with
   | (p,e)=>if e≠0 then(d,e)else match wY s x.table p.1 d with
    | (d,e)=>if e≠0 then(d,e)else MT s x.table p.2 d)
def kD(d:DB)(s:Int)(x:aA):DB×List Row×Int:=match ax d ⟨s,x.table,true⟩with
 | (d,e)=>if e≠0 then(d,[],e)else if(dG d x.table).S.only=true then(d,[],19)else cY d (
  if aK x.bT (cj (dG d x.table))≠0 then(d,aK x.bT (cj (dG d x.table)))else match nU x.bT (cj (dG d x.table)) (fun _=>([],0)) (dG d x.table).rows ([],[])with
   | (p,e)=>if e≠0 then(d,e)else wY s x.table p.1 d)
def aT(nm:ByteArray)(cols:List bS):Int×Int:=if nm=b0 then(-1,0)else dp nm cols
def fG(cols:List bS)(i:dq):Int:=if i.fn=1 then 0 else if i.fn=2 then iV i.e cols 2 else(fK i.e cols).2
def bh(cols:List bS)(group:Int)(i:dq):Int:=if i.fn≠0 then 0 else if group<0 then 3 else match i.e with
 | [n]=>if n.op≠2 then 3 else match dp n.name cols with
  | (k,e)=>if e≠0\/k≠group then 3 else 0
 |_=>3
structure Qy where
 group:Int
 order:Int
 mE:Bool
def eQ(x:aA)(cols:List bS):Qy×Int:=
 if aK x.on cols≠0 then(⟨-1,-1,false⟩,aK x.on cols)
 else if aK x.bT cols≠0 then(⟨-1,-1,false⟩,aK x.bT cols)
 else if cd (fG cols) x.items≠0 then(⟨-1,-1,false⟩,cd (fG cols) x.items)
 else match aT x.group cols with
  | (g,e)=>if e≠0 then(⟨g,-1,false⟩,e)else match aT x.order cols with
   | (o,e)=>if e≠0 then(⟨g,o,false⟩,e)else
    if(decide (x.group≠b0)||x.items.any fun i=>decide (i.fn≠0))=false then(⟨g,o,false⟩,0)
    else if x.items.length=0\/(o>=0/\o≠g)then(⟨g,o,true⟩,3)
    else(⟨g,o,true⟩,cd (bh cols g) x.items)
def fA(x:aA)(cols:List bS)(a:Row):List Row->List Row->List Row×Int
 | [],out=>(out,0)
 |b::bs,out=>match eA x.on cols (a++b)with
  | (on,e)=>if e≠0 then(out,e)else if on=false then fA x cols a bs out else match eA x.bT cols (a++b)with
   | (is,e)=>if e≠0 then(out,e)else fA x cols a bs (if is=true then out++[a++b]else out)
def dC(x:aA)(cols:List bS)(bs:List Row):List Row->List Row->List Row×Int
 | [],out=>(out,0)
 |a::l,out=>match fA x cols a bs out with
  | (out,e)=>if e≠0 then(out,e)else dC x cols bs l out
def eX{α:Type}(l:List α)(n:Int):List α:=if n<0 then l else l.take n.toNat
def ordV(desc:Bool)(a b:cR):Int:=if desc=true then cg b a else cg a b
def ltK(k:Int)(desc:Bool)(a b:Row):Bool:=decide (ordV desc (oH a k) (oH b k)<0)
def AY(x:aA)(cols:List bS):List Row->List Row->List Row×Int
 | [],out=>(out,0)
 |r::rs,out=>if x.items.length=0 then AY x cols rs (out++[r])else match bE (x.items.map (·.e)) cols r with
  | (v,e)=>if e≠0 then([],e)else AY x cols rs (out++[v])
def oM(x:aA)(cols:List bS)(order:Int)(rows:List Row):List Row×Int:=AY x cols (eX (if order>=0 then FG (ltK order x.desc) rows else rows) x.gX) []
def pS(k:Int):List Row->List (List Row)->List (List Row)
 | [],out=>out
 |r::rs,out=>match out.getLast? with
  |none=>pS k rs [[r]]
  |some g=>match g.getLast? with
   |none=>pS k rs (out++[[r]])
   |some p=>if yq (oH p k) (oH r k)=true then pS k rs (out.dropLast++[g++[r]])else pS k rs (out++[[r]])
def Cy(k:Int)(desc:Bool)(rows:List Row):List (List Row):=if k<0 then [rows]else pS k (FG (ltK k desc) rows) []
def KB(fn:Int)(v x:cR):cR×Int:=
 if v.k=0 then(x,0)
 else if fn=2 then eI [lit v,lit x,bin 14 0 1] [] []
 else if(fn=3/\cg x v<0)\/(fn=4/\cg x v>0)then(x,0)else(v,0)
def Ri(fn:Int)(e:List Nd)(cols:List bS):List Row->cR->cR×Int
 | [],v=>(v,0)
 |r::rs,v=>match eI e cols r with
  | (x,f)=>if f≠0 then(v0,f)else if x.k=0 then Ri fn e cols rs v else match KB fn v x with
   | (w,f)=>if f≠0 then(v0,f)else Ri fn e cols rs w
def Mv(cols:List bS)(group:Int)(i:dq)(g:List Row):cR×Int:=
 if i.fn=1 then(⟨2,g.length,b0⟩,0)else if i.fn=0 then(match g with
  |r::_=>(oH r group,0)
  | []=>(v0,0))else Ri i.fn i.e cols g v0
def wO(cols:List bS)(group:Int)(g:List Row):List dq->Row->Row×Int
 | [],r=>(r,0)
 |i::is,r=>match Mv cols group i g with
  | (v,e)=>if e≠0 then([],e)else wO cols group g is (r++[v])
def lZ(x:aA)(cols:List bS)(group:Int):List (List Row)->List Row->List Row×Int
 | [],out=>(out,0)
 |g::gs,out=>match wO cols group g x.items []with
  | (r,e)=>if e≠0 then([],e)else lZ x cols group gs (out++[r])
def ig(x:aA)(cols:List bS)(group:Int)(rows:List Row):List Row×Int:=lZ x cols group (eX (Cy group x.desc rows) x.gX) []
def sR(x:aA)(cols:List bS)(a b:List Row):List Row×Int:=match eQ x cols with
 | (q,e)=>if e≠0 then([],e)else if a.length*b.length>4000 then([],4)else match dC x cols b a []with
  | (rows,e)=>if e≠0 then([],e)else if q.mE=true then ig x cols q.group rows else oM x cols q.order rows
def fM(d:DB)(s:Int)(x:aA):DB×List Row×Int:=
 if x.join=x.table then(d,[],7)else match ax d ⟨s,x.table,false⟩with
 | (d,e)=>if e≠0 then(d,[],e)else if x.join=b0 then(match sR x (cj (dG d x.table)) (dG d x.table).rows [[]]with
  | (l,e)=>(d,l,e))
  else match ax d ⟨s,x.join,false⟩with
   | (d,e)=>if e≠0 then(d,[],e)else match sR x (cj (dG d x.table)++cj (dG d x.join)) (dG d x.table).rows (dG d x.join).rows with
    | (l,e)=>(d,l,e)
def ny(d:DB)(s:Int)(x:aA):DB×List Row×Int:=
 if x.kind=7 then((ed d s).1,[],(ed d s).2)
 else if x.kind=9 then((gE d s).1,[],(gE d s).2)
 else if x.kind=10 then((rr d s x.name).1,[],(rr d s x.name).2)
 else if x.kind=11 then((rM d s x.name).1,[],(rM d s x.name).2)
 else if x.kind=3 then iW d s x else if x.kind=4 then kg d s x else if x.kind=5 then kD d s x else if x.kind=6 then fM d s x
 else(d,[],1)
end Go.S
