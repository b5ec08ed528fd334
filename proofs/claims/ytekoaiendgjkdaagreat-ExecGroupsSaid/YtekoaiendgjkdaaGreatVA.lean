import Derived.Test.YtekoaiendgjkdaaGreatUA
import Derived.Test.YtekoaiendgjkdaaGreatRd
import Derived.Test.YtekoaiendgjkdaaGreatEA
import Derived.Test.YtekoaiendgjkdaaGreatEC
set_option linter.unusedVariables false
set_option linter.unusedSimpArgs false
set_option linter.unusedSectionVars false
set_option maxRecDepth 100000
set_option maxHeartbeats 8000000
namespace Go.S
open Go.Sx Go.Proofs
def DQ:Sh Wd where
 n:=3
 R _ cs v:=cs=[.int .i64 v.k,.int .i64 v.n,.string v.s]
 len:=by rintro h cs x rfl;rfl
 one:=by rintro h cs x rfl;rfl
 tys:=[]
 mono:=fun _ q=>q
def fx:Sh Nd where
 n:=7
 R _ cs v:=cs=[.int .i64 v.op,.int .i64 v.a,.int .i64 v.b,.int .i64 v.v.k,.int .i64 v.v.n,.string v.v.s,.string v.name]
 len:=by rintro h cs x rfl;rfl
 one:=by rintro h cs x rfl;rfl
 tys:=[]
 mono:=fun _ q=>q
abbrev dQW:Wd:=⟨0,0,b0⟩
def JK(ws:List Wd):Prop:=∃l,ws=l++[dQW]
theorem JK.ne{ws:List Wd}(h:JK ws):∃w r,ws=w::r:=by
 obtain⟨l,rfl⟩:=h;cases l with
 |nil=>exact⟨_,_,rfl⟩
 |cons a l=>exact⟨_,_,rfl⟩
theorem JK.tail{w:Wd}{r:List Wd}(h:JK (w::r))(hk:w.k≠0):JK r:=by
 obtain⟨l,h⟩:=h;cases l with
 |nil=>cases h;exact absurd rfl hk
 |cons a l=>cases h;exact⟨l,rfl⟩
structure lP(lv:Bool)(base h:ad)(pb:Nat)(s:PS):Prop where
 out:∃wb wn wc eb en ec at_ i all,h pb=some (.cells #[.slice wb wn wc,.int .i64 at_,.int .i64 s.err,.slice eb en ec] 136 (0,0))/\Sl 139 DQ base (.slice wb wn wc) all/\aS at_ i/\all.drop i=s.ws/\JK s.ws/\all.length<=700/\(lv=true->cF 325 fx base h (.slice eb en ec) s.e/\s.e.length<=60)/\Le base h/\base pb=none
theorem lP.le{base h:ad}{pb:Nat}{lv:Bool}{s:PS}(q:lP lv base h pb s):Le base h:=by obtain⟨_,_,_,_,_,_,_,_,_,_,_,_,_,_,_,_,q,_⟩:=q.out;exact q
theorem lP.dQS{base h:ad}{pb:Nat}{lv:Bool}{s:PS}(q:lP lv base h pb s):JK s.ws:=by obtain⟨_,_,_,_,_,_,_,_,_,_,_,_,_,q,_⟩:=q.out;exact q
theorem lP.mono{base h h':ad}{pb:Nat}{lv:Bool}{s:PS}(q:lP lv base h pb s)(hl:Le h h'):lP lv base h' pb s:=by obtain⟨wb,wn,wc,eb,en,ec,at_,i,all,g1,g2,g3,g4,g5,g6,g7,g9,CO⟩:=q.out;exact⟨wb,wn,wc,eb,en,ec,at_,i,all,hl _ _ g1,g2,g3,g4,g5,g6,fun e=>⟨(g7 e).1.mono (hl.t _),(g7 e).2⟩,g9.trans hl,CO⟩
theorem _root_.Go.Sx.cF.dXT{α:Type}{e:Nat}{s:Sh α}{h0 h1 h:ad}{v:Value}{xs:List α}(q:cF e s h0 h v xs)(hn:∀j c cap,v=.slice (some ⟨j,0,none⟩) c cap->h0 j=none->h j≠none->h1 j=none):cF e s h1 h v xs:=by
 rcases q.out with g| ⟨nb,cap,g1,g2,o⟩
 ·exact⟨.inl g⟩
 ·exact⟨.inr ⟨nb,cap,g1,hn nb _ _ g1 g2 o.has,o⟩⟩
theorem lP.add{base h:ad}{pb:Nat}{lv:Bool}{s:PS}(q:lP lv base h pb s){n:Nat}{o:Obj}(hn:h n=none):lP lv (bU base n o) (bU h n o) pb s:=by
 obtain⟨wb,wn,wc,eb,en,ec,at_,i,all,g1,g2,g3,g4,g5,g6,g7,g9,CO⟩:=q.out;have ch:pb≠n:=fun e=>by rw[e,hn]at g1;cases g1
 have lb:Le base (bU base n o):=Le.set (g9.none hn);have lh:Le h (bU h n o):=Le.set hn;refine⟨wb,wn,wc,eb,en,ec,at_,i,all,lh _ _ g1,g2.mono (lb.t _),g3,g4,g5,g6,fun e=>⟨((g7 e).1.dXT (fun j c cap _ h0 hj=>?_)).mono (lh.t _),(g7 e).2⟩,fun b x hb=>?_,?_⟩
 ·have:j≠n:=fun e=>hj (by rw[e];exact hn);rw[aO this];exact h0
 ·by_cases e:b=n
  ·rw[e,ae]at hb;rw[e,ae];exact hb
  ·rw[aO e]at hb |-;exact g9 b x hb
 ·rw[aO ch];exact CO
theorem lP.drop{base h:ad}{pb:Nat}{lv:Bool}{s:PS}{n:Nat}{o:Obj}(q:lP lv (bU base n o) h pb s)(hn:base n=none)(hw:∀e c fr,o=.cells c e fr->e≠139):lP lv base h pb s:=by
 obtain⟨wb,wn,wc,eb,en,ec,at_,i,all,g1,g2,g3,g4,g5,g6,g7,g9,CO⟩:=q.out;have lb:Le base (bU base n o):=Le.set hn;have ch:pb≠n:=fun e=>by rw[e,ae]at CO;cases CO
 have ht:bR (139::DQ.tys) (bU base n o) base:=fun b c e fr hm hb=>by
  by_cases e1:b=n
  ·rw[e1,ae]at hb;cases hb;exact absurd (by simpa[DQ]using hm) (hw _ _ _ rfl)
  ·rw[aO e1]at hb;exact hb
 exact⟨wb,wn,wc,eb,en,ec,at_,i,all,g1,g2.mono ht,g3,g4,g5,g6,fun e=>⟨(g7 e).1.base lb,(g7 e).2⟩,lb.trans g9,by rw[aO ch]at CO;exact CO⟩
theorem lP.put{base h h':ad}{pb:Nat}{lv:Bool}{s s':PS}(q:lP lv base h pb s){o:Obj}(e:h'=bU h pb o)
 (hs:∀wb wn wc eb en ec at_ i (all:List Wd),h pb=some (.cells #[.slice wb wn wc,.int .i64 at_,.int .i64 s.err,.slice eb en ec] 136 (0,0))->aS at_ i->all.drop i=s.ws->all.length<=700->∃cZx i',o=.cells #[.slice wb wn wc,.int .i64 cZx,.int .i64 s'.err,.slice eb en ec] 136 (0,0)/\aS cZx i'/\all.drop i'=s'.ws)
 (hw:JK s'.ws) (he:lv=true->s'.e=s.e):lP lv base h' pb s':=by
 obtain⟨wb,wn,wc,eb,en,ec,at_,i,all,g1,g2,g3,g4,g5,g6,g7,g9,CO⟩:=q.out;obtain⟨cZx,i',rfl,h1,h2⟩:=hs wb wn wc eb en ec at_ i all g1 g3 g4 g6;subst e;refine⟨wb,wn,wc,eb,en,ec,cZx,i',all,ae,g2,h1,h2,hw,g6,fun hl=>?_,fun b x hb=>?_,CO⟩
 ·rw[he hl];exact⟨(g7 hl).1.mono (bR.set g1 (by decide)),(g7 hl).2⟩
 ·have ch:b≠pb:=fun e=>by rw[e,CO]at hb;cases hb
  rw[aO ch];exact g9 b x hb
theorem Gb(A:Ar)[hA:bM A](a b:ByteArray):A .iQ .neq a b=decide (a≠b):=by have h:=cS A a b;rw[hA.iQ]at h |-;show(!(a.toList==b.toList))=_;have h:(a.toList==b.toList)=decide (a=b):=h;rw[h];by_cases e:a=b<;>simp[e]
theorem Ld{base h:ad}{pb:Nat}{lv:Bool}{s:PS}(hp:lP lv base h pb s)(e:Int){k:Value->ad->Prop}(hk:∀h',lP lv base h' pb (s.fail e)->k (.tuple #[]) h'):
 Ct 56 [.pointer (some ⟨pb,0,none⟩),.int .i64 e] h k:=by
 obtain⟨A,hA⟩:=Ar.ex;obtain⟨ws,err,ex⟩:=s;obtain⟨wb,wn,wc,eb,en,ec,at_,i,all,g,-⟩:=hp.out;have g:h pb=some (.cells #[.slice wb wn wc,.int .i64 at_,.int .i64 err,.slice eb en ec] 136 (0,0)):=g;have f1:A .aI .eql err 0=decide (err=0):=aA A ..;refine ah A (ax jKw.aK jKw.bF) Tryz.func56 rfl (by kernel_rfl) ?_;cbv;rw[ai A];refine aB g rfl rfl ?_;cbv;rw[f1];by_cases he:err=0
 ·have af:=fun h' (e1:h'=bU h pb (.cells #[.slice wb wn wc,.int .i64 at_,.int .i64 e,.slice eb en ec] 136 (0,0)))=>hk h' (by
   refine hp.put e1 (fun eXH eXF eXG jJg jJc jJf cZx i' iKm g' q1 q2 q3=>?_) ?_ ?_
   ·rw[g]at g';cases g';refine⟨at_,i',?_,q1,?_⟩
    ·simp[PS.fail,he]
    ·simp only[PS.fail];rw[if_pos he];exact q2
   ·simp only[PS.fail];rw[if_pos he];exact hp.dQS
   ·intro _;simp only[PS.fail];rw[if_pos he])
  rw[kS he];cbv;rw[ai A];refine ja g (by simp) (fun h' e1=>?_);cbv;exact af h' e1
 ·have af:=hk h (by simp only[PS.fail];rw[if_neg he];exact hp);rw[nM he];cbv;exact af
structure Av(s:ByteArray)(i:Nat)(t:By):Prop where
 le:i<=s.size
 eq:s.data.toList.drop i=t
theorem Av.len{s:ByteArray}{i:Nat}{t:By}(q:Av s i t):i+t.length=s.size:=by
 have h:s.size=s.data.toList.length:=by rw[mXV];rfl
 have:=q.le;rw[<-q.eq,mQX];omega
theorem Av.start(s:ByteArray):Av s 0 s.data.toList:=⟨mQr _,rfl⟩
theorem Av.next{s:ByteArray}{i:Nat}{c:UInt8}{r:By}(q:Av s i (c::r)):Av s (i+1) r:=by have h1:=q.len;rw[mQx]at h1;exact⟨by omega,by rw[<-mZn,q.eq];rfl⟩
theorem Av.dQe{s:ByteArray}{i:Nat}{t:By}(q:Av s i t){n:Nat}(hn:n<=t.length):Av s (i+n) (t.drop n):=by have h1:=q.len;exact⟨by omega,by rw[<-mZn,q.eq]⟩
theorem Av.byte{A:Ar}[hA:bM A]{s:ByteArray}{i:Nat}{c:UInt8}{r:By}(q:Av s i (c::r)){z:Int}(hz:aS z i):A .byte s z=(c.toNat:Int):=by
 rw[hA.byte];have e1:z.toNat=i:=by have:=hz.eq;omega
 have h2:s.data.toList[i]? =some c:=by have:=congrArg (fun l=>l[0]?) q.eq;simpa using this
 have h3:s.data[i]? =some c:=by rw[<-h2];exact(mXZ ..).symm
 simp only[e1,mXm,h3,mXI]
theorem Av.sub{A:Ar}[hA:bM A]{s:ByteArray}{i:Nat}{t:By}(q:Av s i t){z w:Int}(hz:aS z i){n:Nat}(hw:aS w (i+n)):A .sub s z w=aM (t.take n):=by
 rw[hA.sub];have e1:z.toNat=i:=by have:=hz.eq;omega
 have e2:w.toNat=i+n:=by have:=hw.eq;omega
 simp only[e1,e2];show s.extract i (i+n)=ByteArray.mk (t.take n).toArray;have h:(s.extract i (i+n)).data=(t.take n).toArray:=by rw[mKN];apply Array.ext';rw[mKy,<-q.eq];simp[List.extract]
 exact ByteArray.ext h
theorem VO{b:Int}{c:UInt8}(hb:b=(c.toNat:Int)){h:ad}{k:Value->ad->Prop}(hk:k (.bool (isLet c)) h):Ct 210 [.int .u8 b] h k:=by
 obtain⟨A,hA⟩:=Ar.ex;have f1:A .aI .geq b 97=decide (97<=c.toNat):=by rw[cf A,decide_eq_decide,hb];omega
 have f2:A .aI .leq b 122=decide (c.toNat<=122):=by rw[vM A,decide_eq_decide,hb];omega
 unfold isLet at hk;clear hb;generalize decide (97<=c.toNat)=u1 at *;generalize decide (c.toNat<=122)=u2 at *;refine ah A (ax gQQ.aK gQQ.bF) Tryz.func210 rfl (by kernel_rfl) ?_;cbv;rw[f1];cases u1 with
 |false=>cbv;exact hk
 |true=>cbv;rw[f2];exact hk
theorem Uz{b:Int}{c:UInt8}(hb:b=(c.toNat:Int)){h:ad}{k:Value->ad->Prop}(hk:k (.bool (fq c)) h):Ct 212 [.int .u8 b] h k:=by
 obtain⟨A,hA⟩:=Ar.ex;have f1:A .aI .geq b 48=decide (48<=c.toNat):=by rw[cf A,decide_eq_decide,hb];omega
 have f2:A .aI .leq b 57=decide (c.toNat<=57):=by rw[vM A,decide_eq_decide,hb];omega
 unfold fq at hk;clear hb;generalize decide (48<=c.toNat)=u1 at *;generalize decide (c.toNat<=57)=u2 at *;refine ah A (ax gQO.aK gQO.bF) Tryz.func212 rfl (by kernel_rfl) ?_;cbv;rw[f1];cases u1 with
 |false=>cbv;exact hk
 |true=>cbv;rw[f2];exact hk
theorem HA:∀t:By,eU t<=t.length
 | []=>mQt _
 |c::r=>by
  unfold eU;have:=HA r;cases uN c with
  |true=>simp only[mQx];omega
  |false=>simp
theorem bKE{s:ByteArray}(hs:s.size<=600){i:Nat}{t:By}(q:Av s i t){z:Int}(hz:aS z i){h:ad}{k:Value->ad->Prop}(hk:∀z',aS z' (i+eU t)->k (.int .i64 z') h):
 Ct 211 [.string s,.int .i64 z] h k:=by
 obtain⟨A,hA⟩:=Ar.ex;have Cv:aS (A .jO s) s.size:=⟨by rw[hA.jO]⟩;obtain⟨I,aY⟩:∃I:Nat->Int->ad->Prop,∀m g h',I m g h'=∃j t',aS g j/\Av s j t'/\m=t'.length/\j+eU t'=i+eU t/\h'=h:=⟨_,fun _ _ _=>rfl⟩;have hJ:I t.length z h:=by rw[aY];exact⟨i,t,hz,q,rfl,rfl,rfl⟩
 refine ah A (ax gQP.aK gQP.bF) Tryz.func211 rfl (by kernel_rfl) ?_;cbv;refine aX.go (G:=Int) (fun g=>[(1,.v (.int .i64 g))]) (fun _=>[]) (fun m g h'=>I m g h') t.length z ⟨?_,?_,?_⟩ hJ ?_
 ·cbv
 ·cbv
 ·cbv
 ·intro m g h' hI;rw[aY]at hI;cbv;obtain⟨j,t',hg,q',hm,he,rfl⟩:=hI;have hl:=q'.len;have f1:A .aI .lss g (A .jO s)=decide (j<s.size):=hg.iJ Cv;have stop:t'=[]\/(∃c r,t'=c::r/\uN c=false)->eU t'=0:=by
   rintro(rfl| ⟨c,r,rfl,hc⟩)
   ·rfl
   ·unfold eU;rw[hc]
  have fin:eU t'=0->k (.int .i64 g) h':=fun e=>hk g (by rw[<-he,e];exact hg);rw[f1];cases t' with
  |nil=>
   have aP:¬j<s.size:=by have:([]:By).length=0:=rfl;omega
   have af:=fin (stop (.inl rfl));rw[nM aP];cbv;exact af
  |cons c r=>
   have aP:j<s.size:=by have:(c::r).length=r.length+1:=rfl;omega
   have cJ:0<=g/\g<(s.size:Int):=hg.ix aP;obtain⟨b,hb⟩:∃b,A .byte s g=b:=⟨_,rfl⟩;have yW:b=(c.toNat:Int):=by rw[<-hb];exact q'.byte hg
   have f2:A .aI .eql b 95=decide (c.toNat=95):=by rw[aA A,decide_eq_decide,yW];omega
   have cZ:=hg.succ (A:=A) (by omega);have tY:uN c=true->I r.length (A .bB .add .i64 g 1) h':=fun e=>by
    rw[aY];refine⟨j+1,r,cZ,q'.next,rfl,?_,rfl⟩;rw[<-he];have:eU (c::r)=eU r+1:=by show(match uN c with|true=>eU r+1|false=>0)=_;rw[e]
    omega
   have gK:uN c=false->k (.int .i64 g) h':=fun e=>fin (stop (.inr ⟨c,r,rfl,e⟩));have iV:r.length<m:=by rw[hm];exact mXT _
   have wD:uN c=(isLet c||fq c||decide (c.toNat=95)):=rfl;rw[kS aP];clear stop fin he hm aY hJ hk;cbv;refine⟨cJ,?_⟩;cbv;rw[hb];refine VO yW ?_;generalize isLet c=u1 at *;cases u1 with
   |true=>
    have tY:=tY (by rw[wD];simp);cbv;refine⟨r.length,_,iV,⟨?_,?_,?_⟩,tY⟩
    ·cbv
    ·cbv
    ·cbv
   |false=>
    cbv;refine⟨cJ,?_⟩;cbv;rw[hb];refine Uz yW ?_;generalize fq c=u2 at *;cases u2 with
    |true=>
     have tY:=tY (by rw[wD];simp);cbv;refine⟨r.length,_,iV,⟨?_,?_,?_⟩,tY⟩
     ·cbv
     ·cbv
     ·cbv
    |false=>
     cbv;refine⟨cJ,?_⟩;cbv;rw[hb,f2];generalize decide (c.toNat=95)=u3 at *;cases u3 with
     |true=>
      have tY:=tY (by rw[wD];simp);cbv;refine⟨r.length,_,iV,⟨?_,?_,?_⟩,tY⟩
      ·cbv
      ·cbv
      ·cbv
     |false=>have gK:=gK (by rw[wD];simp);cbv;exact gK
theorem tI(A:Ar)[hA:bM A](a b:Int)(h:-9223372036854775808<=a+b/\a+b<=9223372036854775807):A .bB .add .i64 a b=a+b:=by rw[hA.bB];exact IntWalk.i64_in _ h
theorem zK(A:Ar)[hA:bM A](a b:Int)(h:-9223372036854775808<=a-b/\a-b<=9223372036854775807):A .bB .sub .i64 a b=a-b:=by rw[hA.bB];exact IntWalk.i64_in _ h
theorem cZB(A:Ar)[hA:bM A](a b:Int)(h:-9223372036854775808<=a*b/\a*b<=9223372036854775807):A .bB .mul .i64 a b=a*b:=by rw[hA.bB];exact IntWalk.i64_in _ h
theorem cZA(A:Ar)[hA:bM A](a b:Int)(h:-9223372036854775808<=a.tdiv b/\a.tdiv b<=9223372036854775807):A .bB .quo .i64 a b=a.tdiv b:=by rw[hA.bB];exact IntWalk.i64_in _ h
theorem dZA{s:ByteArray}(hs:s.size<=600){i:Nat}{t:By}(q:Av s i t){z:Int}(hz:aS z i){h:ad}{k:Value->ad->Prop}
 (hk:∀v z' e rest,nG t 0=((v,rest),e)->(e=0->∃j,aS z' j/\Av s j rest)->k (.tuple #[.int .i64 v,.int .i64 z',.int .i64 e]) h):
 Ct 213 [.string s,.int .i64 z] h k:=by
 obtain⟨A,hA⟩:=Ar.ex;have Cv:aS (A .jO s) s.size:=⟨by rw[hA.jO]⟩;obtain⟨I,aY⟩:∃I:Nat->Int×Int->ad->Prop,∀m g h',I m g h'=∃j t',aS g.1 j/\Av s j t'/\m=t'.length/\nG t' g.2=nG t 0/\0<=g.2/\g.2<=9223372036854775807/\h'=h:=⟨_,fun _ _ _=>rfl⟩;have hJ:I t.length (z,0) h:=by rw[aY];exact⟨i,t,hz,q,rfl,rfl,mXp _,by show(0:Int)<=9223372036854775807;decide,rfl⟩
 refine ah A (ax gQN.aK gQN.bF) Tryz.func213 rfl (by kernel_rfl) ?_;cbv;refine aX.go (G:=Int×Int) (fun g=>[(1,.v (.int .i64 g.1)),(7,.v (.int .i64 g.2))]) (fun _=>[]) (fun m g h'=>I m g h') t.length (z,0) ⟨?_,?_,?_⟩ hJ ?_
 ·cbv
 ·cbv
 ·cbv
 ·intro m g h' hI;rw[aY]at hI;cbv;obtain⟨j,t',hg,q',hm,he,nf,lG,rfl⟩:=hI;obtain⟨z,n⟩:=g;have hg:aS z j:=hg;have he:nG t' n=nG t 0:=he;have nf:0<=n:=nf;have lG:n<=9223372036854775807:=lG;have hl:=q'.len;have f1:A .aI .lss z (A .jO s)=decide (j<s.size):=hg.iJ Cv;have stop:nG t' n=((n,t'),0)->k (.tuple #[.int .i64 n,.int .i64 z,.int .i64 0]) h':=fun e=>hk n z 0 t' (by rw[<-he,e]) (fun _=>⟨j,hg,q'⟩);rw[f1];cases t' with
  |nil=>
   have aP:¬j<s.size:=by have:([]:By).length=0:=rfl;omega
   have af:=stop rfl;rw[nM aP];cbv;exact af
  |cons c r=>
   have aP:j<s.size:=by have:(c::r).length=r.length+1:=rfl;omega
   have cJ:0<=z/\z<(s.size:Int):=hg.ix aP;obtain⟨b,hb⟩:∃b,A .byte s z=b:=⟨_,rfl⟩;have yW:b=(c.toNat:Int):=by rw[<-hb];exact q'.byte hg
   have cZ:=hg.succ (A:=A) (by omega);have iV:r.length<m:=by rw[hm];exact mXT _
   have gK:fq c=false->k (.tuple #[.int .i64 n,.int .i64 z,.int .i64 0]) h':=fun e=>stop (by show(match fq c with|true=>_|false=>_)=_;rw[e]);have hq:=q'.next;obtain⟨d,hd⟩:∃d:Int,d=(c.toNat:Int)-48:=⟨_,rfl⟩;have iM:fq c=true->0<=d/\d<=9/\nG (c::r) n=if n>(9223372036854775807-d) / 10 then((0,[]),11)else nG r (10*n+d):=fun e=>by
    have e2:=e;unfold fq at e2;simp only[mQG,mQD]at e2;refine⟨by omega,by omega,?_⟩;rw[hd];show(match fq c with|true=>_|false=>_)=_;rw[e]
   rw[kS aP];clear stop hm hJ;cbv;refine⟨cJ,?_⟩;cbv;rw[hb];refine Uz yW ?_;generalize fq c=u1 at *;cases u1 with
   |false=>have gK:=gK rfl;cbv;exact gK
   |true=>
    obtain⟨fZg,YZ,CF⟩:=iM rfl;have f3:A .bB .sub .u8 b 48=d:=by rw[hA.bB,hd,yW];exact IntWalk.u8_in _ (by omega)
    have f4:A .conv .i64 d=d:=by rw[hA.conv];exact IntWalk.i64_in _ (by omega)
    obtain⟨w1,EU⟩:∃w:Int,9223372036854775807-d=w:=⟨_,rfl⟩;obtain⟨w2,vj⟩:∃w:Int,w1 / 10=w:=⟨_,rfl⟩;have f5:A .bB .sub .i64 9223372036854775807 d=w1:=by rw[<-EU];exact zK A _ _ (by omega)
    have Ts:w1.tdiv 10=w2:=by rw[<-vj];exact mJN (by omega)
    have f6:A .bB .quo .i64 w1 10=w2:=by rw[cZA A _ _ (by rw[Ts];omega),Ts]
    have f7:A .aI .gtr n w2=decide (n>w2):=bO A ..;rw[EU,vj]at CF;rw[CF]at he;clear hd CF iM gK;have fXg:(10:Int)≠0:=by decide
    by_cases bZF:n>w2
    ·rw[if_pos bZF]at he;have af:=hk 0 0 11 [] he.symm (fun h=>absurd h (by decide));rw[kS bZF]at f7;clear aY EU vj;cbv;refine⟨cJ,?_⟩;cbv;rw[hb,f3,f4];cbv;rw[f5];refine⟨fXg,?_⟩;cbv;rw[f6,f7];cbv;exact af
    ·rw[if_neg bZF]at he;have f8:A .bB .mul .i64 10 n=10*n:=cZB A _ _ (by omega);have f9:A .bB .add .i64 (10*n) d=10*n+d:=tI A _ _ (by omega);have cD:I r.length (A .bB .add .i64 z 1,A .bB .add .i64 (A .bB .mul .i64 10 n) d) h':=by rw[aY,f8,f9];exact⟨j+1,r,cZ,hq,rfl,he,by show 0<=10*n+d;omega,by show 10*n+d<=_;omega,rfl⟩
     rw[nM bZF]at f7;clear aY EU vj;cbv;refine⟨cJ,?_⟩;cbv;rw[hb,f3,f4];cbv;rw[f5];refine⟨fXg,?_⟩;cbv;rw[f6,f7];cbv;refine⟨r.length,(_,_),iV,⟨?_,?_,?_⟩,cD⟩
     ·cbv
     ·cbv
     ·cbv
theorem lP.elim{base h:ad}{pb:Nat}{lv:Bool}{s:PS}(q:lP lv base h pb s){C:Prop}(f:∀wb wn wc eb en ec at_ i (all:List Wd) w r,h pb=some (.cells #[.slice wb wn wc,.int .i64 at_,.int .i64 s.err,.slice eb en ec] 136 (0,0))->Sl 139 DQ h (.slice wb wn wc) all->aS at_ i->all[i]? =some w->s.ws=w::r->all.drop (i+1)=r->i<wn->wn<=700->(lv=true->cF 325 fx base h (.slice eb en ec) s.e/\s.e.length<=60)->C):C:=by
 obtain⟨wb,wn,wc,eb,en,ec,at_,i,all,g1,g2,g3,g4,g5,g6,g7,g9,CO⟩:=q.out;obtain⟨w,r,hw⟩:=g5.ne;have h1:all[i]? =some w:=by have:=congrArg (fun l=>l[0]?) g4;rw[hw]at this;simpa using this
 have h2:all.drop (i+1)=r:=by rw[<-mZn,g4,hw];rfl
 have hl:=g2.len;have hi:=(HH.1 h1).1;exact f wb wn wc eb en ec at_ i all w r g1 (g2.mono (g9.t _)) g3 h1 hw h2 (by omega) (by omega) g7
theorem lP.step{base h h':ad}{pb:Nat}{lv:Bool}{s:PS}(q:lP lv base h pb s){w:Wd}{r:List Wd}(hw:s.ws=w::r)(hk:w.k≠0){wb eb:Option Addr}{wn wc en ec:Nat}{at_ cZx err:Int}{i:Nat}(g:h pb=some (.cells #[.slice wb wn wc,.int .i64 at_,.int .i64 err,.slice eb en ec] 136 (0,0)))
 (hz:aS at_ i) (kJi:aS cZx (i+1)) (e:h'=bU h pb (.cells #[.slice wb wn wc,.int .i64 cZx,.int .i64 err,.slice eb en ec] 136 (0,0))):lP lv base h' pb { s with ws:=r }:=by
 refine q.put e (fun eXH eXF eXG jJg jJc jJf jJL i' iKm g' q1 q2 q3=>?_) ?_ (fun _=>rfl)
 ·rw[g]at g';cases g';have hi:i'=i:=by have:=hz.eq;have:=q1.eq;omega
  subst hi;exact⟨cZx,i'+1,rfl,kJi,by rw[<-mZn,q2,hw];rfl⟩
 ·have:=q.dQS;rw[hw]at this;exact this.tail hk
theorem Ry{base h:ad}{pb:Nat}{lv:Bool}{s:PS}(hp:lP lv base h pb s)(str:ByteArray){k:Value->ad->Prop}
 (hk:∀h' t s',s.is str=(t,s')->lP lv base h' pb s'->(t=true->s'.ws.length<s.ws.length)->(t=false->s'=s/\h'=h)->k (.bool t) h'):
 Ct 120 [.pointer (some ⟨pb,0,none⟩),.string str] h k:=by
 obtain⟨A,hA⟩:=Ar.ex;obtain⟨ws,err,ex⟩:=s;refine hp.elim (fun wb wn wc eb en ec at_ i all w r g qw hz hw lM hr hi bZx qe=>?_);have g:h pb=some (.cells #[.slice wb wn wc,.int .i64 at_,.int .i64 err,.slice eb en ec] 136 (0,0)):=g;have lM:ws=w::r:=lM;have cJ:wb.isSome=true/\0<=at_/\at_<(wn:Int):=⟨qw.aT (by omega),hz.ix hi⟩;have cN:=hz.eq;have cZ:=hz.succ (A:=A) (by omega);obtain⟨wk,wN,wS⟩:=w;have f1:A .aI .neq err 0=decide (err≠0):=aC A ..;have f2:A .aI .neq wk 1=decide (wk≠1):=aC A ..;have f3:A .aI .neq wk 4=decide (wk≠4):=aC A ..;have f4:A .iQ .neq wS str=decide (wS≠str):=Gb A ..;have gK:(err≠0\/(wk≠1/\wk≠4)\/wS≠str)->k (.bool false) h:=fun hc=>by
  refine hk h false _ ?_ hp (fun e=>by cases e) (fun _=>⟨rfl,rfl⟩);subst lM;show(if err=0/\(wk=1\/wk=4)/\wS=str then _ else _)=_;rw[if_neg];rintro⟨h1,h2,h3⟩;rcases hc with h| ⟨h,h'⟩ |h
  ·exact h h1
  ·rcases h2 with h2|h2
   ·exact h h2
   ·exact h' h2
  ·exact h h3
 have iM:err=0->(wk=1\/wk=4)->wS=str->∀h',h'=bU h pb (.cells #[.slice wb wn wc,.int .i64 (A .bB .add .i64 at_ 1),.int .i64 err,.slice eb en ec] 136 (0,0))->k (.bool true) h':=fun h1 h2 h3 h' e=>by
  refine hk h' true ⟨r,err,ex⟩ ?_ (hp.step lM (by show wk≠0;omega) g hz cZ e) (fun _=>?_) (fun e=>by cases e)
  ·subst lM;show(if err=0/\(wk=1\/wk=4)/\wS=str then _ else _)=_;rw[if_pos ⟨h1,h2,h3⟩]
  ·show r.length<ws.length;rw[lM];exact mXT _
 clear hk;refine ah A (ax gXZ.aK gXZ.bF) Tryz.func120 rfl (by kernel_rfl) ?_;cbv;rw[ai A];refine aB g rfl rfl ?_;cbv;rw[ai A];refine aB g rfl rfl ?_;cbv;refine⟨cJ,?_⟩;cbv;refine qw.load hw cN (fun cs ay=>?_);have ay:cs=[.int .i64 wk,.int .i64 wN,.string wS]:=ay;subst ay;cbv;rw[ai A];refine aB g rfl rfl ?_;cbv;rw[f1];by_cases he:err=0
 ·rw[nM (by simpa using he)];cbv;rw[f2];by_cases vm:wk=1
  ·have iM:=iM he (.inl vm);rw[nM (by simpa using vm)];cbv;rw[f4];by_cases h3:wS=str
   ·have iM:=iM h3;rw[nM (by simpa using h3)];cbv;rw[ai A];refine aB g rfl rfl ?_;cbv;rw[ai A];refine ja g (by simp) (fun h' e1=>?_);cbv;exact iM h' e1
   ·have gK:=gK (.inr (.inr h3));rw[kS h3];cbv;exact gK
  ·rw[kS vm];cbv;rw[f3];by_cases FJ:wk=4
   ·have iM:=iM he (.inr FJ);rw[nM (by simpa using FJ)];cbv;rw[f4];by_cases h3:wS=str
    ·have iM:=iM h3;rw[nM (by simpa using h3)];cbv;rw[ai A];refine aB g rfl rfl ?_;cbv;rw[ai A];refine ja g (by simp) (fun h' e1=>?_);cbv;exact iM h' e1
    ·have gK:=gK (.inr (.inr h3));rw[kS h3];cbv;exact gK
   ·have gK:=gK (.inr (.inl ⟨vm,FJ⟩));rw[kS FJ];cbv;exact gK
 ·have gK:=gK (.inl he);rw[kS he];cbv;exact gK
theorem fQd{base h:ad}{pb:Nat}{lv:Bool}{s:PS}(hp:lP lv base h pb s){l:List ByteArray}{b:Option Addr}{n c:Nat}(ql:Sl 9 dX base (.slice b n c) l){k:Value->ad->Prop}
 (hk:∀h' s',s.cd l=s'->lP lv base h' pb s'->s'.ws.length<=s.ws.length->k (.tuple #[]) h'):
 Ct 122 [.pointer (some ⟨pb,0,none⟩),.slice b n c] h k:=by
 obtain⟨A,hA⟩:=Ar.ex;have hlen:=ql.len;have sM:=ql.bound;obtain⟨I,aY⟩:∃I:Nat->Int->ad->Prop,∀m g h',I m g h'=∃i s1,aS g i/\i<=n/\m=n-i/\lP lv base h' pb s1/\s1.cd (l.drop i)=s.cd l/\s1.ws.length<=s.ws.length:=⟨_,fun _ _ _=>rfl⟩;have hJ:I n 0 h:=by rw[aY];exact⟨0,s,⟨rfl⟩,mQr _,rfl,hp,rfl,mQt _⟩
 refine ah A (ax gXY.aK gXY.bF) Tryz.func122 rfl (by kernel_rfl) ?_;cbv;refine aX.go (G:=Int) (fun g=>[(4,.v (.int .i64 g))]) (fun _=>[]) (fun m g h'=>I m g h') n 0 ⟨?_,?_,?_⟩ hJ ?_
 ·cbv
 ·cbv
 ·cbv
 ·intro m g h' hI;rw[aY]at hI;cbv;obtain⟨i,s1,hg,hi,hm,q1,he,lM⟩:=hI;have f1:A .aI .lss g (A .nat n)=decide (i<n):=hg.iJ (aS.nat n);rw[f1];by_cases aP:i<n
  ·obtain⟨w,hw⟩:=aE (xs:=l) (i:=i) (by omega);have cJ:b.isSome=true/\0<=g/\g<(n:Int):=⟨ql.aT (by omega),hg.ix aP⟩;have lN:=hg.eq;have cZ:=hg.succ (A:=A) (by omega);have hd:l.drop i=w::l.drop (i+1):=by obtain⟨h1,h2⟩:=HH.1 hw;rw[mQy h1,h2]
   rw[hd]at he;have qh:=ql.mono (q1.le.t _);have cD:∀h2 s2,lP lv base h2 pb s2->s2.cd (l.drop (i+1))=s.cd l->s2.ws.length<=s1.ws.length->I (n-(i+1)) (A .bB .add .i64 g 1) h2:=fun h2 s2 p e le=>by
    rw[aY];exact⟨i+1,s2,cZ,aP,rfl,p,e,by omega⟩
   have kX:n-(i+1)<m:=by omega
   clear aY hk hJ;rw[kS aP];cbv;refine⟨cJ,?_⟩;cbv;refine qh.load hw lN (fun cs ay=>?_);have ay:cs=[.string w]:=ay;subst ay;cbv;refine Ry q1 w (fun h2 t s2 e2 p2 iJ cJo=>?_);have AV:A .not t= !t:=by rw[hA.not]
   cases t with
   |true=>
    have hI:=cD h2 s2 p2 (by rw[<-he];show _=(match s1.is w with| (true,p)=>p.cd _| (false,p)=>_);rw[e2]) (mZe (iJ rfl));clear cD;cbv;rw[AV];cbv;refine⟨n-(i+1),_,kX,⟨?_,?_,?_⟩,hI⟩
    ·cbv
    ·cbv
    ·cbv
   |false=>
    obtain⟨rfl,rfl⟩:=cJo rfl;have cD:=fun h3 p3=>cD h3 (s2.fail 6) p3 (by rw[<-he];show _=(match s2.is w with| (true,p)=>p.cd _| (false,p)=>(p.fail 6).cd _);rw[e2]) (by unfold PS.fail;split<;>exact mQt _);cbv;rw[AV];cbv;refine Ld p2 6 (fun h3 p3=>?_);have hI:=cD h3 p3;clear cD;cbv;refine⟨n-(i+1),_,kX,⟨?_,?_,?_⟩,hI⟩
    ·cbv
    ·cbv
    ·cbv
  ·have fZ:i=n:=by omega
   have af:=hk h' s1 (by rw[<-he,mXl (by omega)];rfl) q1 lM;rw[nM aP];cbv;exact af
theorem Pe{s:ByteArray}(h:ao s=true):s.size<=12:=by unfold ao BS at h;simp only[mQG,mKl,mKu,mJa,decide_eq_false_iff_not]at h;omega
theorem PS.CT(s:PS)(e:Int):(s.fail e).ws=s.ws:=by unfold PS.fail;split<;>rfl
theorem aZT{base h:ad}{pb:Nat}{lv:Bool}{s:PS}(hp:lP lv base h pb s){k:Value->ad->Prop}
 (hk:∀h' v s',s.name ao=(v,s')->lP lv base h' pb s'->s'.ws.length<=s.ws.length->v.size<=12->k (.string v) h'):
 Ct 123 [.pointer (some ⟨pb,0,none⟩)] h k:=by
 obtain⟨A,hA⟩:=Ar.ex;obtain⟨ws,err,ex⟩:=s;refine hp.elim (fun wb wn wc eb en ec at_ i all w r g qw hz hw lM hr hi bZx qe=>?_);have g:h pb=some (.cells #[.slice wb wn wc,.int .i64 at_,.int .i64 err,.slice eb en ec] 136 (0,0)):=g;have lM:ws=w::r:=lM;have cJ:wb.isSome=true/\0<=at_/\at_<(wn:Int):=⟨qw.aT (by omega),hz.ix hi⟩;have cN:=hz.eq;have cZ:=hz.succ (A:=A) (by omega);obtain⟨wk,wN,wS⟩:=w;have f1:A .aI .neq err 0=decide (err≠0):=aC A ..;have f2:A .aI .neq wk 1=decide (wk≠1):=aC A ..;have gK:(err≠0\/wk≠1\/ao wS=false)->∀h1,lP lv base h1 pb (PS.fail ⟨ws,err,ex⟩ 6)->k (.string b0) h1:=fun hc h1 NH=>by
  refine hk h1 b0 _ ?_ NH (by rw[PS.CT];exact mQt _) (mQr _);subst lM;show(if err=0/\wk=1/\ao wS=true then _ else _)=_;rw[if_neg];rintro⟨h1,h2,h3⟩;rcases hc with h|h|h
  ·exact h h1
  ·exact h h2
  ·rw[h]at h3;cases h3
 have iM:err=0->wk=1->ao wS=true->∀h1 h',Le h h1->h'=bU h1 pb (.cells #[.slice wb wn wc,.int .i64 (A .bB .add .i64 at_ 1),.int .i64 err,.slice eb en ec] 136 (0,0))->k (.string wS) h':=fun h1 h2 h3 eZO h' l1 e=>by
  refine hk h' wS ⟨r,err,ex⟩ ?_ ((hp.mono l1).step lM (by show wk≠0;omega) (l1 _ _ g) hz cZ e) ?_ (Pe h3)
  ·subst lM;show(if err=0/\wk=1/\ao wS=true then _ else _)=_;rw[if_pos ⟨h1,h2,h3⟩]
  ·show r.length<=ws.length;rw[lM];exact mJM _
 clear hk;refine ah A (ax gXX.aK gXX.bF) Tryz.func123 rfl (by kernel_rfl) ?_;cbv;rw[ai A];refine aB g rfl rfl ?_;cbv;rw[ai A];refine aB g rfl rfl ?_;cbv;refine⟨cJ,?_⟩;cbv;refine qw.load hw cN (fun cs ay=>?_);have ay:cs=[.int .i64 wk,.int .i64 wN,.string wS]:=ay;subst ay;cbv;rw[ai A];refine aB g rfl rfl ?_;cbv;rw[f1];by_cases he:err=0
 ·rw[nM (by simpa using he)];cbv;rw[f2];by_cases vm:wk=1
  ·have iM:=iM he vm;rw[nM (by simpa using vm)];cbv;refine Gg.mono (fun v h1 hR=>?_);obtain⟨l1,t,rfl,ht⟩:=hR;have AV:A .not t= !t:=by rw[hA.not]
   cases t with
   |true=>have iM:=iM ht.symm h1;have g1:=l1 _ _ g;cbv;rw[AV];cbv;rw[ai A];refine aB g1 rfl rfl ?_;cbv;rw[ai A];refine ja g1 (by simp) (fun h' e1=>?_);cbv;exact iM h' l1 e1
   |false=>have gK:=gK (.inr (.inr ht.symm));cbv;rw[AV];cbv;refine Ld (hp.mono l1) 6 (fun h2 p2=>?_);have gK:=gK h2 p2;cbv;exact gK
  ·have gK:=gK (.inr (.inl vm));rw[kS vm];cbv;refine Ld hp 6 (fun h2 p2=>?_);have gK:=gK h2 p2;cbv;exact gK
 ·have gK:=gK (.inl he);rw[kS he];cbv;refine Ld hp 6 (fun h2 p2=>?_);have gK:=gK h2 p2;cbv;exact gK
theorem GX(a b:ByteArray):(a++b).size=a.size+b.size:=mZG
theorem Dc{base h:ad}{pb:Nat}{lv:Bool}{s:PS}(hp:lP lv base h pb s){k:Value->ad->Prop}
 (hk:∀h' v s',s.column ao=(v,s')->lP lv base h' pb s'->s'.ws.length<=s.ws.length->v.size<=25->k (.string v) h'):
 Ct 220 [.pointer (some ⟨pb,0,none⟩)] h k:=by
 obtain⟨A,hA⟩:=Ar.ex;refine ah A (ax gQH.aK gQH.bF) Tryz.func220 rfl (by kernel_rfl) ?_;cbv;refine aZT hp (fun h1 v1 s1 e1 p1 l1 z1=>?_);cbv;refine Ry p1 (aM [46]) (fun h2 t s2 e2 p2 l2 cJo=>?_);have TQ:s.column ao=match s1.is (aM [46])with
  | (true,q)=>let t:=q.name ao;(v1++(aM [46])++t.1,t.2)
  | (false,q)=>(v1,q):=by unfold PS.column;simp only[e1];rfl
 rw[e2]at TQ;cases t with
 |false=>have af:=hk h2 v1 s2 TQ p2 (by rw[(cJo rfl).1];exact l1) (by omega);cbv;exact af
 |true=>
  have TQ:s.column ao=let t:=s2.name ao;(v1++(aM [46])++t.1,t.2):=TQ;have l2:=l2 rfl;obtain⟨u,hu⟩:∃u,A .cat v1 (aM [46])=u:=⟨_,rfl⟩;have PH:u=v1++aM [46]:=by rw[<-hu,hA.cat]
  have lJV:u.size<=13:=by rw[PH,GX];have:(aM [46]).size=1:=rfl;omega
  have gJZ:((v1.size+(aM [46]).size:Nat):Int)<=2^62:=by have:(aM [46]).size=1:=rfl;omega
  cbv;refine⟨gJZ,?_⟩;have hu:A .cat v1 ⟨#[46]⟩=u:=hu;cbv;rw[hu];refine aZT p2 (fun h3 v3 s3 e3 p3 l3 z3=>?_);have oq:((u.size+v3.size:Nat):Int)<=2^62:=by omega
  have af:=hk h3 (A .cat u v3) s3 (by rw[TQ];simp only[e3];rw[hA.cat,PH]) p3 (by omega) (by rw[hA.cat];show(u++v3).size<=25;rw[GX];omega);cbv;refine⟨oq,?_⟩;cbv;exact af
theorem lP.aZp{base h h1 h2:ad}{pb:Nat}{lv:Bool}{s:PS}(q:lP lv base h pb s){wb eb b':Option Addr}{wn wc en ec m c':Nat}{at_ err:Int}{e':List Nd}{lv':Bool}
 (g:h pb=some (.cells #[.slice wb wn wc,.int .i64 at_,.int .i64 err,.slice eb en ec] 136 (0,0)))
 (hle:Le base h1) (qb:lv'=true->cF 325 fx base h1 (.slice b' m c') e'/\e'.length<=60) (g1:h1 pb=some (.cells #[.slice wb wn wc,.int .i64 at_,.int .i64 err,.slice eb en ec] 136 (0,0)))
 (e:h2=bU h1 pb (.cells #[.slice wb wn wc,.int .i64 at_,.int .i64 err,.slice b' m c'] 136 (0,0))):lP lv' base h2 pb { s with e:=e' }:=by
 obtain⟨eXH,eXF,eXG,jJg,jJc,jJf,jJL,i,all,g0,g2,g3,g4,g5,g6,g7,g9,CO⟩:=q.out;rw[g]at g0;cases g0;subst e;refine⟨wb,wn,wc,b',m,c',at_,i,all,ae,g2,g3,g4,g5,g6,fun hl=>⟨(qb hl).1.mono (bR.set g1 (by decide)),(qb hl).2⟩,fun b x hb=>?_,CO⟩;have ch:b≠pb:=fun e=>by rw[e,CO]at hb;cases hb
 rw[aO ch];exact hle b x hb
theorem oE{base h:ad}{pb:Nat}{s:PS}(hp:lP true base h pb s)(op a b vk vn:Int)(vs nm:ByteArray){k:Value->ad->Prop}
 (hk:∀h' v s',s.node ⟨op,a,b,⟨vk,vn,vs⟩,nm⟩=(v,s')->lP true base h' pb s'->s'.ws=s.ws->k (.int .i64 v) h'):
 Ct 264 [.pointer (some ⟨pb,0,none⟩),.agg #[.int .i64 op,.int .i64 a,.int .i64 b,.int .i64 vk,.int .i64 vn,.string vs,.string nm]] h k:=by
 obtain⟨A,hA⟩:=Ar.ex;obtain⟨ws,err,ex⟩:=s;refine hp.elim (fun wb wn wc eb en ec at_ i all w r g qw hz hw lM hr hi bZx qe=>?_);obtain⟨qb,Ah⟩:=qe rfl;have qb:cF 325 fx base h (.slice eb en ec) ex:=qb;have Ah:ex.length<=60:=Ah;have Qh:=qb.sl.len;have g:h pb=some (.cells #[.slice wb wn wc,.int .i64 at_,.int .i64 err,.slice eb en ec] 136 (0,0)):=g;have f1:A .aI .neq err 0=decide (err≠0):=aC A ..;have f2:A .aI .geq (A .nat en) 60=decide (en>=60):=by rw[cf A,hA.nat,decide_eq_decide];simp only[mQJ];omega
 obtain⟨nd,KL⟩:∃nd:Nd,nd=⟨op,a,b,⟨vk,vn,vs⟩,nm⟩:=⟨_,rfl⟩;have EX:PS.node ⟨ws,err,ex⟩ nd=if err≠0 then(0,⟨ws,err,ex⟩)else if ex.length>=60 then(0,PS.fail ⟨ws,err,ex⟩ 4)else((ex.length:Int),⟨ws,err,ex++[nd]⟩):=rfl
 rw[<-KL]at hk;obtain⟨xl,fQU⟩:∃xl:Int,(ex.length:Int)=xl:=⟨_,rfl⟩;rw[fQU]at EX;have dL:∀m2,m2=en+1->A .bB .sub .i64 (A .nat m2) 1=xl:=fun m2 e=>by
  rw[zK A _ _ (by rw[hA.nat];simp only[mQJ];omega),hA.nat];simp only[mQJ];omega
 clear fQU;refine ah A (ax gQc.aK gQc.bF) Tryz.func264 rfl (by kernel_rfl) ?_;cbv;rw[ai A];refine aB g rfl rfl ?_;cbv;rw[f1];by_cases he:err=0
 ·rw[if_neg (by simpa using he)]at EX;rw[nM (by simpa using he)];cbv;rw[ai A];refine aB g rfl rfl ?_;cbv;rw[f2];by_cases so:en>=60
  ·rw[if_pos (by omega)]at EX;have af:=fun h2 p2=>hk h2 0 _ EX p2 (PS.CT _ _);rw[kS so];cbv;refine Ld hp 4 (fun h2 p2=>?_);have af:=af h2 p2;cbv;exact af
  ·rw[if_neg (by omega)]at EX;rw[nM so];cbv;rw[ai A];refine aB g rfl rfl ?_;cbv;intro n1 h1 g1 e1;have l1:Le h h1:=by rw[e1];exact Le.set g1
   have f3:=(congrFun e1 n1).trans ae;have qv:Sl 325 fx h1 (.slice (some ⟨n1,0,none⟩) 1 1) [nd]:=bA (s:=fx) f3 (by rw[KL];rfl);have jZK:=l1 _ _ g;cbv;refine aB jZK rfl rfl ?_;cbv;refine⟨⟨_,rfl,rfl⟩,?_⟩;cbv;refine(qb.mono (l1.t _)).append qv (by decide) rfl (by decide) (by omega) (hp.le.trans l1) (fun m2 b2 c2 h2 eZV l2 t2 k2 jq=>?_);have jZJ:=k2 _ _ jZK (fun c fr e=>by cases e);cbv;rw[ai A];refine ja jZJ (by simp) (fun h3 e3=>?_);have p3:=hp.aZp (lv':=true) (e':=ex++[nd]) g l2 (fun _=>⟨jq,by rw[nX,mQu];omega⟩) jZJ e3;have lQI:=(congrFun e3 pb).trans ae;have af:=hk h3 _ _ EX p3 rfl;rw[<-dL m2 eZV]at af;cbv;rw[ai A];refine aB lQI rfl rfl ?_;cbv;exact af
 ·rw[if_pos he]at EX;have af:=hk h 0 _ EX hp rfl;rw[kS he];cbv;exact af
abbrev Fm(f:FuncId)(hZK:Nat)(fn:Nat->PS->Int×PS)(n:Nat):Prop:=∀(base h:ad) (pb:Nat) (s:PS) (k:Value->ad->Prop),lP true base h pb s->9*s.ws.length+hZK<=n->
 (∀h' a s',fn n s=(a,s')->lP true base h' pb s'->s'.ws.length<=s.ws.length->k (.int .i64 a) h')->Ct f [.pointer (some ⟨pb,0,none⟩)] h k
theorem aJb{base h:ad}{pb:Nat}{lv:Bool}{s:PS}(hp:lP lv base h pb s){n:Nat}(hn:h n=none)(l:List ByteArray){m:Nat}{h1:ad}(e:h1=bU h n (.cells (List.toArray (l.map Value.string)) 9 (0,0)))(hm:m=l.length)(hl:l.length<=10){k:Value->ad->Prop}
 (hk:∀h' s',s.cd l=s'->lP lv base h' pb s'->s'.ws.length<=s.ws.length->k (.tuple #[]) h'):Ct 122 [.pointer (some ⟨pb,0,none⟩),.slice (some ⟨n,0,none⟩) m m] h1 k:=by
 subst hm e;have JD:=hp.le.none hn;have ql:Sl 9 dX (bU base n (.cells (List.toArray (l.map Value.string)) 9 (0,0))) (.slice (some ⟨n,0,none⟩) l.length l.length) l:=by
  refine Sl.fresh (c:=l.map Value.string) ae ⟨?_,fun i x hx=>?_⟩ (by omega) (mQt _)
  ·show 0+l.length*1<=_;rw[mQz];omega
  ·show List.take 1 (List.drop (0+i*1) _)=[Value.string x];obtain⟨h1,h2⟩:=HH.1 hx;rw[mQY,mZt,mQy (by simpa using h1)];simp[h2]
 exact fQd (hp.add hn) ql (fun h' s' e p le=>hk h' s' e (p.drop JD (fun _ _ _ q=>by cases q;decide)) le)
theorem iS{s s':PS}{str:ByteArray}{op:Int}{r:List (ByteArray×Int)}(e:s.is str=(true,s')):s.eQ ((str,op)::r)=(some op,s'):=by show(match s.is str with| (true,q)=>_| (false,q)=>_)=_;rw[e]
theorem bE{s s':PS}{str:ByteArray}{op:Int}{r:List (ByteArray×Int)}(e:s.is str=(false,s')):s.eQ ((str,op)::r)=s'.eQ r:=by show(match s.is str with| (true,q)=>_| (false,q)=>_)=_;rw[e]
theorem xR{sub:PS->Int×PS}{ops:List (ByteArray×Int)}{n:Nat}{a op:Int}{p q:PS}(e:p.eQ ops=(some op,q)):iA sub ops (n+1) a p=iA sub ops n ((sub q).2.node (bin op a (sub q).1)).1 ((sub q).2.node (bin op a (sub q).1)).2:=by show(match p.eQ ops with| (some op,p)=>_| (none,p)=>(a,p))=_;rw[e]
theorem yN{sub:PS->Int×PS}{ops:List (ByteArray×Int)}{n:Nat}{a:Int}{p q:PS}(e:p.eQ ops=(none,q))(hq:q=p):iA sub ops n a p=(a,p):=by
 subst hq;cases n with
 |zero=>rfl
 |succ n=>show(match q.eQ ops with| (some op,p)=>_| (none,p)=>(a,p))=_;rw[e]
theorem bKx{n:Nat}(IH:Fm 298 7 (FP ao) n):Fm 263 8 (Vx ao) (n+1):=by
 intro base h pb s k hp hf hk;obtain⟨A,hA⟩:=Ar.ex;obtain⟨ops,zQ⟩:∃ops:List (ByteArray×Int),ops=[((aM [111,114]),6)]:=⟨_,rfl⟩;obtain⟨sub,eM⟩:∃sub,sub=FP ao n:=⟨_,rfl⟩;have aV:Vx ao (n+1) s=iA sub ops (sub s).2.ws.length (sub s).1 (sub s).2:=by rw[zQ,eM];simp only[Vx]
 refine ah A (ax gQd.aK gQd.bF) Tryz.func263 rfl (by kernel_rfl) ?_;cbv;refine IH base h pb s _ hp (by omega) (fun h1 a1 s1 e1 p1 l1=>?_);rw[<-eM]at e1;rw[e1]at aV;obtain⟨R,hR⟩:∃R,iA sub ops s1.ws.length a1 s1=R:=⟨_,rfl⟩;have aV:Vx ao (n+1) s=R:=aV.trans hR;obtain⟨I,aY⟩:∃I:Nat->Int->ad->Prop,∀m g h',I m g h'=∃fu s2,lP true base h' pb s2/\s2.ws.length<=fu/\iA sub ops fu g s2=R/\s2.ws.length<=s.ws.length/\m=s2.ws.length:=⟨_,fun _ _ _=>rfl⟩;have hJ:I s1.ws.length a1 h1:=by rw[aY];exact⟨_,s1,p1,mQt _,hR,l1,rfl⟩
 have oX:∀h' g s2,R=(g,s2)->lP true base h' pb s2->s2.ws.length<=s.ws.length->k (.int .i64 g) h':=fun h' g s2 e p l=>hk h' g s2 (aV.trans e) p l;clear hk hR aV e1;cbv;refine aX.go (G:=Int) (fun g=>[(3,.v (.int .i64 g))]) (fun _=>[]) (fun m g h'=>I m g h') s1.ws.length a1 ⟨?_,?_,?_⟩ hJ ?_
 ·cbv
 ·cbv
 ·cbv
 ·intro m g h' hI;rw[aY]at hI;cbv;obtain⟨fu,s2,p2,dKx,he,pz,hm⟩:=hI;refine Ry p2 (aM [111,114]) (fun h3 t s3 e3 p3 Mn bZj=>?_);cases t with
  |true=>
   have Mn:=Mn rfl;have eo:s2.eQ ops=(some 6,s3):=by rw[zQ];exact iS e3
   cbv;have Jg:9*s3.ws.length+7<=n:=by omega
   refine IH base h3 pb s3 _ p3 Jg (fun h4 b s4 e4 p4 l4=>?_);rw[<-eM]at e4;obtain⟨fu,rfl⟩:∃Qx,fu=Qx+1:=⟨fu-1,by omega⟩;have he:=(xR (sub:=sub) (n:=fu) (a:=g) eo).symm.trans he;rw[e4]at he;cbv;refine oE p4 6 g b 0 0 _ _ (fun h5 v5 s5 e5 p5 w5=>?_);have e5:s4.node (bin 6 g b)=(v5,s5):=e5;have he:iA sub ops fu v5 s5=R:=by rw[<-he];show _=iA sub ops fu (s4.node (bin 6 g b)).1 (s4.node (bin 6 g b)).2;rw[e5]
   have cXa:I s5.ws.length v5 h5:=by rw[aY];exact⟨fu,s5,p5,by rw[w5];omega,he,by rw[w5];omega,rfl⟩
   have aP:s5.ws.length<m:=by rw[w5];omega
   clear he aY hJ oX;cbv;refine⟨s5.ws.length,_,aP,⟨?_,?_,?_⟩,cXa⟩
   ·cbv
   ·cbv
   ·cbv
  |false=>
   obtain⟨rfl,rfl⟩:=bZj rfl;have eo:s3.eQ ops=(none,s3):=by rw[zQ];exact bE e3
   have af:=oX h3 g s3 (he.symm.trans (yN eo rfl)) p3 pz;cbv;exact af
theorem bXO{n:Nat}(IH:Fm 323 6 (wv ao) n):Fm 298 7 (FP ao) (n+1):=by
 intro base h pb s k hp hf hk;obtain⟨A,hA⟩:=Ar.ex;obtain⟨ops,zQ⟩:∃ops:List (ByteArray×Int),ops=[((aM [97,110,100]),7)]:=⟨_,rfl⟩;obtain⟨sub,eM⟩:∃sub,sub=wv ao n:=⟨_,rfl⟩;have aV:FP ao (n+1) s=iA sub ops (sub s).2.ws.length (sub s).1 (sub s).2:=by rw[zQ,eM];simp only[FP]
 refine ah A (ax fKF.aK fKF.bF) Tryz.func298 rfl (by kernel_rfl) ?_;cbv;refine IH base h pb s _ hp (by omega) (fun h1 a1 s1 e1 p1 l1=>?_);rw[<-eM]at e1;rw[e1]at aV;obtain⟨R,hR⟩:∃R,iA sub ops s1.ws.length a1 s1=R:=⟨_,rfl⟩;have aV:FP ao (n+1) s=R:=aV.trans hR;obtain⟨I,aY⟩:∃I:Nat->Int->ad->Prop,∀m g h',I m g h'=∃fu s2,lP true base h' pb s2/\s2.ws.length<=fu/\iA sub ops fu g s2=R/\s2.ws.length<=s.ws.length/\m=s2.ws.length:=⟨_,fun _ _ _=>rfl⟩;have hJ:I s1.ws.length a1 h1:=by rw[aY];exact⟨_,s1,p1,mQt _,hR,l1,rfl⟩
 have oX:∀h' g s2,R=(g,s2)->lP true base h' pb s2->s2.ws.length<=s.ws.length->k (.int .i64 g) h':=fun h' g s2 e p l=>hk h' g s2 (aV.trans e) p l;clear hk hR aV e1;cbv;refine aX.go (G:=Int) (fun g=>[(3,.v (.int .i64 g))]) (fun _=>[]) (fun m g h'=>I m g h') s1.ws.length a1 ⟨?_,?_,?_⟩ hJ ?_
 ·cbv
 ·cbv
 ·cbv
 ·intro m g h' hI;rw[aY]at hI;cbv;obtain⟨fu,s2,p2,dKx,he,pz,hm⟩:=hI;refine Ry p2 (aM [97,110,100]) (fun h3 t s3 e3 p3 Mn bZj=>?_);cases t with
  |true=>
   have Mn:=Mn rfl;have eo:s2.eQ ops=(some 7,s3):=by rw[zQ];exact iS e3
   cbv;have Jg:9*s3.ws.length+6<=n:=by omega
   refine IH base h3 pb s3 _ p3 Jg (fun h4 b s4 e4 p4 l4=>?_);rw[<-eM]at e4;obtain⟨fu,rfl⟩:∃Qx,fu=Qx+1:=⟨fu-1,by omega⟩;have he:=(xR (sub:=sub) (n:=fu) (a:=g) eo).symm.trans he;rw[e4]at he;cbv;refine oE p4 7 g b 0 0 _ _ (fun h5 v5 s5 e5 p5 w5=>?_);have e5:s4.node (bin 7 g b)=(v5,s5):=e5;have he:iA sub ops fu v5 s5=R:=by rw[<-he];show _=iA sub ops fu (s4.node (bin 7 g b)).1 (s4.node (bin 7 g b)).2;rw[e5]
   have cXa:I s5.ws.length v5 h5:=by rw[aY];exact⟨fu,s5,p5,by rw[w5];omega,he,by rw[w5];omega,rfl⟩
   have aP:s5.ws.length<m:=by rw[w5];omega
   clear he aY hJ oX;cbv;refine⟨s5.ws.length,_,aP,⟨?_,?_,?_⟩,cXa⟩
   ·cbv
   ·cbv
   ·cbv
  |false=>
   obtain⟨rfl,rfl⟩:=bZj rfl;have eo:s3.eQ ops=(none,s3):=by rw[zQ];exact bE e3
   have af:=oX h3 g s3 (he.symm.trans (yN eo rfl)) p3 pz;cbv;exact af
theorem aJc{n:Nat}(IH:Fm 355 2 (wz ao) n):Fm 354 3 (Fq ao) (n+1):=by
 intro base h pb s k hp hf hk;obtain⟨A,hA⟩:=Ar.ex;obtain⟨ops,zQ⟩:∃ops:List (ByteArray×Int),ops=[((aM [42]),16)]:=⟨_,rfl⟩;obtain⟨sub,eM⟩:∃sub,sub=wz ao n:=⟨_,rfl⟩;have aV:Fq ao (n+1) s=iA sub ops (sub s).2.ws.length (sub s).1 (sub s).2:=by rw[zQ,eM];simp only[Fq]
 refine ah A (ax fJX.aK fJX.bF) Tryz.func354 rfl (by kernel_rfl) ?_;cbv;refine IH base h pb s _ hp (by omega) (fun h1 a1 s1 e1 p1 l1=>?_);rw[<-eM]at e1;rw[e1]at aV;obtain⟨R,hR⟩:∃R,iA sub ops s1.ws.length a1 s1=R:=⟨_,rfl⟩;have aV:Fq ao (n+1) s=R:=aV.trans hR;obtain⟨I,aY⟩:∃I:Nat->Int->ad->Prop,∀m g h',I m g h'=∃fu s2,lP true base h' pb s2/\s2.ws.length<=fu/\iA sub ops fu g s2=R/\s2.ws.length<=s.ws.length/\m=s2.ws.length:=⟨_,fun _ _ _=>rfl⟩;have hJ:I s1.ws.length a1 h1:=by rw[aY];exact⟨_,s1,p1,mQt _,hR,l1,rfl⟩
 have oX:∀h' g s2,R=(g,s2)->lP true base h' pb s2->s2.ws.length<=s.ws.length->k (.int .i64 g) h':=fun h' g s2 e p l=>hk h' g s2 (aV.trans e) p l;clear hk hR aV e1;cbv;refine aX.go (G:=Int) (fun g=>[(3,.v (.int .i64 g))]) (fun _=>[]) (fun m g h'=>I m g h') s1.ws.length a1 ⟨?_,?_,?_⟩ hJ ?_
 ·cbv
 ·cbv
 ·cbv
 ·intro m g h' hI;rw[aY]at hI;cbv;obtain⟨fu,s2,p2,dKx,he,pz,hm⟩:=hI;refine Ry p2 (aM [42]) (fun h3 t s3 e3 p3 Mn bZj=>?_);cases t with
  |true=>
   have Mn:=Mn rfl;have eo:s2.eQ ops=(some 16,s3):=by rw[zQ];exact iS e3
   cbv;have Jg:9*s3.ws.length+2<=n:=by omega
   refine IH base h3 pb s3 _ p3 Jg (fun h4 b s4 e4 p4 l4=>?_);rw[<-eM]at e4;obtain⟨fu,rfl⟩:∃Qx,fu=Qx+1:=⟨fu-1,by omega⟩;have he:=(xR (sub:=sub) (n:=fu) (a:=g) eo).symm.trans he;rw[e4]at he;cbv;refine oE p4 16 g b 0 0 _ _ (fun h5 v5 s5 e5 p5 w5=>?_);have e5:s4.node (bin 16 g b)=(v5,s5):=e5;have he:iA sub ops fu v5 s5=R:=by rw[<-he];show _=iA sub ops fu (s4.node (bin 16 g b)).1 (s4.node (bin 16 g b)).2;rw[e5]
   have cXa:I s5.ws.length v5 h5:=by rw[aY];exact⟨fu,s5,p5,by rw[w5];omega,he,by rw[w5];omega,rfl⟩
   have aP:s5.ws.length<m:=by rw[w5];omega
   clear he aY hJ oX;cbv;refine⟨s5.ws.length,_,aP,⟨?_,?_,?_⟩,cXa⟩
   ·cbv
   ·cbv
   ·cbv
  |false=>
   obtain⟨rfl,rfl⟩:=bZj rfl;have eo:s3.eQ ops=(none,s3):=by rw[zQ];exact bE e3
   have af:=oX h3 g s3 (he.symm.trans (yN eo rfl)) p3 pz;cbv;exact af
theorem aXE{n:Nat}(IH:Fm 354 3 (Fq ao) n):Fm 353 4 (wu ao) (n+1):=by
 intro base h pb s k hp hf hk;obtain⟨A,hA⟩:=Ar.ex;obtain⟨ops,zQ⟩:∃ops:List (ByteArray×Int),ops=[((aM [43]),14),((aM [45]),15)]:=⟨_,rfl⟩;obtain⟨sub,eM⟩:∃sub,sub=Fq ao n:=⟨_,rfl⟩;have aV:wu ao (n+1) s=iA sub ops (sub s).2.ws.length (sub s).1 (sub s).2:=by rw[zQ,eM];simp only[wu]
 refine ah A (ax fJY.aK fJY.bF) Tryz.func353 rfl (by kernel_rfl) ?_;cbv;refine IH base h pb s _ hp (by omega) (fun h1 a1 s1 e1 p1 l1=>?_);rw[<-eM]at e1;rw[e1]at aV;obtain⟨R,hR⟩:∃R,iA sub ops s1.ws.length a1 s1=R:=⟨_,rfl⟩;have aV:wu ao (n+1) s=R:=aV.trans hR;obtain⟨I,aY⟩:∃I:Nat->Int->ad->Prop,∀m g h',I m g h'=∃fu s2,lP true base h' pb s2/\s2.ws.length<=fu/\iA sub ops fu g s2=R/\s2.ws.length<=s.ws.length/\m=s2.ws.length:=⟨_,fun _ _ _=>rfl⟩;have hJ:I s1.ws.length a1 h1:=by rw[aY];exact⟨_,s1,p1,mQt _,hR,l1,rfl⟩
 have oX:∀h' g s2,R=(g,s2)->lP true base h' pb s2->s2.ws.length<=s.ws.length->k (.int .i64 g) h':=fun h' g s2 e p l=>hk h' g s2 (aV.trans e) p l;clear hk hR aV e1;cbv;refine aX.go (G:=Int) (fun g=>[(3,.v (.int .i64 g))]) (fun _=>[]) (fun m g h'=>I m g h') s1.ws.length a1 ⟨?_,?_,?_⟩ hJ ?_
 ·cbv
 ·cbv
 ·cbv
 ·intro m g h' hI;rw[aY]at hI;cbv;obtain⟨fu,s2,p2,dKx,he,pz,hm⟩:=hI;have n1:A .aI .eql 14 0=false:=by rw[aA A];rfl
  have n2:A .aI .eql 15 0=false:=by rw[aA A];rfl
  have n3:A .aI .eql 0 0=true:=by rw[aA A];rfl
  refine Ry p2 (aM [43]) (fun h3 t s3 e3 p3 Mn bZj=>?_);cases t with
  |true=>
   have Mn:=Mn rfl;have eo:s2.eQ ops=(some 14,s3):=by rw[zQ];exact iS e3
   cbv;rw[n1];cbv;have Jg:9*s3.ws.length+3<=n:=by omega
   refine IH base h3 pb s3 _ p3 Jg (fun h4 b s4 e4 p4 l4=>?_);rw[<-eM]at e4;obtain⟨fu,rfl⟩:∃Qx,fu=Qx+1:=⟨fu-1,by omega⟩;have he:=(xR (sub:=sub) (n:=fu) (a:=g) eo).symm.trans he;rw[e4]at he;cbv;refine oE p4 14 g b 0 0 _ _ (fun h5 v5 s5 e5 p5 w5=>?_);have e5:s4.node (bin 14 g b)=(v5,s5):=e5;have he:iA sub ops fu v5 s5=R:=by rw[<-he];show _=iA sub ops fu (s4.node (bin 14 g b)).1 (s4.node (bin 14 g b)).2;rw[e5]
   have cXa:I s5.ws.length v5 h5:=by rw[aY];exact⟨fu,s5,p5,by rw[w5];omega,he,by rw[w5];omega,rfl⟩
   have aP:s5.ws.length<m:=by rw[w5];omega
   clear he aY hJ oX;cbv;refine⟨s5.ws.length,_,aP,⟨?_,?_,?_⟩,cXa⟩
   ·cbv
   ·cbv
   ·cbv
  |false=>
   obtain⟨rfl,rfl⟩:=bZj rfl;have gKG:=e3;clear Mn bZj e3 p3;cbv;refine Ry p2 (aM [45]) (fun h3 t s3 e3 p3 Mn bZj=>?_);cases t with
   |true=>
    have Mn:=Mn rfl;have eo:=(bE (op:=14) (r:=[((aM [45]),15)]) gKG).trans (iS e3);rw[<-zQ]at eo;cbv;rw[n2];cbv;have Jg:9*s3.ws.length+3<=n:=by omega
    refine IH base h3 pb s3 _ p3 Jg (fun h4 b s4 e4 p4 l4=>?_);rw[<-eM]at e4;obtain⟨fu,rfl⟩:∃Qx,fu=Qx+1:=⟨fu-1,by omega⟩;have he:=(xR (sub:=sub) (n:=fu) (a:=g) eo).symm.trans he;rw[e4]at he;cbv;refine oE p4 15 g b 0 0 _ _ (fun h5 v5 s5 e5 p5 w5=>?_);have e5:s4.node (bin 15 g b)=(v5,s5):=e5;have he:iA sub ops fu v5 s5=R:=by rw[<-he];show _=iA sub ops fu (s4.node (bin 15 g b)).1 (s4.node (bin 15 g b)).2;rw[e5]
    have cXa:I s5.ws.length v5 h5:=by rw[aY];exact⟨fu,s5,p5,by rw[w5];omega,he,by rw[w5];omega,rfl⟩
    have aP:s5.ws.length<m:=by rw[w5];omega
    clear he aY hJ oX;cbv;refine⟨s5.ws.length,_,aP,⟨?_,?_,?_⟩,cXa⟩
    ·cbv
    ·cbv
    ·cbv
   |false=>obtain⟨rfl,rfl⟩:=bZj rfl;have eo:=(bE (op:=14) (r:=[((aM [45]),15)]) gKG).trans (bE e3);rw[<-zQ]at eo;have af:=oX h3 g s3 (he.symm.trans (yN eo rfl)) p3 pz;cbv;rw[n3];cbv;exact af
theorem aZO{n:Nat}(IH:Fm 323 6 (wv ao) n)(IN:Fm 343 5 (Bj ao) n):Fm 323 6 (wv ao) (n+1):=by
 intro base h pb s k hp hf hk;obtain⟨A,hA⟩:=Ar.ex;have aV:wv ao (n+1) s=match s.is (aM [110,111,116])with
  | (true,p)=>let a:=wv ao n p;a.2.node (un 3 a.1)
  | (false,p)=>Bj ao n p:=by simp only[wv];rfl
 refine ah A (ax fKl.aK fKl.bF) Tryz.func323 rfl (by kernel_rfl) ?_;cbv;refine Ry hp (aM [110,111,116]) (fun h1 t s1 e1 p1 ji mK=>?_);rw[e1]at aV;cases t with
 |true=>
  have ji:=ji rfl;have aV:wv ao (n+1) s=(wv ao n s1).2.node (un 3 (wv ao n s1).1):=aV;have Jg:9*s1.ws.length+6<=n:=by omega
  cbv;refine IH base h1 pb s1 _ p1 Jg (fun h2 a s2 e2 p2 l2=>?_);rw[e2]at aV;cbv;refine oE p2 3 a 0 0 0 _ _ (fun h3 v3 s3 e3 p3 w3=>?_);have e3:s2.node (un 3 a)=(v3,s3):=e3;have af:=hk h3 v3 s3 (aV.trans e3) p3 (by rw[w3];omega);cbv;exact af
 |false=>obtain⟨rfl,rfl⟩:=mK rfl;have aV:wv ao (n+1) s1=Bj ao n s1:=aV;cbv;refine IN base h1 pb s1 _ p1 (by omega) (fun h2 a s2 e2 p2 l2=>?_);have af:=hk h2 a s2 (aV.trans e2) p2 l2;cbv;exact af
theorem aZR{n:Nat}(IH:Fm 355 2 (wz ao) n)(IN:Fm 356 1 (zO ao) n):Fm 355 2 (wz ao) (n+1):=by
 intro base h pb s k hp hf hk;obtain⟨A,hA⟩:=Ar.ex;have aV:wz ao (n+1) s=match s.is (aM [45])with
  | (true,p)=>let a:=wz ao n p;a.2.node (un 4 a.1)
  | (false,p)=>zO ao n p:=by simp only[wz];rfl
 refine ah A (ax fJW.aK fJW.bF) Tryz.func355 rfl (by kernel_rfl) ?_;cbv;refine Ry hp (aM [45]) (fun h1 t s1 e1 p1 ji mK=>?_);rw[e1]at aV;cases t with
 |true=>
  have ji:=ji rfl;have aV:wz ao (n+1) s=(wz ao n s1).2.node (un 4 (wz ao n s1).1):=aV;have Jg:9*s1.ws.length+2<=n:=by omega
  cbv;refine IH base h1 pb s1 _ p1 Jg (fun h2 a s2 e2 p2 l2=>?_);rw[e2]at aV;cbv;refine oE p2 4 a 0 0 0 _ _ (fun h3 v3 s3 e3 p3 w3=>?_);have e3:s2.node (un 4 a)=(v3,s3):=e3;have af:=hk h3 v3 s3 (aV.trans e3) p3 (by rw[w3];omega);cbv;exact af
 |false=>obtain⟨rfl,rfl⟩:=mK rfl;have aV:wz ao (n+1) s1=zO ao n s1:=aV;cbv;refine IN base h1 pb s1 _ p1 (by omega) (fun h2 a s2 e2 p2 l2=>?_);have af:=hk h2 a s2 (aV.trans e2) p2 l2;cbv;exact af
theorem ZB{i:Nat}{w:ByteArray}(hw:(pj.map (·.1))[i]? =some w):pj.drop i=(w,8+(i:Int))::pj.drop (i+1):=by
 have hi:=(HH.1 hw).1;have hi:i<6:=hi;have h6:i=0\/i=1\/i=2\/i=3\/i=4\/i=5:=by omega
 rcases h6 with rfl|rfl|rfl|rfl|rfl|rfl<;>(cases hw;rfl)
theorem Np{n:Nat}(IH:Fm 353 4 (wu ao) n):Fm 343 5 (Bj ao) (n+1):=by
 intro base h pb s k hp hf hk;obtain⟨A,hA⟩:=Ar.ex;obtain⟨sub,eM⟩:∃sub,sub=wu ao n:=⟨_,rfl⟩;have aV:Bj ao (n+1) s=match (sub s).2.is (aM [105,115])with
  | (true,q)=>(q.cd [(aM [110,117,108,108])]).node (un 5 (sub s).1)
  | (false,q)=>match q.eQ pj with
   | (some op,q)=>(sub q).2.node (bin op (sub s).1 (sub q).1)
   | (none,q)=>((sub s).1,q):=by rw[eM];simp only[Bj];rfl
 refine ah A (ax fKa.aK fKa.bF) Tryz.func343 rfl (by kernel_rfl) ?_;cbv;refine IH base h pb s _ hp (by omega) (fun h1 a s1 e1 p1 l1=>?_);rw[<-eM]at e1;rw[e1]at aV;cbv;refine Ry p1 (aM [105,115]) (fun h2 t s2 e2 p2 iJ cJo=>?_);replace aV:Bj ao (n+1) s=match s1.is (aM [105,115])with
  | (true,q)=>(q.cd [(aM [110,117,108,108])]).node (un 5 a)
  | (false,q)=>match q.eQ pj with
   | (some op,q)=>(sub q).2.node (bin op a (sub q).1)
   | (none,q)=>(a,q):=aV
 rw[e2]at aV;cases t with
 |true=>have iJ:=iJ rfl;replace aV:Bj ao (n+1) s=(s2.cd [(aM [110,117,108,108])]).node (un 5 a):=aV;cbv;intro n3 h3 g3 e3;refine aJb p2 g3 [(aM [110,117,108,108])] e3 rfl (by decide) (fun h4 s4 e4 p4 l4=>?_);rw[e4]at aV;cbv;refine oE p4 5 a 0 0 0 _ _ (fun h5 v5 s5 e5 p5 w5=>?_);have e5:s4.node (un 5 a)=(v5,s5):=e5;have af:=hk h5 v5 s5 (aV.trans e5) p5 (by rw[w5];omega);cbv;exact af
 |false=>
  obtain⟨rfl,rfl⟩:=cJo rfl;clear e2 cJo iJ p1;replace aV:Bj ao (n+1) s=match s2.eQ pj with
   | (some op,q)=>(sub q).2.node (bin op a (sub q).1)
   | (none,q)=>(a,q):=aV
  obtain⟨L6,iZk⟩:∃L,L=pj.map (·.1):=⟨_,rfl⟩;have iZj:L6.length=6:=by rw[iZk];rfl
  cbv;intro n3 h3 g3 e3;have e3:h3=bU h2 n3 (.cells (List.toArray ((pj.map (·.1)).map Value.string)) 9 (0,0)):=e3;have l3:Le h2 h3:=by rw[e3];exact Le.set g3
  have p3:=p2.mono l3;have gs:h3 n3=some (.cells (List.toArray (L6.map Value.string)) 9 (0,0)):=by rw[e3,iZk];exact ae
  have ql:Sl 9 dX h3 (.slice (some ⟨n3,0,none⟩) 6 6) L6:=by
   have:=Sl.fresh (e:=9) (s:=dX) (xs:=L6) (cap:=6) gs ⟨?_,fun i x hx=>?_⟩ (by omega) (by omega)
   ·rw[iZj]at this;exact this
   ·show 0+L6.length*1<=_;rw[mQz];omega
   ·show List.take 1 (List.drop (0+i*1) _)=[Value.string x];obtain⟨h1,h2⟩:=HH.1 hx;rw[mQY,mZt,mQy (by simpa using h1)];simp[h2]
  obtain⟨I,aY⟩:∃I:Nat->Int->ad->Prop,∀m g h',I m g h'=∃i:Nat,aS g i/\i<=6/\m=6-i/\h'=h3/\s2.eQ (pj.drop i)=s2.eQ pj:=⟨_,fun _ _ _=>rfl⟩;have hJ:I 6 0 h3:=by rw[aY];exact⟨0,⟨rfl⟩,by decide,rfl,rfl,rfl⟩
  clear e3 gs p2;cbv;refine aX.go (G:=Int) (fun g=>[(5,.v (.int .i64 g))]) (fun _=>[]) (fun m g h'=>I m g h') 6 0 ⟨?_,?_,?_⟩ hJ ?_
  ·cbv
  ·cbv
  ·cbv
  ·intro m g h' hI;rw[aY]at hI;cbv;obtain⟨i,hg,hi,hm,rfl,he⟩:=hI;have f1:A .aI .lss g 6=decide (i<6):=hg.iJ ⟨rfl⟩;have lXe:A .aI .lss g (A .nat 6)=decide (i<6):=hg.iJ (aS.nat 6);first|rw[f1] |rw[lXe]
   by_cases aP:i<6
   ·obtain⟨w,hw⟩:=aE (xs:=L6) (i:=i) (by omega);have Za:=ZB (i:=i) (w:=w) (by rw[<-iZk];exact hw);rw[Za]at he;have cJ:(some (⟨n3,0,none⟩:Addr)).isSome=true/\0<=g/\g<((6:Nat):Int):=⟨rfl,hg.ix aP⟩;have lN:=hg.eq;have cZ:=hg.succ (A:=A) (by omega);have Wg:A .bB .add .i64 8 g=8+(i:Int):=by rw[tI A _ _ (by omega),lN]
    obtain⟨op,fXv⟩:∃op:Int,8+(i:Int)=op:=⟨_,rfl⟩;rw[fXv]at Wg he;clear fXv Za;rw[kS aP];cbv;refine⟨cJ,?_⟩;cbv;refine ql.load hw lN (fun cs ay=>?_);have ay:cs=[.string w]:=ay;subst ay;cbv;refine Ry p3 w (fun h4 t s4 e4 p4 gJv kXH=>?_);cases t with
    |true=>
     have gJv:=gJv rfl;have eo:=he.symm.trans (iS e4);rw[eo]at aV;replace aV:Bj ao (n+1) s=(sub s4).2.node (bin op a (sub s4).1):=aV;have Jg:9*s4.ws.length+4<=n:=by omega
     cbv;refine IH base h4 pb s4 _ p4 Jg (fun h5 b s5 e5 p5 l5=>?_);rw[<-eM]at e5;rw[e5]at aV;cbv;rw[Wg];refine oE p5 op a b 0 0 _ _ (fun h6 v6 s6 e6 p6 w6=>?_);have e6:s5.node (bin op a b)=(v6,s6):=e6;have af:=hk h6 v6 s6 (aV.trans e6) p6 (by rw[w6];omega);cbv;exact af
    |false=>
     obtain⟨rfl,rfl⟩:=kXH rfl;have cD:I (6-(i+1)) (A .bB .add .i64 g 1) h4:=by rw[aY];exact⟨i+1,cZ,aP,rfl,rfl,(bE e4).symm.trans he⟩
     have kX:6-(i+1)<m:=by omega
     clear aY;cbv;refine⟨6-(i+1),_,kX,⟨?_,?_,?_⟩,cD⟩
     ·cbv
     ·cbv
     ·cbv
   ·have kKv:i=6:=by omega
    subst kKv;have he:s2.eQ pj=(none,s2):=he.symm;rw[he]at aV;have af:=hk h' a s2 aV p3 l1;rw[nM aP];cbv;exact af
def Yo(n:Nat)(s:PS):Int×PS:=match s.is (aM [116,114,117,101])with
 | (true,q)=>q.node (lit ⟨1,1,b0⟩)
 | (false,q)=>match q.is (aM [102,97,108,115,101])with
  | (true,q)=>q.node (lit ⟨1,0,b0⟩)
  | (false,q)=>match q.is (aM [110,117,108,108])with
   | (true,q)=>q.node (lit v0)
   | (false,q)=>match q.is (aM [40])with
    | (true,q)=>let a:=Vx ao n q;(a.1,a.2.cd [(aM [41])])
    | (false,q)=>let s:=q.column ao;s.2.node (iP s.1)
theorem aZJ{n:Nat}(IH:Fm 263 8 (Vx ao) n):Fm 356 1 (zO ao) (n+1):=by
 intro base h pb s k hp hf hk;obtain⟨A,hA⟩:=Ar.ex;obtain⟨ws,err,ex⟩:=s;refine hp.elim (fun wb wn wc eb en ec at_ i all w r g qw hz hw lM hr hi bZx qe=>?_);have g:h pb=some (.cells #[.slice wb wn wc,.int .i64 at_,.int .i64 err,.slice eb en ec] 136 (0,0)):=g;have lM:ws=w::r:=lM;have cJ:wb.isSome=true/\0<=at_/\at_<(wn:Int):=⟨qw.aT (by omega),hz.ix hi⟩;have cN:=hz.eq;have cZ:=hz.succ (A:=A) (by omega);obtain⟨wk,wN,wS⟩:=w;have f1:A .aI .neq err 0=decide (err≠0):=aC A ..;have f2:A .aI .eql wk 2=decide (wk=2):=aA A ..;have f3:A .aI .eql wk 3=decide (wk=3):=aA A ..;have aV:zO ao (n+1) ⟨ws,err,ex⟩=if err≠0 then(0,⟨ws,err,ex⟩)else if wk=2 then PS.node ⟨r,err,ex⟩ (lit ⟨2,wN,b0⟩)else if wk=3 then PS.node ⟨r,err,ex⟩ (lit ⟨3,0,wS⟩)else Yo n ⟨ws,err,ex⟩:=by subst lM;simp only[zO];rfl
 have aQn:wk≠0->∀h',h'=bU h pb (.cells #[.slice wb wn wc,.int .i64 (A .bB .add .i64 at_ 1),.int .i64 err,.slice eb en ec] 136 (0,0))->lP true base h' pb ⟨r,err,ex⟩:=fun hk h' e=>hp.step lM hk g hz cZ e;have mF:r.length<=ws.length:=by rw[lM];exact mJM _
 obtain⟨s,hs⟩:∃s:PS,s=⟨ws,err,ex⟩:=⟨_,rfl⟩;have wC:s.ws.length=ws.length:=by rw[hs]
 rw[<-hs]at aV hp hk hf;refine ah A (ax fJV.aK fJV.bF) Tryz.func356 rfl (by kernel_rfl) ?_;cbv;rw[ai A];refine aB g rfl rfl ?_;cbv;rw[ai A];refine aB g rfl rfl ?_;cbv;refine⟨cJ,?_⟩;cbv;refine qw.load hw cN (fun cs ay=>?_);have ay:cs=[.int .i64 wk,.int .i64 wN,.string wS]:=ay;subst ay;cbv;rw[ai A];refine aB g rfl rfl ?_;cbv;rw[f1];by_cases he:err≠0
 ·rw[if_pos he]at aV;have af:=hk h 0 _ aV hp (mQt _);rw[kS he];cbv;exact af
 ·rw[if_neg he]at aV;rw[nM he];cbv;rw[f2];by_cases sJ:wk=2
  ·rw[if_pos sJ]at aV;have aQn:=aQn (by omega);rw[kS sJ];cbv;rw[ai A];refine aB g rfl rfl ?_;cbv;rw[ai A];refine ja g (by simp) (fun h1 e1=>?_);have p1:=aQn h1 e1;cbv;refine oE p1 1 0 0 2 wN _ _ (fun h2 v2 s2 e2 p2 w2=>?_);have e2:PS.node ⟨r,err,ex⟩ (lit ⟨2,wN,b0⟩)=(v2,s2):=e2;have af:=hk h2 v2 s2 (aV.trans e2) p2 (by rw[w2,wC];exact mF);cbv;exact af
  ·rw[if_neg sJ]at aV;rw[nM sJ];cbv;rw[f3];by_cases Ia:wk=3
   ·rw[if_pos Ia]at aV;have aQn:=aQn (by omega);rw[kS Ia];cbv;rw[ai A];refine aB g rfl rfl ?_;cbv;rw[ai A];refine ja g (by simp) (fun h1 e1=>?_);have p1:=aQn h1 e1;cbv;refine oE p1 1 0 0 3 0 wS _ (fun h2 v2 s2 e2 p2 w2=>?_);have e2:PS.node ⟨r,err,ex⟩ (lit ⟨3,0,wS⟩)=(v2,s2):=e2;have af:=hk h2 v2 s2 (aV.trans e2) p2 (by rw[w2,wC];exact mF);cbv;exact af
   ·rw[if_neg Ia]at aV;rw[nM Ia];clear aQn hs cJ g qe lM f1 f2 f3;cbv;refine Ry hp (aM [116,114,117,101]) (fun h1 t s1 kV p1 ji mK=>?_);cases t with
    |true=>
     have ji:=ji rfl;replace aV:zO ao (n+1) s=s1.node (lit ⟨1,1,b0⟩):=by rw[aV];unfold Yo;simp only[kV]
     cbv;refine oE p1 1 0 0 1 1 _ _ (fun h2 v2 s2 e2 p2 w2=>?_);have e2:s1.node (lit ⟨1,1,b0⟩)=(v2,s2):=e2;have af:=hk h2 v2 s2 (aV.trans e2) p2 (by rw[w2];omega);cbv;exact af
    |false=>
     obtain⟨jE,iW⟩:=mK rfl;replace jE:=jE.symm;replace iW:=iW.symm;subst jE iW;clear ji mK p1;cbv;refine Ry hp (aM [102,97,108,115,101]) (fun h1 t s1 rf p1 ji mK=>?_);cases t with
     |true=>
      have ji:=ji rfl;replace aV:zO ao (n+1) s=s1.node (lit ⟨1,0,b0⟩):=by rw[aV];unfold Yo;simp only[kV,rf]
      cbv;refine oE p1 1 0 0 1 0 _ _ (fun h2 v2 s2 e2 p2 w2=>?_);have e2:s1.node (lit ⟨1,0,b0⟩)=(v2,s2):=e2;have af:=hk h2 v2 s2 (aV.trans e2) p2 (by rw[w2];omega);cbv;exact af
     |false=>
      obtain⟨jE,iW⟩:=mK rfl;replace jE:=jE.symm;replace iW:=iW.symm;subst jE iW;clear ji mK p1;cbv;refine Ry hp (aM [110,117,108,108]) (fun h1 t s1 JH p1 ji mK=>?_);cases t with
      |true=>
       have ji:=ji rfl;replace aV:zO ao (n+1) s=s1.node (lit v0):=by rw[aV];unfold Yo;simp only[kV,rf,JH]
       cbv;refine oE p1 1 0 0 0 0 _ _ (fun h2 v2 s2 e2 p2 w2=>?_);have e2:s1.node (lit v0)=(v2,s2):=e2;have af:=hk h2 v2 s2 (aV.trans e2) p2 (by rw[w2];omega);cbv;exact af
      |false=>
       obtain⟨jE,iW⟩:=mK rfl;replace jE:=jE.symm;replace iW:=iW.symm;subst jE iW;clear ji mK p1;cbv;refine Ry hp (aM [40]) (fun h1 t s1 bJc p1 ji mK=>?_);cases t with
       |true=>
        have ji:=ji rfl;replace aV:zO ao (n+1) s=((Vx ao n s1).1,(Vx ao n s1).2.cd [(aM [41])]):=by rw[aV];unfold Yo;simp only[kV,rf,JH,bJc]
        have Jg:9*s1.ws.length+8<=n:=by omega
        cbv;refine IH base h1 pb s1 _ p1 Jg (fun h2 a s2 e2 p2 l2=>?_);rw[e2]at aV;cbv;intro n3 h3 g3 e3;refine aJb p2 g3 [(aM [41])] e3 rfl (by decide) (fun h4 s4 e4 p4 l4=>?_);have af:=hk h4 a s4 (by rw[aV];show(a,s2.cd _)=_;rw[e4]) p4 (by omega);cbv;exact af
       |false=>
        obtain⟨jE,iW⟩:=mK rfl;replace jE:=jE.symm;replace iW:=iW.symm;subst jE iW;cbv;refine Dc p1 (fun h2 v s2 e2 p2 l2 z2=>?_);replace aV:zO ao (n+1) s=s2.node (iP v):=by rw[aV];unfold Yo;simp only[kV,rf,JH,bJc,e2]
        cbv;refine oE p2 2 0 0 0 0 _ v (fun h3 v3 s3 e3 p3 w3=>?_);have e3:s2.node (iP v)=(v3,s3):=e3;have af:=hk h3 v3 s3 (aV.trans e3) p3 (by rw[w3];omega);cbv;exact af
theorem Kk:∀n,Fm 263 8 (Vx ao) n/\Fm 298 7 (FP ao) n/\Fm 323 6 (wv ao) n/\Fm 343 5 (Bj ao) n/\Fm 353 4 (wu ao) n/\Fm 354 3 (Fq ao) n/\Fm 355 2 (wz ao) n/\Fm 356 1 (zO ao) n
 |0=>⟨fun _ _ _ _ _ _ h=>by omega,fun _ _ _ _ _ _ h=>by omega,fun _ _ _ _ _ _ h=>by omega,fun _ _ _ _ _ _ h=>by omega,fun _ _ _ _ _ _ h=>by omega,fun _ _ _ _ _ _ h=>by omega,fun _ _ _ _ _ _ h=>by omega,fun _ _ _ _ _ _ h=>by omega⟩
 |n+1=>by
  obtain⟨h1,h2,h3,h4,h5,h6,h7,h8⟩:=Kk n;exact⟨bKx h2,bXO h3,aZO h3 h4,Np h5,aXE h6,aJc h7,aZR h7 h8,aZJ h1⟩
theorem lP.freeze{base h:ad}{pb:Nat}{lv:Bool}{s:PS}(q:lP lv base h pb s):lP false (Sx.eF h pb) h pb s:=by
 obtain⟨wb,wn,wc,eb,en,ec,at_,i,all,g1,g2,g3,g4,g5,g6,g7,g9,CO⟩:=q.out;refine⟨wb,wn,wc,eb,en,ec,at_,i,all,g1,g2.mono (fun b c e fr _ hb=>?_),g3,g4,g5,g6,(fun hh=>by cases hh),Sx.fY h pb,Sx.dP h pb⟩;have ch:b≠pb:=fun e=>by rw[e,CO]at hb;cases hb
 rw[Sx.cY ch];exact g9 b _ hb
theorem fJl{base h:ad}{pb:Nat}{lv:Bool}{s:PS}(hp:lP lv base h pb s){k:Value->ad->Prop}
 (hk:∀Xd h' b n c e s',s.expr ao=(e,s')->e.length<=60->Le base Xd->lP false Xd h' pb s'->Sl 325 fx Xd (.slice b n c) e->s'.ws.length<=s.ws.length->k (.slice b n c) h'):
 Ct 217 [.pointer (some ⟨pb,0,none⟩)] h k:=by
 obtain⟨A,hA⟩:=Ar.ex;refine hp.elim (fun wb wn wc eb en ec at_ i all w r g qw hz hw lM hr hi bZx qe=>?_);have hle:=hp.le;refine ah A (ax gQK.aK gQK.bF) Tryz.func217 rfl (by kernel_rfl) ?_;cbv;rw[ai A];refine ja g (by simp) (fun h1 e1=>?_);have p1:lP true base h1 pb { s with e:=[] }:=hp.aZp (lv':=true) g hle (fun _=>⟨cF.nil,by decide⟩) g e1;clear qe;cbv;refine(Kk (9*s.ws.length+9)).1 base h1 pb _ _ p1 (by show 9*s.ws.length+8<=_;omega) (fun h2 a s2 e2 p2 l2=>?_);have l2:s2.ws.length<=s.ws.length:=l2;refine p2.elim (fun eJp hZb iKA Ux iJs iJz jJL i2 lXP w2 r2 g2 hZL dL vj kJp aKo aQp kJq eKl=>?_);obtain⟨qb,Ah⟩:=eKl rfl;have hex:s.expr ao=(s2.e,s2):=by unfold PS.expr;simp only[e2]
 have p3:=p2.freeze;have Ap:Le base (Sx.eF h2 pb):=fun b o hb=>by
  have ch:b≠pb:=fun e=>by
   obtain⟨_,_,_,_,_,_,_,_,_,_,_,_,_,_,_,_,_,CO⟩:=hp.out;rw[e,CO]at hb;cases hb
  rw[Sx.cY ch];exact p2.le b o hb
 have qs:Sl 325 fx (Sx.eF h2 pb) (.slice Ux iJs iJz) s2.e:=qb.sl.mono (fun b c e fr hm hb=>by
  have ch:b≠pb:=fun e'=>by
   rw[e',g2]at hb;cases hb;simp[fx]at hm
  rw[Sx.cY ch];exact hb)
 have af:=hk _ h2 Ux iJs iJz s2.e s2 hex Ah Ap p3 qs l2;cbv;rw[ai A];refine aB g2 rfl rfl ?_;cbv;exact af
end Go.S
