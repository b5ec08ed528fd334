import Derived.Test.YtekoaiendgjkdaaGreatUA
import Derived.Test.YtekoaiendgjkdaaGreatRd
import Derived.Test.YtekoaiendgjkdaaGreatEA
import Derived.Test.YtekoaiendgjkdaaGreatEC
set_option linter.unusedVariables false
set_option linter.unusedSimpArgs false
set_option linter.unusedSectionVars false
set_option maxRecDepth 100000
set_option maxHeartbeats 8000000
namespace Go.S
open Go.Sx Go.Proofs
def rX:Sh Wd where
 n:=3
 R _ cs v:=cs=[.int .i64 v.k,.int .i64 v.n,.string v.s]
 len:=by rintro h cs x rfl;rfl
 one:=by rintro h cs x rfl;rfl
 tys:=[]
 mono:=fun _ q=>q
def cT:Sh Nd where
 n:=7
 R _ cs v:=cs=[.int .i64 v.op,.int .i64 v.a,.int .i64 v.b,.int .i64 v.v.k,.int .i64 v.v.n,.string v.v.s,.string v.name]
 len:=by rintro h cs x rfl;rfl
 one:=by rintro h cs x rfl;rfl
 tys:=[]
 mono:=fun _ q=>q
abbrev PQ:Wd:=⟨0,0,b0⟩
def zp(ws:List Wd):Prop:=∃l,ws=l++[PQ]
theorem zp.ne{ws:List Wd}(h:zp ws):∃w r,ws=w::r:=by
 obtain⟨l,rfl⟩:=h;cases l with
 |nil=>exact⟨_,_,rfl⟩
 |cons a l=>exact⟨_,_,rfl⟩
theorem zp.tail{w:Wd}{r:List Wd}(h:zp (w::r))(hk:w.k≠0):zp r:=by
 obtain⟨l,h⟩:=h;cases l with
 |nil=>cases h;exact absurd rfl hk
 |cons a l=>cases h;exact⟨l,rfl⟩
structure gC(lv:Bool)(base h:ad)(pb:Nat)(s:PS):Prop where
 out:∃wb wn wc eb en ec at_ i all,h pb=some (.cells #[.slice wb wn wc,.int .i64 at_,.int .i64 s.err,.slice eb en ec] 136 (0,0))/\Sl 139 rX base (.slice wb wn wc) all/\aP at_ i/\all.drop i=s.ws/\zp s.ws/\all.length<=700/\(lv=true->cK 325 cT base h (.slice eb en ec) s.e/\s.e.length<=60)/\Le base h/\base pb=none
theorem gC.le{base h:ad}{pb:Nat}{lv:Bool}{s:PS}(q:gC lv base h pb s):Le base h:=by obtain⟨_,_,_,_,_,_,_,_,_,_,_,_,_,_,_,_,q,_⟩:=q.out;exact q
theorem gC.UE{base h:ad}{pb:Nat}{lv:Bool}{s:PS}(q:gC lv base h pb s):zp s.ws:=by obtain⟨_,_,_,_,_,_,_,_,_,_,_,_,_,q,_⟩:=q.out;exact q
theorem gC.mono{base h h':ad}{pb:Nat}{lv:Bool}{s:PS}(q:gC lv base h pb s)(hl:Le h h'):gC lv base h' pb s:=by obtain⟨wb,wn,wc,eb,en,ec,at_,i,all,g1,g2,g3,g4,g5,g6,g7,g9,vw⟩:=q.out;exact⟨wb,wn,wc,eb,en,ec,at_,i,all,hl _ _ g1,g2,g3,g4,g5,g6,fun e=>⟨(g7 e).1.mono (hl.t _),(g7 e).2⟩,g9.trans hl,vw⟩
theorem _root_.Go.Sx.cK.Qd{α:Type}{e:Nat}{s:Sh α}{h0 h1 h:ad}{v:Value}{xs:List α}(q:cK e s h0 h v xs)(hn:∀j c cap,v=.slice (some ⟨j,0,none⟩) c cap->h0 j=none->h j≠none->h1 j=none):cK e s h1 h v xs:=by
 rcases q.out with g| ⟨nb,cap,g1,g2,o⟩
 ·exact⟨.inl g⟩
 ·exact⟨.inr ⟨nb,cap,g1,hn nb _ _ g1 g2 o.has,o⟩⟩
theorem gC.add{base h:ad}{pb:Nat}{lv:Bool}{s:PS}(q:gC lv base h pb s){n:Nat}{o:Obj}(hn:h n=none):gC lv (bl base n o) (bl h n o) pb s:=by
 obtain⟨wb,wn,wc,eb,en,ec,at_,i,all,g1,g2,g3,g4,g5,g6,g7,g9,vw⟩:=q.out;have bG:pb≠n:=fun e=>by rw[e,hn]at g1;cases g1
 have lb:Le base (bl base n o):=Le.set (g9.none hn);have lh:Le h (bl h n o):=Le.set hn;refine⟨wb,wn,wc,eb,en,ec,at_,i,all,lh _ _ g1,g2.mono (lb.t _),g3,g4,g5,g6,fun e=>⟨((g7 e).1.Qd (fun j c cap _ h0 hj=>?_)).mono (lh.t _),(g7 e).2⟩,fun b x hb=>?_,?_⟩
 ·have:j≠n:=fun e=>hj (by rw[e];exact hn);rw[av this];exact h0
 ·by_cases e:b=n
  ·rw[e,ae]at hb;rw[e,ae];exact hb
  ·rw[av e]at hb |-;exact g9 b x hb
 ·rw[av bG];exact vw
theorem gC.drop{base h:ad}{pb:Nat}{lv:Bool}{s:PS}{n:Nat}{o:Obj}(q:gC lv (bl base n o) h pb s)(hn:base n=none)(hw:∀e c fr,o=.cells c e fr->e≠139):gC lv base h pb s:=by
 obtain⟨wb,wn,wc,eb,en,ec,at_,i,all,g1,g2,g3,g4,g5,g6,g7,g9,vw⟩:=q.out;have lb:Le base (bl base n o):=Le.set hn;have bG:pb≠n:=fun e=>by rw[e,ae]at vw;cases vw
 have ht:bE (139::rX.tys) (bl base n o) base:=fun b c e fr hm hb=>by
  by_cases e1:b=n
  ·rw[e1,ae]at hb;cases hb;exact absurd (by simpa[rX]using hm) (hw _ _ _ rfl)
  ·rw[av e1]at hb;exact hb
 exact⟨wb,wn,wc,eb,en,ec,at_,i,all,g1,g2.mono ht,g3,g4,g5,g6,fun e=>⟨(g7 e).1.base lb,(g7 e).2⟩,lb.trans g9,by rw[av bG]at vw;exact vw⟩
theorem gC.put{base h h':ad}{pb:Nat}{lv:Bool}{s s':PS}(q:gC lv base h pb s){o:Obj}(e:h'=bl h pb o)
 (hs:∀wb wn wc eb en ec at_ i (all:List Wd),h pb=some (.cells #[.slice wb wn wc,.int .i64 at_,.int .i64 s.err,.slice eb en ec] 136 (0,0))->aP at_ i->all.drop i=s.ws->all.length<=700->∃N7 i',o=.cells #[.slice wb wn wc,.int .i64 N7,.int .i64 s'.err,.slice eb en ec] 136 (0,0)/\aP N7 i'/\all.drop i'=s'.ws)
 (hw:zp s'.ws) (he:lv=true->s'.e=s.e):gC lv base h' pb s':=by
 obtain⟨wb,wn,wc,eb,en,ec,at_,i,all,g1,g2,g3,g4,g5,g6,g7,g9,vw⟩:=q.out;obtain⟨N7,i',rfl,h1,h2⟩:=hs wb wn wc eb en ec at_ i all g1 g3 g4 g6;subst e;refine⟨wb,wn,wc,eb,en,ec,N7,i',all,ae,g2,h1,h2,hw,g6,fun hl=>?_,fun b x hb=>?_,vw⟩
 ·rw[he hl];exact⟨(g7 hl).1.mono (bE.set g1 (by decide)),(g7 hl).2⟩
 ·have bG:b≠pb:=fun e=>by rw[e,vw]at hb;cases hb
  rw[av bG];exact g9 b x hb
theorem tW(A:Ar)[hA:aX A](a b:ByteArray):A .je .neq a b=decide (a≠b):=by have h:=bN A a b;rw[hA.je]at h |-;show(!(a.toList==b.toList))=_;have h:(a.toList==b.toList)=decide (a=b):=h;rw[h];by_cases e:a=b<;>simp[e]
theorem xO{base h:ad}{pb:Nat}{lv:Bool}{s:PS}(hp:gC lv base h pb s)(e:Int){k:Value->ad->Prop}(hk:∀h',gC lv base h' pb (s.fail e)->k (.tuple #[]) h'):
 Ct 56 [.pointer (some ⟨pb,0,none⟩),.int .i64 e] h k:=by
 obtain⟨A,hA⟩:=Ar.ex;obtain⟨ws,err,ex⟩:=s;obtain⟨wb,wn,wc,eb,en,ec,at_,i,all,g,-⟩:=hp.out;have g:h pb=some (.cells #[.slice wb wn wc,.int .i64 at_,.int .i64 err,.slice eb en ec] 136 (0,0)):=g;have f1:A .aF .eql err 0=decide (err=0):=aw A ..;refine ah A (aq T56.ax T56.bm) Tryz.func56 rfl (by kernel_rfl) ?_;cbv;rw[ai A];refine ar g rfl rfl ?_;cbv;rw[f1];by_cases he:err=0
 ·have af:=fun h' (e1:h'=bl h pb (.cells #[.slice wb wn wc,.int .i64 at_,.int .i64 e,.slice eb en ec] 136 (0,0)))=>hk h' (by
   refine hp.put e1 (fun wb' wn' wc' eb' en' ec' N7 i' all' g' q1 q2 q3=>?_) ?_ ?_
   ·rw[g]at g';cases g';refine⟨at_,i',?_,q1,?_⟩
    ·simp[PS.fail,he]
    ·simp only[PS.fail];rw[if_pos he];exact q2
   ·simp only[PS.fail];rw[if_pos he];exact hp.UE
   ·intro _;simp only[PS.fail];rw[if_pos he])
  rw[decide_eq_true he];cbv;rw[ai A];refine eH g (by simp) (fun h' e1=>?_);cbv;exact af h' e1
 ·have af:=hk h (by simp only[PS.fail];rw[if_neg he];exact hp);rw[decide_eq_false he];cbv;exact af
structure rJ(s:ByteArray)(i:Nat)(t:By):Prop where
 le:i<=s.size
 eq:s.data.toList.drop i=t
theorem rJ.len{s:ByteArray}{i:Nat}{t:By}(q:rJ s i t):i+t.length=s.size:=by
 have h:s.size=s.data.toList.length:=by rw[Array.length_toList];rfl
 have:=q.le;rw[<-q.eq,List.length_drop];omega
theorem rJ.start(s:ByteArray):rJ s 0 s.data.toList:=⟨Nat.zero_le _,rfl⟩
theorem rJ.next{s:ByteArray}{i:Nat}{c:UInt8}{r:By}(q:rJ s i (c::r)):rJ s (i+1) r:=by have h1:=q.len;rw[List.length_cons]at h1;exact⟨by omega,by rw[<-List.drop_drop,q.eq];rfl⟩
theorem rJ.PB{s:ByteArray}{i:Nat}{t:By}(q:rJ s i t){n:Nat}(hn:n<=t.length):rJ s (i+n) (t.drop n):=by have h1:=q.len;exact⟨by omega,by rw[<-List.drop_drop,q.eq]⟩
theorem rJ.byte{A:Ar}[hA:aX A]{s:ByteArray}{i:Nat}{c:UInt8}{r:By}(q:rJ s i (c::r)){z:Int}(hz:aP z i):A .byte s z=(c.toNat:Int):=by
 rw[hA.byte];have e1:z.toNat=i:=by have:=hz.eq;omega
 have h2:s.data.toList[i]? =some c:=by have:=congrArg (fun l=>l[0]?) q.eq;simpa using this
 have h3:s.data[i]? =some c:=by rw[<-h2];exact(Array.getElem?_toList ..).symm
 simp only[e1,Array.getD_eq_getD_getElem?,h3,Option.getD_some]
theorem rJ.sub{A:Ar}[hA:aX A]{s:ByteArray}{i:Nat}{t:By}(q:rJ s i t){z w:Int}(hz:aP z i){n:Nat}(hw:aP w (i+n)):A .sub s z w=aC (t.take n):=by
 rw[hA.sub];have e1:z.toNat=i:=by have:=hz.eq;omega
 have e2:w.toNat=i+n:=by have:=hw.eq;omega
 simp only[e1,e2];show s.extract i (i+n)=ByteArray.mk (t.take n).toArray;have h:(s.extract i (i+n)).data=(t.take n).toArray:=by rw[ByteArray.data_extract];apply Array.ext';rw[Array.toList_extract,<-q.eq];simp[List.extract]
 exact ByteArray.ext h
theorem Dx{b:Int}{c:UInt8}(hb:b=(c.toNat:Int)){h:ad}{k:Value->ad->Prop}(hk:k (.bool (isLet c)) h):Ct 210 [.int .u8 b] h k:=by
 obtain⟨A,hA⟩:=Ar.ex;have f1:A .aF .geq b 97=decide (97<=c.toNat):=by rw[bO A,decide_eq_decide,hb];omega
 have f2:A .aF .leq b 122=decide (c.toNat<=122):=by rw[ub A,decide_eq_decide,hb];omega
 unfold isLet at hk;clear hb;generalize decide (97<=c.toNat)=u1 at *;generalize decide (c.toNat<=122)=u2 at *;refine ah A (aq Y6.ax Y6.bm) Tryz.func210 rfl (by kernel_rfl) ?_;cbv;rw[f1];cases u1 with
 |false=>cbv;exact hk
 |true=>cbv;rw[f2];exact hk
theorem CT{b:Int}{c:UInt8}(hb:b=(c.toNat:Int)){h:ad}{k:Value->ad->Prop}(hk:k (.bool (fZ c)) h):Ct 212 [.int .u8 b] h k:=by
 obtain⟨A,hA⟩:=Ar.ex;have f1:A .aF .geq b 48=decide (48<=c.toNat):=by rw[bO A,decide_eq_decide,hb];omega
 have f2:A .aF .leq b 57=decide (c.toNat<=57):=by rw[ub A,decide_eq_decide,hb];omega
 unfold fZ at hk;clear hb;generalize decide (48<=c.toNat)=u1 at *;generalize decide (c.toNat<=57)=u2 at *;refine ah A (aq Y4.ax Y4.bm) Tryz.func212 rfl (by kernel_rfl) ?_;cbv;rw[f1];cases u1 with
 |false=>cbv;exact hk
 |true=>cbv;rw[f2];exact hk
theorem uP:∀t:By,cY t<=t.length
 | []=>Nat.le_refl _
 |c::r=>by
  unfold cY;have:=uP r;cases wG c with
  |true=>simp only[List.length_cons];omega
  |false=>simp
theorem Mj{s:ByteArray}(hs:s.size<=600){i:Nat}{t:By}(q:rJ s i t){z:Int}(hz:aP z i){h:ad}{k:Value->ad->Prop}(hk:∀z',aP z' (i+cY t)->k (.int .i64 z') h):
 Ct 211 [.string s,.int .i64 z] h k:=by
 obtain⟨A,hA⟩:=Ar.ex;have sA:aP (A .iH s) s.size:=⟨by rw[hA.iH]⟩;obtain⟨I,bh⟩:∃I:Nat->Int->ad->Prop,∀m g h',I m g h'=∃j t',aP g j/\rJ s j t'/\m=t'.length/\j+cY t'=i+cY t/\h'=h:=⟨_,fun _ _ _=>rfl⟩;have hJ:I t.length z h:=by rw[bh];exact⟨i,t,hz,q,rfl,rfl,rfl⟩
 refine ah A (aq Y5.ax Y5.bm) Tryz.func211 rfl (by kernel_rfl) ?_;cbv;refine aZ.go (G:=Int) (fun g=>[(1,.v (.int .i64 g))]) (fun _=>[]) (fun m g h'=>I m g h') t.length z ⟨?_,?_,?_⟩ hJ ?_
 ·cbv
 ·cbv
 ·cbv
 ·intro m g h' hI;rw[bh]at hI;cbv;obtain⟨j,t',hg,q',hm,he,rfl⟩:=hI;have hl:=q'.len;have f1:A .aF .lss g (A .iH s)=decide (j<s.size):=hg.gE sA;have stop:t'=[]\/(∃c r,t'=c::r/\wG c=false)->cY t'=0:=by
   rintro(rfl| ⟨c,r,rfl,hc⟩)
   ·rfl
   ·unfold cY;rw[hc]
  have fin:cY t'=0->k (.int .i64 g) h':=fun e=>hk g (by rw[<-he,e];exact hg);rw[f1];cases t' with
  |nil=>
   have aI:¬j<s.size:=by have:([]:By).length=0:=rfl;omega
   have af:=fin (stop (.inl rfl));rw[decide_eq_false aI];cbv;exact af
  |cons c r=>
   have aI:j<s.size:=by have:(c::r).length=r.length+1:=rfl;omega
   have cy:0<=g/\g<(s.size:Int):=hg.ix aI;obtain⟨b,hb⟩:∃b,A .byte s g=b:=⟨_,rfl⟩;have pg:b=(c.toNat:Int):=by rw[<-hb];exact q'.byte hg
   have f2:A .aF .eql b 95=decide (c.toNat=95):=by rw[aw A,decide_eq_decide,pg];omega
   have dz:=hg.succ (A:=A) (by omega);have vj:wG c=true->I r.length (A .bA .add .i64 g 1) h':=fun e=>by
    rw[bh];refine⟨j+1,r,dz,q'.next,rfl,?_,rfl⟩;rw[<-he];have:cY (c::r)=cY r+1:=by show(match wG c with|true=>cY r+1|false=>0)=_;rw[e]
    omega
   have fK:wG c=false->k (.int .i64 g) h':=fun e=>fin (stop (.inr ⟨c,r,rfl,e⟩));have jN:r.length<m:=by rw[hm];exact Nat.lt_succ_self _
   have vg:wG c=(isLet c||fZ c||decide (c.toNat=95)):=rfl;rw[decide_eq_true aI];clear stop fin he hm bh hJ hk;cbv;refine⟨cy,?_⟩;cbv;rw[hb];refine Dx pg ?_;generalize isLet c=u1 at *;cases u1 with
   |true=>
    have vj:=vj (by rw[vg];simp);cbv;refine⟨r.length,_,jN,⟨?_,?_,?_⟩,vj⟩
    ·cbv
    ·cbv
    ·cbv
   |false=>
    cbv;refine⟨cy,?_⟩;cbv;rw[hb];refine CT pg ?_;generalize fZ c=u2 at *;cases u2 with
    |true=>
     have vj:=vj (by rw[vg];simp);cbv;refine⟨r.length,_,jN,⟨?_,?_,?_⟩,vj⟩
     ·cbv
     ·cbv
     ·cbv
    |false=>
     cbv;refine⟨cy,?_⟩;cbv;rw[hb,f2];generalize decide (c.toNat=95)=u3 at *;cases u3 with
     |true=>
      have vj:=vj (by rw[vg];simp);cbv;refine⟨r.length,_,jN,⟨?_,?_,?_⟩,vj⟩
      ·cbv
      ·cbv
      ·cbv
     |false=>have fK:=fK (by rw[vg];simp);cbv;exact fK
theorem lr(A:Ar)[hA:aX A](a b:Int)(h:-9223372036854775808<=a+b/\a+b<=9223372036854775807):A .bA .add .i64 a b=a+b:=by rw[hA.bA];exact IntWalk.i64_in _ h
theorem oR(A:Ar)[hA:aX A](a b:Int)(h:-9223372036854775808<=a-b/\a-b<=9223372036854775807):A .bA .sub .i64 a b=a-b:=by rw[hA.bA];exact IntWalk.i64_in _ h
theorem Oc(A:Ar)[hA:aX A](a b:Int)(h:-9223372036854775808<=a*b/\a*b<=9223372036854775807):A .bA .mul .i64 a b=a*b:=by rw[hA.bA];exact IntWalk.i64_in _ h
theorem Ob(A:Ar)[hA:aX A](a b:Int)(h:-9223372036854775808<=a.tdiv b/\a.tdiv b<=9223372036854775807):A .bA .quo .i64 a b=a.tdiv b:=by rw[hA.bA];exact IntWalk.i64_in _ h
theorem QD{s:ByteArray}(hs:s.size<=600){i:Nat}{t:By}(q:rJ s i t){z:Int}(hz:aP z i){h:ad}{k:Value->ad->Prop}
 (hk:∀v z' e rest,lS t 0=((v,rest),e)->(e=0->∃j,aP z' j/\rJ s j rest)->k (.tuple #[.int .i64 v,.int .i64 z',.int .i64 e]) h):
 Ct 213 [.string s,.int .i64 z] h k:=by
 obtain⟨A,hA⟩:=Ar.ex;have sA:aP (A .iH s) s.size:=⟨by rw[hA.iH]⟩;obtain⟨I,bh⟩:∃I:Nat->Int×Int->ad->Prop,∀m g h',I m g h'=∃j t',aP g.1 j/\rJ s j t'/\m=t'.length/\lS t' g.2=lS t 0/\0<=g.2/\g.2<=9223372036854775807/\h'=h:=⟨_,fun _ _ _=>rfl⟩;have hJ:I t.length (z,0) h:=by rw[bh];exact⟨i,t,hz,q,rfl,rfl,Int.le_refl _,by show(0:Int)<=9223372036854775807;decide,rfl⟩
 refine ah A (aq Y3.ax Y3.bm) Tryz.func213 rfl (by kernel_rfl) ?_;cbv;refine aZ.go (G:=Int×Int) (fun g=>[(1,.v (.int .i64 g.1)),(7,.v (.int .i64 g.2))]) (fun _=>[]) (fun m g h'=>I m g h') t.length (z,0) ⟨?_,?_,?_⟩ hJ ?_
 ·cbv
 ·cbv
 ·cbv
 ·intro m g h' hI;rw[bh]at hI;cbv;obtain⟨j,t',hg,q',hm,he,jU,oL,rfl⟩:=hI;obtain⟨z,n⟩:=g;have hg:aP z j:=hg;have he:lS t' n=lS t 0:=he;have jU:0<=n:=jU;have oL:n<=9223372036854775807:=oL;have hl:=q'.len;have f1:A .aF .lss z (A .iH s)=decide (j<s.size):=hg.gE sA;have stop:lS t' n=((n,t'),0)->k (.tuple #[.int .i64 n,.int .i64 z,.int .i64 0]) h':=fun e=>hk n z 0 t' (by rw[<-he,e]) (fun _=>⟨j,hg,q'⟩);rw[f1];cases t' with
  |nil=>
   have aI:¬j<s.size:=by have:([]:By).length=0:=rfl;omega
   have af:=stop rfl;rw[decide_eq_false aI];cbv;exact af
  |cons c r=>
   have aI:j<s.size:=by have:(c::r).length=r.length+1:=rfl;omega
   have cy:0<=z/\z<(s.size:Int):=hg.ix aI;obtain⟨b,hb⟩:∃b,A .byte s z=b:=⟨_,rfl⟩;have pg:b=(c.toNat:Int):=by rw[<-hb];exact q'.byte hg
   have dz:=hg.succ (A:=A) (by omega);have jN:r.length<m:=by rw[hm];exact Nat.lt_succ_self _
   have fK:fZ c=false->k (.tuple #[.int .i64 n,.int .i64 z,.int .i64 0]) h':=fun e=>stop (by show(match fZ c with|true=>_|false=>_)=_;rw[e]);have hq:=q'.next;obtain⟨d,hd⟩:∃d:Int,d=(c.toNat:Int)-48:=⟨_,rfl⟩;have eB:fZ c=true->0<=d/\d<=9/\lS (c::r) n=if n>(9223372036854775807-d) / 10 then((0,[]),11)else lS r (10*n+d):=fun e=>by
    have e2:=e;unfold fZ at e2;simp only[Bool.and_eq_true,decide_eq_true_eq]at e2;refine⟨by omega,by omega,?_⟩;rw[hd];show(match fZ c with|true=>_|false=>_)=_;rw[e]
   rw[decide_eq_true aI];clear stop hm hJ;cbv;refine⟨cy,?_⟩;cbv;rw[hb];refine CT pg ?_;generalize fZ c=u1 at *;cases u1 with
   |false=>have fK:=fK rfl;cbv;exact fK
   |true=>
    obtain⟨WQ,RY,M4⟩:=eB rfl;have f3:A .bA .sub .u8 b 48=d:=by rw[hA.bA,hd,pg];exact IntWalk.u8_in _ (by omega)
    have f4:A .conv .i64 d=d:=by rw[hA.conv];exact IntWalk.i64_in _ (by omega)
    obtain⟨w1,uZ⟩:∃w:Int,9223372036854775807-d=w:=⟨_,rfl⟩;obtain⟨w2,qT⟩:∃w:Int,w1 / 10=w:=⟨_,rfl⟩;have f5:A .bA .sub .i64 9223372036854775807 d=w1:=by rw[<-uZ];exact oR A _ _ (by omega)
    have Ud:w1.tdiv 10=w2:=by rw[<-qT];exact Int.tdiv_eq_ediv_of_nonneg (by omega)
    have f6:A .bA .quo .i64 w1 10=w2:=by rw[Ob A _ _ (by rw[Ud];omega),Ud]
    have f7:A .aF .gtr n w2=decide (n>w2):=bH A ..;rw[uZ,qT]at M4;rw[M4]at he;clear hd M4 eB fK;have Wc:(10:Int)≠0:=by decide
    by_cases KR:n>w2
    ·rw[if_pos KR]at he;have af:=hk 0 0 11 [] he.symm (fun h=>absurd h (by decide));rw[decide_eq_true KR]at f7;clear bh uZ qT;cbv;refine⟨cy,?_⟩;cbv;rw[hb,f3,f4];cbv;rw[f5];refine⟨Wc,?_⟩;cbv;rw[f6,f7];cbv;exact af
    ·rw[if_neg KR]at he;have f8:A .bA .mul .i64 10 n=10*n:=Oc A _ _ (by omega);have f9:A .bA .add .i64 (10*n) d=10*n+d:=lr A _ _ (by omega);have cU:I r.length (A .bA .add .i64 z 1,A .bA .add .i64 (A .bA .mul .i64 10 n) d) h':=by rw[bh,f8,f9];exact⟨j+1,r,dz,hq,rfl,he,by show 0<=10*n+d;omega,by show 10*n+d<=_;omega,rfl⟩
     rw[decide_eq_false KR]at f7;clear bh uZ qT;cbv;refine⟨cy,?_⟩;cbv;rw[hb,f3,f4];cbv;rw[f5];refine⟨Wc,?_⟩;cbv;rw[f6,f7];cbv;refine⟨r.length,(_,_),jN,⟨?_,?_,?_⟩,cU⟩
     ·cbv
     ·cbv
     ·cbv
theorem gC.elim{base h:ad}{pb:Nat}{lv:Bool}{s:PS}(q:gC lv base h pb s){C:Prop}(f:∀wb wn wc eb en ec at_ i (all:List Wd) w r,h pb=some (.cells #[.slice wb wn wc,.int .i64 at_,.int .i64 s.err,.slice eb en ec] 136 (0,0))->Sl 139 rX h (.slice wb wn wc) all->aP at_ i->all[i]? =some w->s.ws=w::r->all.drop (i+1)=r->i<wn->wn<=700->(lv=true->cK 325 cT base h (.slice eb en ec) s.e/\s.e.length<=60)->C):C:=by
 obtain⟨wb,wn,wc,eb,en,ec,at_,i,all,g1,g2,g3,g4,g5,g6,g7,g9,vw⟩:=q.out;obtain⟨w,r,hw⟩:=g5.ne;have h1:all[i]? =some w:=by have:=congrArg (fun l=>l[0]?) g4;rw[hw]at this;simpa using this
 have h2:all.drop (i+1)=r:=by rw[<-List.drop_drop,g4,hw];rfl
 have hl:=g2.len;have hi:=(List.getElem?_eq_some_iff.1 h1).1;exact f wb wn wc eb en ec at_ i all w r g1 (g2.mono (g9.t _)) g3 h1 hw h2 (by omega) (by omega) g7
theorem gC.step{base h h':ad}{pb:Nat}{lv:Bool}{s:PS}(q:gC lv base h pb s){w:Wd}{r:List Wd}(hw:s.ws=w::r)(hk:w.k≠0){wb eb:Option Addr}{wn wc en ec:Nat}{at_ N7 err:Int}{i:Nat}(g:h pb=some (.cells #[.slice wb wn wc,.int .i64 at_,.int .i64 err,.slice eb en ec] 136 (0,0)))
 (hz:aP at_ i) (hz':aP N7 (i+1)) (e:h'=bl h pb (.cells #[.slice wb wn wc,.int .i64 N7,.int .i64 err,.slice eb en ec] 136 (0,0))):gC lv base h' pb { s with ws:=r }:=by
 refine q.put e (fun wb' wn' wc' eb' en' ec' at2 i' all' g' q1 q2 q3=>?_) ?_ (fun _=>rfl)
 ·rw[g]at g';cases g';have hi:i'=i:=by have:=hz.eq;have:=q1.eq;omega
  subst hi;exact⟨N7,i'+1,rfl,hz',by rw[<-List.drop_drop,q2,hw];rfl⟩
 ·have:=q.UE;rw[hw]at this;exact this.tail hk
theorem Bm{base h:ad}{pb:Nat}{lv:Bool}{s:PS}(hp:gC lv base h pb s)(str:ByteArray){k:Value->ad->Prop}
 (hk:∀h' t s',s.is str=(t,s')->gC lv base h' pb s'->(t=true->s'.ws.length<s.ws.length)->(t=false->s'=s/\h'=h)->k (.bool t) h'):
 Ct 120 [.pointer (some ⟨pb,0,none⟩),.string str] h k:=by
 obtain⟨A,hA⟩:=Ar.ex;obtain⟨ws,err,ex⟩:=s;refine hp.elim (fun wb wn wc eb en ec at_ i all w r g qw hz hw mS hr hi ML qe=>?_);have g:h pb=some (.cells #[.slice wb wn wc,.int .i64 at_,.int .i64 err,.slice eb en ec] 136 (0,0)):=g;have mS:ws=w::r:=mS;have cy:wb.isSome=true/\0<=at_/\at_<(wn:Int):=⟨qw.bF (by omega),hz.ix hi⟩;have eX:=hz.eq;have dz:=hz.succ (A:=A) (by omega);obtain⟨wk,wN,wS⟩:=w;have f1:A .aF .neq err 0=decide (err≠0):=ay A ..;have f2:A .aF .neq wk 1=decide (wk≠1):=ay A ..;have f3:A .aF .neq wk 4=decide (wk≠4):=ay A ..;have f4:A .je .neq wS str=decide (wS≠str):=tW A ..;have fK:(err≠0\/(wk≠1/\wk≠4)\/wS≠str)->k (.bool false) h:=fun hc=>by
  refine hk h false _ ?_ hp (fun e=>by cases e) (fun _=>⟨rfl,rfl⟩);subst mS;show(if err=0/\(wk=1\/wk=4)/\wS=str then _ else _)=_;rw[if_neg];rintro⟨h1,h2,h3⟩;rcases hc with h| ⟨h,h'⟩ |h
  ·exact h h1
  ·rcases h2 with h2|h2
   ·exact h h2
   ·exact h' h2
  ·exact h h3
 have eB:err=0->(wk=1\/wk=4)->wS=str->∀h',h'=bl h pb (.cells #[.slice wb wn wc,.int .i64 (A .bA .add .i64 at_ 1),.int .i64 err,.slice eb en ec] 136 (0,0))->k (.bool true) h':=fun h1 h2 h3 h' e=>by
  refine hk h' true ⟨r,err,ex⟩ ?_ (hp.step mS (by show wk≠0;omega) g hz dz e) (fun _=>?_) (fun e=>by cases e)
  ·subst mS;show(if err=0/\(wk=1\/wk=4)/\wS=str then _ else _)=_;rw[if_pos ⟨h1,h2,h3⟩]
  ·show r.length<ws.length;rw[mS];exact Nat.lt_succ_self _
 clear hk;refine ah A (aq ZX.ax ZX.bm) Tryz.func120 rfl (by kernel_rfl) ?_;cbv;rw[ai A];refine ar g rfl rfl ?_;cbv;rw[ai A];refine ar g rfl rfl ?_;cbv;refine⟨cy,?_⟩;cbv;refine qw.load hw eX (fun cs aJ=>?_);have aJ:cs=[.int .i64 wk,.int .i64 wN,.string wS]:=aJ;subst aJ;cbv;rw[ai A];refine ar g rfl rfl ?_;cbv;rw[f1];by_cases he:err=0
 ·rw[decide_eq_false (by simpa using he)];cbv;rw[f2];by_cases pd:wk=1
  ·have eB:=eB he (.inl pd);rw[decide_eq_false (by simpa using pd)];cbv;rw[f4];by_cases h3:wS=str
   ·have eB:=eB h3;rw[decide_eq_false (by simpa using h3)];cbv;rw[ai A];refine ar g rfl rfl ?_;cbv;rw[ai A];refine eH g (by simp) (fun h' e1=>?_);cbv;exact eB h' e1
   ·have fK:=fK (.inr (.inr h3));rw[decide_eq_true h3];cbv;exact fK
  ·rw[decide_eq_true pd];cbv;rw[f3];by_cases Je:wk=4
   ·have eB:=eB he (.inr Je);rw[decide_eq_false (by simpa using Je)];cbv;rw[f4];by_cases h3:wS=str
    ·have eB:=eB h3;rw[decide_eq_false (by simpa using h3)];cbv;rw[ai A];refine ar g rfl rfl ?_;cbv;rw[ai A];refine eH g (by simp) (fun h' e1=>?_);cbv;exact eB h' e1
    ·have fK:=fK (.inr (.inr h3));rw[decide_eq_true h3];cbv;exact fK
   ·have fK:=fK (.inr (.inl ⟨pd,Je⟩));rw[decide_eq_true Je];cbv;exact fK
 ·have fK:=fK (.inl he);rw[decide_eq_true he];cbv;exact fK
theorem VA{base h:ad}{pb:Nat}{lv:Bool}{s:PS}(hp:gC lv base h pb s){l:List ByteArray}{b:Option Addr}{n c:Nat}(ql:Sl 9 cj base (.slice b n c) l){k:Value->ad->Prop}
 (hk:∀h' s',s.bS l=s'->gC lv base h' pb s'->s'.ws.length<=s.ws.length->k (.tuple #[]) h'):
 Ct 122 [.pointer (some ⟨pb,0,none⟩),.slice b n c] h k:=by
 obtain⟨A,hA⟩:=Ar.ex;have hlen:=ql.len;have wv:=ql.bound;obtain⟨I,bh⟩:∃I:Nat->Int->ad->Prop,∀m g h',I m g h'=∃i s1,aP g i/\i<=n/\m=n-i/\gC lv base h' pb s1/\s1.bS (l.drop i)=s.bS l/\s1.ws.length<=s.ws.length:=⟨_,fun _ _ _=>rfl⟩;have hJ:I n 0 h:=by rw[bh];exact⟨0,s,⟨rfl⟩,Nat.zero_le _,rfl,hp,rfl,Nat.le_refl _⟩
 refine ah A (aq ZW.ax ZW.bm) Tryz.func122 rfl (by kernel_rfl) ?_;cbv;refine aZ.go (G:=Int) (fun g=>[(4,.v (.int .i64 g))]) (fun _=>[]) (fun m g h'=>I m g h') n 0 ⟨?_,?_,?_⟩ hJ ?_
 ·cbv
 ·cbv
 ·cbv
 ·intro m g h' hI;rw[bh]at hI;cbv;obtain⟨i,s1,hg,hi,hm,q1,he,mS⟩:=hI;have f1:A .aF .lss g (A .nat n)=decide (i<n):=hg.gE (aP.nat n);rw[f1];by_cases aI:i<n
  ·obtain⟨w,hw⟩:=aD (xs:=l) (i:=i) (by omega);have cy:b.isSome=true/\0<=g/\g<(n:Int):=⟨ql.bF (by omega),hg.ix aI⟩;have iW:=hg.eq;have dz:=hg.succ (A:=A) (by omega);have hd:l.drop i=w::l.drop (i+1):=by obtain⟨h1,h2⟩:=List.getElem?_eq_some_iff.1 hw;rw[List.drop_eq_getElem_cons h1,h2]
   rw[hd]at he;have qh:=ql.mono (q1.le.t _);have cU:∀h2 s2,gC lv base h2 pb s2->s2.bS (l.drop (i+1))=s.bS l->s2.ws.length<=s1.ws.length->I (n-(i+1)) (A .bA .add .i64 g 1) h2:=fun h2 s2 p e le=>by
    rw[bh];exact⟨i+1,s2,dz,aI,rfl,p,e,by omega⟩
   have iD:n-(i+1)<m:=by omega
   clear bh hk hJ;rw[decide_eq_true aI];cbv;refine⟨cy,?_⟩;cbv;refine qh.load hw iW (fun cs aJ=>?_);have aJ:cs=[.string w]:=aJ;subst aJ;cbv;refine Bm q1 w (fun h2 t s2 e2 p2 gE Ox=>?_);have pE:A .not t= !t:=by rw[hA.not]
   cases t with
   |true=>
    have hI:=cU h2 s2 p2 (by rw[<-he];show _=(match s1.is w with| (true,p)=>p.bS _| (false,p)=>_);rw[e2]) (Nat.le_of_lt (gE rfl));clear cU;cbv;rw[pE];cbv;refine⟨n-(i+1),_,iD,⟨?_,?_,?_⟩,hI⟩
    ·cbv
    ·cbv
    ·cbv
   |false=>
    obtain⟨rfl,rfl⟩:=Ox rfl;have cU:=fun h3 p3=>cU h3 (s2.fail 6) p3 (by rw[<-he];show _=(match s2.is w with| (true,p)=>p.bS _| (false,p)=>(p.fail 6).bS _);rw[e2]) (by unfold PS.fail;split<;>exact Nat.le_refl _);cbv;rw[pE];cbv;refine xO p2 6 (fun h3 p3=>?_);have hI:=cU h3 p3;clear cU;cbv;refine⟨n-(i+1),_,iD,⟨?_,?_,?_⟩,hI⟩
    ·cbv
    ·cbv
    ·cbv
  ·have fI:i=n:=by omega
   have af:=hk h' s1 (by rw[<-he,List.drop_eq_nil_of_le (by omega)];rfl) q1 mS;rw[decide_eq_false aI];cbv;exact af
theorem Ac{s:ByteArray}(h:aj s=true):s.size<=12:=by unfold aj sS at h;simp only[Bool.and_eq_true,Bool.not_eq_eq_eq_not,Bool.not_true,Bool.or_eq_false_iff,decide_eq_false_iff_not]at h;omega
theorem PS.rq(s:PS)(e:Int):(s.fail e).ws=s.ws:=by unfold PS.fail;split<;>rfl
theorem H8{base h:ad}{pb:Nat}{lv:Bool}{s:PS}(hp:gC lv base h pb s){k:Value->ad->Prop}
 (hk:∀h' v s',s.name aj=(v,s')->gC lv base h' pb s'->s'.ws.length<=s.ws.length->v.size<=12->k (.string v) h'):
 Ct 123 [.pointer (some ⟨pb,0,none⟩)] h k:=by
 obtain⟨A,hA⟩:=Ar.ex;obtain⟨ws,err,ex⟩:=s;refine hp.elim (fun wb wn wc eb en ec at_ i all w r g qw hz hw mS hr hi ML qe=>?_);have g:h pb=some (.cells #[.slice wb wn wc,.int .i64 at_,.int .i64 err,.slice eb en ec] 136 (0,0)):=g;have mS:ws=w::r:=mS;have cy:wb.isSome=true/\0<=at_/\at_<(wn:Int):=⟨qw.bF (by omega),hz.ix hi⟩;have eX:=hz.eq;have dz:=hz.succ (A:=A) (by omega);obtain⟨wk,wN,wS⟩:=w;have f1:A .aF .neq err 0=decide (err≠0):=ay A ..;have f2:A .aF .neq wk 1=decide (wk≠1):=ay A ..;have fK:(err≠0\/wk≠1\/aj wS=false)->∀h1,gC lv base h1 pb (PS.fail ⟨ws,err,ex⟩ 6)->k (.string b0) h1:=fun hc h1 hp1=>by
  refine hk h1 b0 _ ?_ hp1 (by rw[PS.rq];exact Nat.le_refl _) (Nat.zero_le _);subst mS;show(if err=0/\wk=1/\aj wS=true then _ else _)=_;rw[if_neg];rintro⟨h1,h2,h3⟩;rcases hc with h|h|h
  ·exact h h1
  ·exact h h2
  ·rw[h]at h3;cases h3
 have eB:err=0->wk=1->aj wS=true->∀h1 h',Le h h1->h'=bl h1 pb (.cells #[.slice wb wn wc,.int .i64 (A .bA .add .i64 at_ 1),.int .i64 err,.slice eb en ec] 136 (0,0))->k (.string wS) h':=fun h1 h2 h3 h1' h' l1 e=>by
  refine hk h' wS ⟨r,err,ex⟩ ?_ ((hp.mono l1).step mS (by show wk≠0;omega) (l1 _ _ g) hz dz e) ?_ (Ac h3)
  ·subst mS;show(if err=0/\wk=1/\aj wS=true then _ else _)=_;rw[if_pos ⟨h1,h2,h3⟩]
  ·show r.length<=ws.length;rw[mS];exact Nat.le_succ _
 clear hk;refine ah A (aq ZV.ax ZV.bm) Tryz.func123 rfl (by kernel_rfl) ?_;cbv;rw[ai A];refine ar g rfl rfl ?_;cbv;rw[ai A];refine ar g rfl rfl ?_;cbv;refine⟨cy,?_⟩;cbv;refine qw.load hw eX (fun cs aJ=>?_);have aJ:cs=[.int .i64 wk,.int .i64 wN,.string wS]:=aJ;subst aJ;cbv;rw[ai A];refine ar g rfl rfl ?_;cbv;rw[f1];by_cases he:err=0
 ·rw[decide_eq_false (by simpa using he)];cbv;rw[f2];by_cases pd:wk=1
  ·have eB:=eB he pd;rw[decide_eq_false (by simpa using pd)];cbv;refine yA.mono (fun v h1 hR=>?_);obtain⟨l1,t,rfl,ht⟩:=hR;have pE:A .not t= !t:=by rw[hA.not]
   cases t with
   |true=>have eB:=eB ht.symm h1;have g1:=l1 _ _ g;cbv;rw[pE];cbv;rw[ai A];refine ar g1 rfl rfl ?_;cbv;rw[ai A];refine eH g1 (by simp) (fun h' e1=>?_);cbv;exact eB h' l1 e1
   |false=>have fK:=fK (.inr (.inr ht.symm));cbv;rw[pE];cbv;refine xO (hp.mono l1) 6 (fun h2 p2=>?_);have fK:=fK h2 p2;cbv;exact fK
  ·have fK:=fK (.inr (.inl pd));rw[decide_eq_true pd];cbv;refine xO hp 6 (fun h2 p2=>?_);have fK:=fK h2 p2;cbv;exact fK
 ·have fK:=fK (.inl he);rw[decide_eq_true he];cbv;refine xO hp 6 (fun h2 p2=>?_);have fK:=fK h2 p2;cbv;exact fK
theorem zP(a b:ByteArray):(a++b).size=a.size+b.size:=ByteArray.size_append
theorem rB{base h:ad}{pb:Nat}{lv:Bool}{s:PS}(hp:gC lv base h pb s){k:Value->ad->Prop}
 (hk:∀h' v s',s.column aj=(v,s')->gC lv base h' pb s'->s'.ws.length<=s.ws.length->v.size<=25->k (.string v) h'):
 Ct 220 [.pointer (some ⟨pb,0,none⟩)] h k:=by
 obtain⟨A,hA⟩:=Ar.ex;refine ah A (aq YX.ax YX.bm) Tryz.func220 rfl (by kernel_rfl) ?_;cbv;refine H8 hp (fun h1 v1 s1 e1 p1 l1 z1=>?_);cbv;refine Bm p1 (aC [46]) (fun h2 t s2 e2 p2 l2 Ox=>?_);have Jj:s.column aj=match s1.is (aC [46])with
  | (true,q)=>let t:=q.name aj;(v1++(aC [46])++t.1,t.2)
  | (false,q)=>(v1,q):=by unfold PS.column;simp only[e1];rfl
 rw[e2]at Jj;cases t with
 |false=>have af:=hk h2 v1 s2 Jj p2 (by rw[(Ox rfl).1];exact l1) (by omega);cbv;exact af
 |true=>
  have Jj:s.column aj=let t:=s2.name aj;(v1++(aC [46])++t.1,t.2):=Jj;have l2:=l2 rfl;obtain⟨u,hu⟩:∃u,A .cat v1 (aC [46])=u:=⟨_,rfl⟩;have Gp:u=v1++aC [46]:=by rw[<-hu,hA.cat]
  have hus:u.size<=13:=by rw[Gp,zP];have:(aC [46]).size=1:=rfl;omega
  have hc1:((v1.size+(aC [46]).size:Nat):Int)<=2^62:=by have:(aC [46]).size=1:=rfl;omega
  cbv;refine⟨hc1,?_⟩;have hu:A .cat v1 ⟨#[46]⟩=u:=hu;cbv;rw[hu];refine H8 p2 (fun h3 v3 s3 e3 p3 l3 z3=>?_);have jW:((u.size+v3.size:Nat):Int)<=2^62:=by omega
  have af:=hk h3 (A .cat u v3) s3 (by rw[Jj];simp only[e3];rw[hA.cat,Gp]) p3 (by omega) (by rw[hA.cat];show(u++v3).size<=25;rw[zP];omega);cbv;refine⟨jW,?_⟩;cbv;exact af
theorem gC.HK{base h h1 h2:ad}{pb:Nat}{lv:Bool}{s:PS}(q:gC lv base h pb s){wb eb b':Option Addr}{wn wc en ec m c':Nat}{at_ err:Int}{e':List Nd}{lv':Bool}
 (g:h pb=some (.cells #[.slice wb wn wc,.int .i64 at_,.int .i64 err,.slice eb en ec] 136 (0,0)))
 (hle:Le base h1) (qb:lv'=true->cK 325 cT base h1 (.slice b' m c') e'/\e'.length<=60) (g1:h1 pb=some (.cells #[.slice wb wn wc,.int .i64 at_,.int .i64 err,.slice eb en ec] 136 (0,0)))
 (e:h2=bl h1 pb (.cells #[.slice wb wn wc,.int .i64 at_,.int .i64 err,.slice b' m c'] 136 (0,0))):gC lv' base h2 pb { s with e:=e' }:=by
 obtain⟨wb',wn',wc',eb',en',ec',at2,i,all,g0,g2,g3,g4,g5,g6,g7,g9,vw⟩:=q.out;rw[g]at g0;cases g0;subst e;refine⟨wb,wn,wc,b',m,c',at_,i,all,ae,g2,g3,g4,g5,g6,fun hl=>⟨(qb hl).1.mono (bE.set g1 (by decide)),(qb hl).2⟩,fun b x hb=>?_,vw⟩;have bG:b≠pb:=fun e=>by rw[e,vw]at hb;cases hb
 rw[av bG];exact hle b x hb
abbrev ndV(n:Nd):Value:=.agg #[.int .i64 n.op,.int .i64 n.a,.int .i64 n.b,.int .i64 n.v.k,.int .i64 n.v.n,.string n.v.s,.string n.name]
theorem iN{base h:ad}{pb:Nat}{s:PS}(hp:gC true base h pb s)(op a b vk vn:Int)(vs nm:ByteArray){k:Value->ad->Prop}
 (hk:∀h' v s',s.node ⟨op,a,b,⟨vk,vn,vs⟩,nm⟩=(v,s')->gC true base h' pb s'->s'.ws=s.ws->k (.int .i64 v) h'):
 Ct 264 [.pointer (some ⟨pb,0,none⟩),.agg #[.int .i64 op,.int .i64 a,.int .i64 b,.int .i64 vk,.int .i64 vn,.string vs,.string nm]] h k:=by
 obtain⟨A,hA⟩:=Ar.ex;obtain⟨ws,err,ex⟩:=s;refine hp.elim (fun wb wn wc eb en ec at_ i all w r g qw hz hw mS hr hi ML qe=>?_);obtain⟨qb,qS⟩:=qe rfl;have qb:cK 325 cT base h (.slice eb en ec) ex:=qb;have qS:ex.length<=60:=qS;have MZ:=qb.sl.len;have g:h pb=some (.cells #[.slice wb wn wc,.int .i64 at_,.int .i64 err,.slice eb en ec] 136 (0,0)):=g;have f1:A .aF .neq err 0=decide (err≠0):=ay A ..;have f2:A .aF .geq (A .nat en) 60=decide (en>=60):=by rw[bO A,hA.nat,decide_eq_decide];simp only[Int.ofNat_eq_natCast];omega
 obtain⟨nd,MT⟩:∃nd:Nd,nd=⟨op,a,b,⟨vk,vn,vs⟩,nm⟩:=⟨_,rfl⟩;have sZ:PS.node ⟨ws,err,ex⟩ nd=if err≠0 then(0,⟨ws,err,ex⟩)else if ex.length>=60 then(0,PS.fail ⟨ws,err,ex⟩ 4)else((ex.length:Int),⟨ws,err,ex++[nd]⟩):=rfl
 rw[<-MT]at hk;obtain⟨xl,VZ⟩:∃xl:Int,(ex.length:Int)=xl:=⟨_,rfl⟩;rw[VZ]at sZ;have jT:∀m2,m2=en+1->A .bA .sub .i64 (A .nat m2) 1=xl:=fun m2 e=>by
  rw[oR A _ _ (by rw[hA.nat];simp only[Int.ofNat_eq_natCast];omega),hA.nat];simp only[Int.ofNat_eq_natCast];omega
 clear VZ;refine ah A (aq YC.ax YC.bm) Tryz.func264 rfl (by kernel_rfl) ?_;cbv;rw[ai A];refine ar g rfl rfl ?_;cbv;rw[f1];by_cases he:err=0
 ·rw[if_neg (by simpa using he)]at sZ;rw[decide_eq_false (by simpa using he)];cbv;rw[ai A];refine ar g rfl rfl ?_;cbv;rw[f2];by_cases ph:en>=60
  ·rw[if_pos (by omega)]at sZ;have af:=fun h2 p2=>hk h2 0 _ sZ p2 (PS.rq _ _);rw[decide_eq_true ph];cbv;refine xO hp 4 (fun h2 p2=>?_);have af:=af h2 p2;cbv;exact af
  ·rw[if_neg (by omega)]at sZ;rw[decide_eq_false ph];cbv;rw[ai A];refine ar g rfl rfl ?_;cbv;intro n1 h1 g1 e1;have l1:Le h h1:=by rw[e1];exact Le.set g1
   have f3:=(congrFun e1 n1).trans ae;have qv:Sl 325 cT h1 (.slice (some ⟨n1,0,none⟩) 1 1) [nd]:=bp (s:=cT) f3 (by rw[MT];rfl);have gp1:=l1 _ _ g;cbv;refine ar gp1 rfl rfl ?_;cbv;refine⟨⟨_,rfl,rfl⟩,?_⟩;cbv;refine(qb.mono (l1.t _)).append qv (by decide) rfl (by decide) (by omega) (hp.le.trans l1) (fun m2 b2 c2 h2 em2 l2 t2 k2 iu=>?_);have gp2:=k2 _ _ gp1 (fun c fr e=>by cases e);cbv;rw[ai A];refine eH gp2 (by simp) (fun h3 e3=>?_);have p3:=hp.HK (lv':=true) (e':=ex++[nd]) g l2 (fun _=>⟨iu,by rw[List.length_append,List.length_singleton];omega⟩) gp2 e3;have gp3:=(congrFun e3 pb).trans ae;have af:=hk h3 _ _ sZ p3 rfl;rw[<-jT m2 em2]at af;cbv;rw[ai A];refine ar gp3 rfl rfl ?_;cbv;exact af
 ·rw[if_pos he]at sZ;have af:=hk h 0 _ sZ hp rfl;rw[decide_eq_true he];cbv;exact af
abbrev tB(f:FuncId)(rank:Nat)(fn:Nat->PS->Int×PS)(n:Nat):Prop:=∀(base h:ad) (pb:Nat) (s:PS) (k:Value->ad->Prop),gC true base h pb s->9*s.ws.length+rank<=n->
 (∀h' a s',fn n s=(a,s')->gC true base h' pb s'->s'.ws.length<=s.ws.length->k (.int .i64 a) h')->Ct f [.pointer (some ⟨pb,0,none⟩)] h k
theorem Ib{base h:ad}{pb:Nat}{lv:Bool}{s:PS}(hp:gC lv base h pb s){n:Nat}(hn:h n=none)(l:List ByteArray){m:Nat}{h1:ad}(e:h1=bl h n (.cells (List.toArray (l.map Value.string)) 9 (0,0)))(hm:m=l.length)(hl:l.length<=10){k:Value->ad->Prop}
 (hk:∀h' s',s.bS l=s'->gC lv base h' pb s'->s'.ws.length<=s.ws.length->k (.tuple #[]) h'):Ct 122 [.pointer (some ⟨pb,0,none⟩),.slice (some ⟨n,0,none⟩) m m] h1 k:=by
 subst hm e;have AE:=hp.le.none hn;have ql:Sl 9 cj (bl base n (.cells (List.toArray (l.map Value.string)) 9 (0,0))) (.slice (some ⟨n,0,none⟩) l.length l.length) l:=by
  refine Sl.fresh (c:=l.map Value.string) ae ⟨?_,fun i x hx=>?_⟩ (by omega) (Nat.le_refl _)
  ·show 0+l.length*1<=_;rw[List.length_map];omega
  ·show List.take 1 (List.drop (0+i*1) _)=[Value.string x];obtain⟨h1,h2⟩:=List.getElem?_eq_some_iff.1 hx;rw[Nat.zero_add,Nat.mul_one,List.drop_eq_getElem_cons (by simpa using h1)];simp[h2]
 exact VA (hp.add hn) ql (fun h' s' e p le=>hk h' s' e (p.drop AE (fun _ _ _ q=>by cases q;decide)) le)
theorem dM{s s':PS}{str:ByteArray}{op:Int}{r:List (ByteArray×Int)}(e:s.is str=(true,s')):s.cN ((str,op)::r)=(some op,s'):=by show(match s.is str with| (true,q)=>_| (false,q)=>_)=_;rw[e]
theorem aL{s s':PS}{str:ByteArray}{op:Int}{r:List (ByteArray×Int)}(e:s.is str=(false,s')):s.cN ((str,op)::r)=s'.cN r:=by show(match s.is str with| (true,q)=>_| (false,q)=>_)=_;rw[e]
theorem nJ{sub:PS->Int×PS}{ops:List (ByteArray×Int)}{n:Nat}{a op:Int}{p q:PS}(e:p.cN ops=(some op,q)):dQ sub ops (n+1) a p=dQ sub ops n ((sub q).2.node (bin op a (sub q).1)).1 ((sub q).2.node (bin op a (sub q).1)).2:=by show(match p.cN ops with| (some op,p)=>_| (none,p)=>(a,p))=_;rw[e]
theorem oH{sub:PS->Int×PS}{ops:List (ByteArray×Int)}{n:Nat}{a:Int}{p q:PS}(e:p.cN ops=(none,q))(hq:q=p):dQ sub ops n a p=(a,p):=by
 subst hq;cases n with
 |zero=>rfl
 |succ n=>show(match q.cN ops with| (some op,p)=>_| (none,p)=>(a,p))=_;rw[e]
theorem Md{n:Nat}(IH:tB 298 7 (zo aj) n):tB 263 8 (HW aj) (n+1):=by
 intro base h pb s k hp hf hk;obtain⟨A,hA⟩:=Ar.ex;obtain⟨ops,oS⟩:∃ops:List (ByteArray×Int),ops=[((aC [111,114]),6)]:=⟨_,rfl⟩;obtain⟨sub,dr⟩:∃sub,sub=zo aj n:=⟨_,rfl⟩;have aM:HW aj (n+1) s=dQ sub ops (sub s).2.ws.length (sub s).1 (sub s).2:=by rw[oS,dr];simp only[HW]
 refine ah A (aq YD.ax YD.bm) Tryz.func263 rfl (by kernel_rfl) ?_;cbv;refine IH base h pb s _ hp (by omega) (fun h1 a1 s1 e1 p1 l1=>?_);rw[<-dr]at e1;rw[e1]at aM;obtain⟨R,hR⟩:∃R,dQ sub ops s1.ws.length a1 s1=R:=⟨_,rfl⟩;have aM:HW aj (n+1) s=R:=aM.trans hR;obtain⟨I,bh⟩:∃I:Nat->Int->ad->Prop,∀m g h',I m g h'=∃fu s2,gC true base h' pb s2/\s2.ws.length<=fu/\dQ sub ops fu g s2=R/\s2.ws.length<=s.ws.length/\m=s2.ws.length:=⟨_,fun _ _ _=>rfl⟩;have hJ:I s1.ws.length a1 h1:=by rw[bh];exact⟨_,s1,p1,Nat.le_refl _,hR,l1,rfl⟩
 have iX:∀h' g s2,R=(g,s2)->gC true base h' pb s2->s2.ws.length<=s.ws.length->k (.int .i64 g) h':=fun h' g s2 e p l=>hk h' g s2 (aM.trans e) p l;clear hk hR aM e1;cbv;refine aZ.go (G:=Int) (fun g=>[(3,.v (.int .i64 g))]) (fun _=>[]) (fun m g h'=>I m g h') s1.ws.length a1 ⟨?_,?_,?_⟩ hJ ?_
 ·cbv
 ·cbv
 ·cbv
 ·intro m g h' hI;rw[bh]at hI;cbv;obtain⟨fu,s2,p2,RU,he,vi,hm⟩:=hI;refine Bm p2 (aC [111,114]) (fun h3 t s3 e3 p3 yC KA=>?_);cases t with
  |true=>
   have yC:=yC rfl;have eo:s2.cN ops=(some 6,s3):=by rw[oS];exact dM e3
   cbv;have wK:9*s3.ws.length+7<=n:=by omega
   refine IH base h3 pb s3 _ p3 wK (fun h4 b s4 e4 p4 l4=>?_);rw[<-dr]at e4;obtain⟨fu,rfl⟩:∃AK,fu=AK+1:=⟨fu-1,by omega⟩;have he:=(nJ (sub:=sub) (n:=fu) (a:=g) eo).symm.trans he;rw[e4]at he;cbv;refine iN p4 6 g b 0 0 _ _ (fun h5 v5 s5 e5 p5 w5=>?_);have e5:s4.node (bin 6 g b)=(v5,s5):=e5;have he:dQ sub ops fu v5 s5=R:=by rw[<-he];show _=dQ sub ops fu (s4.node (bin 6 g b)).1 (s4.node (bin 6 g b)).2;rw[e5]
   have Ng:I s5.ws.length v5 h5:=by rw[bh];exact⟨fu,s5,p5,by rw[w5];omega,he,by rw[w5];omega,rfl⟩
   have aI:s5.ws.length<m:=by rw[w5];omega
   clear he bh hJ iX;cbv;refine⟨s5.ws.length,_,aI,⟨?_,?_,?_⟩,Ng⟩
   ·cbv
   ·cbv
   ·cbv
  |false=>
   obtain⟨rfl,rfl⟩:=KA rfl;have eo:s3.cN ops=(none,s3):=by rw[oS];exact aL e3
   have af:=iX h3 g s3 (he.symm.trans (oH eo rfl)) p3 vi;cbv;exact af
theorem Ks{n:Nat}(IH:tB 323 6 (pF aj) n):tB 298 7 (zo aj) (n+1):=by
 intro base h pb s k hp hf hk;obtain⟨A,hA⟩:=Ar.ex;obtain⟨ops,oS⟩:∃ops:List (ByteArray×Int),ops=[((aC [97,110,100]),7)]:=⟨_,rfl⟩;obtain⟨sub,dr⟩:∃sub,sub=pF aj n:=⟨_,rfl⟩;have aM:zo aj (n+1) s=dQ sub ops (sub s).2.ws.length (sub s).1 (sub s).2:=by rw[oS,dr];simp only[zo]
 refine ah A (aq Yi.ax Yi.bm) Tryz.func298 rfl (by kernel_rfl) ?_;cbv;refine IH base h pb s _ hp (by omega) (fun h1 a1 s1 e1 p1 l1=>?_);rw[<-dr]at e1;rw[e1]at aM;obtain⟨R,hR⟩:∃R,dQ sub ops s1.ws.length a1 s1=R:=⟨_,rfl⟩;have aM:zo aj (n+1) s=R:=aM.trans hR;obtain⟨I,bh⟩:∃I:Nat->Int->ad->Prop,∀m g h',I m g h'=∃fu s2,gC true base h' pb s2/\s2.ws.length<=fu/\dQ sub ops fu g s2=R/\s2.ws.length<=s.ws.length/\m=s2.ws.length:=⟨_,fun _ _ _=>rfl⟩;have hJ:I s1.ws.length a1 h1:=by rw[bh];exact⟨_,s1,p1,Nat.le_refl _,hR,l1,rfl⟩
 have iX:∀h' g s2,R=(g,s2)->gC true base h' pb s2->s2.ws.length<=s.ws.length->k (.int .i64 g) h':=fun h' g s2 e p l=>hk h' g s2 (aM.trans e) p l;clear hk hR aM e1;cbv;refine aZ.go (G:=Int) (fun g=>[(3,.v (.int .i64 g))]) (fun _=>[]) (fun m g h'=>I m g h') s1.ws.length a1 ⟨?_,?_,?_⟩ hJ ?_
 ·cbv
 ·cbv
 ·cbv
 ·intro m g h' hI;rw[bh]at hI;cbv;obtain⟨fu,s2,p2,RU,he,vi,hm⟩:=hI;refine Bm p2 (aC [97,110,100]) (fun h3 t s3 e3 p3 yC KA=>?_);cases t with
  |true=>
   have yC:=yC rfl;have eo:s2.cN ops=(some 7,s3):=by rw[oS];exact dM e3
   cbv;have wK:9*s3.ws.length+6<=n:=by omega
   refine IH base h3 pb s3 _ p3 wK (fun h4 b s4 e4 p4 l4=>?_);rw[<-dr]at e4;obtain⟨fu,rfl⟩:∃AK,fu=AK+1:=⟨fu-1,by omega⟩;have he:=(nJ (sub:=sub) (n:=fu) (a:=g) eo).symm.trans he;rw[e4]at he;cbv;refine iN p4 7 g b 0 0 _ _ (fun h5 v5 s5 e5 p5 w5=>?_);have e5:s4.node (bin 7 g b)=(v5,s5):=e5;have he:dQ sub ops fu v5 s5=R:=by rw[<-he];show _=dQ sub ops fu (s4.node (bin 7 g b)).1 (s4.node (bin 7 g b)).2;rw[e5]
   have Ng:I s5.ws.length v5 h5:=by rw[bh];exact⟨fu,s5,p5,by rw[w5];omega,he,by rw[w5];omega,rfl⟩
   have aI:s5.ws.length<m:=by rw[w5];omega
   clear he bh hJ iX;cbv;refine⟨s5.ws.length,_,aI,⟨?_,?_,?_⟩,Ng⟩
   ·cbv
   ·cbv
   ·cbv
  |false=>
   obtain⟨rfl,rfl⟩:=KA rfl;have eo:s3.cN ops=(none,s3):=by rw[oS];exact aL e3
   have af:=iX h3 g s3 (he.symm.trans (oH eo rfl)) p3 vi;cbv;exact af
theorem Ic{n:Nat}(IH:tB 355 2 (pG aj) n):tB 354 3 (yB aj) (n+1):=by
 intro base h pb s k hp hf hk;obtain⟨A,hA⟩:=Ar.ex;obtain⟨ops,oS⟩:∃ops:List (ByteArray×Int),ops=[((aC [42]),16)]:=⟨_,rfl⟩;obtain⟨sub,dr⟩:∃sub,sub=pG aj n:=⟨_,rfl⟩;have aM:yB aj (n+1) s=dQ sub ops (sub s).2.ws.length (sub s).1 (sub s).2:=by rw[oS,dr];simp only[yB]
 refine ah A (aq XL.ax XL.bm) Tryz.func354 rfl (by kernel_rfl) ?_;cbv;refine IH base h pb s _ hp (by omega) (fun h1 a1 s1 e1 p1 l1=>?_);rw[<-dr]at e1;rw[e1]at aM;obtain⟨R,hR⟩:∃R,dQ sub ops s1.ws.length a1 s1=R:=⟨_,rfl⟩;have aM:yB aj (n+1) s=R:=aM.trans hR;obtain⟨I,bh⟩:∃I:Nat->Int->ad->Prop,∀m g h',I m g h'=∃fu s2,gC true base h' pb s2/\s2.ws.length<=fu/\dQ sub ops fu g s2=R/\s2.ws.length<=s.ws.length/\m=s2.ws.length:=⟨_,fun _ _ _=>rfl⟩;have hJ:I s1.ws.length a1 h1:=by rw[bh];exact⟨_,s1,p1,Nat.le_refl _,hR,l1,rfl⟩
 have iX:∀h' g s2,R=(g,s2)->gC true base h' pb s2->s2.ws.length<=s.ws.length->k (.int .i64 g) h':=fun h' g s2 e p l=>hk h' g s2 (aM.trans e) p l;clear hk hR aM e1;cbv;refine aZ.go (G:=Int) (fun g=>[(3,.v (.int .i64 g))]) (fun _=>[]) (fun m g h'=>I m g h') s1.ws.length a1 ⟨?_,?_,?_⟩ hJ ?_
 ·cbv
 ·cbv
 ·cbv
 ·intro m g h' hI;rw[bh]at hI;cbv;obtain⟨fu,s2,p2,RU,he,vi,hm⟩:=hI;refine Bm p2 (aC [42]) (fun h3 t s3 e3 p3 yC KA=>?_);cases t with
  |true=>
   have yC:=yC rfl;have eo:s2.cN ops=(some 16,s3):=by rw[oS];exact dM e3
   cbv;have wK:9*s3.ws.length+2<=n:=by omega
   refine IH base h3 pb s3 _ p3 wK (fun h4 b s4 e4 p4 l4=>?_);rw[<-dr]at e4;obtain⟨fu,rfl⟩:∃AK,fu=AK+1:=⟨fu-1,by omega⟩;have he:=(nJ (sub:=sub) (n:=fu) (a:=g) eo).symm.trans he;rw[e4]at he;cbv;refine iN p4 16 g b 0 0 _ _ (fun h5 v5 s5 e5 p5 w5=>?_);have e5:s4.node (bin 16 g b)=(v5,s5):=e5;have he:dQ sub ops fu v5 s5=R:=by rw[<-he];show _=dQ sub ops fu (s4.node (bin 16 g b)).1 (s4.node (bin 16 g b)).2;rw[e5]
   have Ng:I s5.ws.length v5 h5:=by rw[bh];exact⟨fu,s5,p5,by rw[w5];omega,he,by rw[w5];omega,rfl⟩
   have aI:s5.ws.length<m:=by rw[w5];omega
   clear he bh hJ iX;cbv;refine⟨s5.ws.length,_,aI,⟨?_,?_,?_⟩,Ng⟩
   ·cbv
   ·cbv
   ·cbv
  |false=>
   obtain⟨rfl,rfl⟩:=KA rfl;have eo:s3.cN ops=(none,s3):=by rw[oS];exact aL e3
   have af:=iX h3 g s3 (he.symm.trans (oH eo rfl)) p3 vi;cbv;exact af
theorem Hn{n:Nat}(IH:tB 354 3 (yB aj) n):tB 353 4 (ym aj) (n+1):=by
 intro base h pb s k hp hf hk;obtain⟨A,hA⟩:=Ar.ex;obtain⟨ops,oS⟩:∃ops:List (ByteArray×Int),ops=[((aC [43]),14),((aC [45]),15)]:=⟨_,rfl⟩;obtain⟨sub,dr⟩:∃sub,sub=yB aj n:=⟨_,rfl⟩;have aM:ym aj (n+1) s=dQ sub ops (sub s).2.ws.length (sub s).1 (sub s).2:=by rw[oS,dr];simp only[ym]
 refine ah A (aq XM.ax XM.bm) Tryz.func353 rfl (by kernel_rfl) ?_;cbv;refine IH base h pb s _ hp (by omega) (fun h1 a1 s1 e1 p1 l1=>?_);rw[<-dr]at e1;rw[e1]at aM;obtain⟨R,hR⟩:∃R,dQ sub ops s1.ws.length a1 s1=R:=⟨_,rfl⟩;have aM:ym aj (n+1) s=R:=aM.trans hR;obtain⟨I,bh⟩:∃I:Nat->Int->ad->Prop,∀m g h',I m g h'=∃fu s2,gC true base h' pb s2/\s2.ws.length<=fu/\dQ sub ops fu g s2=R/\s2.ws.length<=s.ws.length/\m=s2.ws.length:=⟨_,fun _ _ _=>rfl⟩;have hJ:I s1.ws.length a1 h1:=by rw[bh];exact⟨_,s1,p1,Nat.le_refl _,hR,l1,rfl⟩
 have iX:∀h' g s2,R=(g,s2)->gC true base h' pb s2->s2.ws.length<=s.ws.length->k (.int .i64 g) h':=fun h' g s2 e p l=>hk h' g s2 (aM.trans e) p l;clear hk hR aM e1;cbv;refine aZ.go (G:=Int) (fun g=>[(3,.v (.int .i64 g))]) (fun _=>[]) (fun m g h'=>I m g h') s1.ws.length a1 ⟨?_,?_,?_⟩ hJ ?_
 ·cbv
 ·cbv
 ·cbv
 ·intro m g h' hI;rw[bh]at hI;cbv;obtain⟨fu,s2,p2,RU,he,vi,hm⟩:=hI;have n1:A .aF .eql 14 0=false:=by rw[aw A];rfl
  have n2:A .aF .eql 15 0=false:=by rw[aw A];rfl
  have n3:A .aF .eql 0 0=true:=by rw[aw A];rfl
  refine Bm p2 (aC [43]) (fun h3 t s3 e3 p3 yC KA=>?_);cases t with
  |true=>
   have yC:=yC rfl;have eo:s2.cN ops=(some 14,s3):=by rw[oS];exact dM e3
   cbv;rw[n1];cbv;have wK:9*s3.ws.length+3<=n:=by omega
   refine IH base h3 pb s3 _ p3 wK (fun h4 b s4 e4 p4 l4=>?_);rw[<-dr]at e4;obtain⟨fu,rfl⟩:∃AK,fu=AK+1:=⟨fu-1,by omega⟩;have he:=(nJ (sub:=sub) (n:=fu) (a:=g) eo).symm.trans he;rw[e4]at he;cbv;refine iN p4 14 g b 0 0 _ _ (fun h5 v5 s5 e5 p5 w5=>?_);have e5:s4.node (bin 14 g b)=(v5,s5):=e5;have he:dQ sub ops fu v5 s5=R:=by rw[<-he];show _=dQ sub ops fu (s4.node (bin 14 g b)).1 (s4.node (bin 14 g b)).2;rw[e5]
   have Ng:I s5.ws.length v5 h5:=by rw[bh];exact⟨fu,s5,p5,by rw[w5];omega,he,by rw[w5];omega,rfl⟩
   have aI:s5.ws.length<m:=by rw[w5];omega
   clear he bh hJ iX;cbv;refine⟨s5.ws.length,_,aI,⟨?_,?_,?_⟩,Ng⟩
   ·cbv
   ·cbv
   ·cbv
  |false=>
   obtain⟨rfl,rfl⟩:=KA rfl;have e30:=e3;clear yC KA e3 p3;cbv;refine Bm p2 (aC [45]) (fun h3 t s3 e3 p3 yC KA=>?_);cases t with
   |true=>
    have yC:=yC rfl;have eo:=(aL (op:=14) (r:=[((aC [45]),15)]) e30).trans (dM e3);rw[<-oS]at eo;cbv;rw[n2];cbv;have wK:9*s3.ws.length+3<=n:=by omega
    refine IH base h3 pb s3 _ p3 wK (fun h4 b s4 e4 p4 l4=>?_);rw[<-dr]at e4;obtain⟨fu,rfl⟩:∃AK,fu=AK+1:=⟨fu-1,by omega⟩;have he:=(nJ (sub:=sub) (n:=fu) (a:=g) eo).symm.trans he;rw[e4]at he;cbv;refine iN p4 15 g b 0 0 _ _ (fun h5 v5 s5 e5 p5 w5=>?_);have e5:s4.node (bin 15 g b)=(v5,s5):=e5;have he:dQ sub ops fu v5 s5=R:=by rw[<-he];show _=dQ sub ops fu (s4.node (bin 15 g b)).1 (s4.node (bin 15 g b)).2;rw[e5]
    have Ng:I s5.ws.length v5 h5:=by rw[bh];exact⟨fu,s5,p5,by rw[w5];omega,he,by rw[w5];omega,rfl⟩
    have aI:s5.ws.length<m:=by rw[w5];omega
    clear he bh hJ iX;cbv;refine⟨s5.ws.length,_,aI,⟨?_,?_,?_⟩,Ng⟩
    ·cbv
    ·cbv
    ·cbv
   |false=>obtain⟨rfl,rfl⟩:=KA rfl;have eo:=(aL (op:=14) (r:=[((aC [45]),15)]) e30).trans (aL e3);rw[<-oS]at eo;have af:=iX h3 g s3 (he.symm.trans (oH eo rfl)) p3 vi;cbv;rw[n3];cbv;exact af
theorem H5{n:Nat}(IH:tB 323 6 (pF aj) n)(IN:tB 343 5 (tN aj) n):tB 323 6 (pF aj) (n+1):=by
 intro base h pb s k hp hf hk;obtain⟨A,hA⟩:=Ar.ex;have aM:pF aj (n+1) s=match s.is (aC [110,111,116])with
  | (true,p)=>let a:=pF aj n p;a.2.node (un 3 a.1)
  | (false,p)=>tN aj n p:=by simp only[pF];rfl
 refine ah A (aq XY.ax XY.bm) Tryz.func323 rfl (by kernel_rfl) ?_;cbv;refine Bm hp (aC [110,111,116]) (fun h1 t s1 e1 p1 ed gN=>?_);rw[e1]at aM;cases t with
 |true=>
  have ed:=ed rfl;have aM:pF aj (n+1) s=(pF aj n s1).2.node (un 3 (pF aj n s1).1):=aM;have wK:9*s1.ws.length+6<=n:=by omega
  cbv;refine IH base h1 pb s1 _ p1 wK (fun h2 a s2 e2 p2 l2=>?_);rw[e2]at aM;cbv;refine iN p2 3 a 0 0 0 _ _ (fun h3 v3 s3 e3 p3 w3=>?_);have e3:s2.node (un 3 a)=(v3,s3):=e3;have af:=hk h3 v3 s3 (aM.trans e3) p3 (by rw[w3];omega);cbv;exact af
 |false=>obtain⟨rfl,rfl⟩:=gN rfl;have aM:pF aj (n+1) s1=tN aj n s1:=aM;cbv;refine IN base h1 pb s1 _ p1 (by omega) (fun h2 a s2 e2 p2 l2=>?_);have af:=hk h2 a s2 (aM.trans e2) p2 l2;cbv;exact af
theorem H7{n:Nat}(IH:tB 355 2 (pG aj) n)(IN:tB 356 1 (se aj) n):tB 355 2 (pG aj) (n+1):=by
 intro base h pb s k hp hf hk;obtain⟨A,hA⟩:=Ar.ex;have aM:pG aj (n+1) s=match s.is (aC [45])with
  | (true,p)=>let a:=pG aj n p;a.2.node (un 4 a.1)
  | (false,p)=>se aj n p:=by simp only[pG];rfl
 refine ah A (aq XK.ax XK.bm) Tryz.func355 rfl (by kernel_rfl) ?_;cbv;refine Bm hp (aC [45]) (fun h1 t s1 e1 p1 ed gN=>?_);rw[e1]at aM;cases t with
 |true=>
  have ed:=ed rfl;have aM:pG aj (n+1) s=(pG aj n s1).2.node (un 4 (pG aj n s1).1):=aM;have wK:9*s1.ws.length+2<=n:=by omega
  cbv;refine IH base h1 pb s1 _ p1 wK (fun h2 a s2 e2 p2 l2=>?_);rw[e2]at aM;cbv;refine iN p2 4 a 0 0 0 _ _ (fun h3 v3 s3 e3 p3 w3=>?_);have e3:s2.node (un 4 a)=(v3,s3):=e3;have af:=hk h3 v3 s3 (aM.trans e3) p3 (by rw[w3];omega);cbv;exact af
 |false=>obtain⟨rfl,rfl⟩:=gN rfl;have aM:pG aj (n+1) s1=se aj n s1:=aM;cbv;refine IN base h1 pb s1 _ p1 (by omega) (fun h2 a s2 e2 p2 l2=>?_);have af:=hk h2 a s2 (aM.trans e2) p2 l2;cbv;exact af
theorem FJ{i:Nat}{w:ByteArray}(hw:(jQ.map (·.1))[i]? =some w):jQ.drop i=(w,8+(i:Int))::jQ.drop (i+1):=by
 have hi:=(List.getElem?_eq_some_iff.1 hw).1;have hi:i<6:=hi;have h6:i=0\/i=1\/i=2\/i=3\/i=4\/i=5:=by omega
 rcases h6 with rfl|rfl|rfl|rfl|rfl|rfl<;>(cases hw;rfl)
theorem zc{n:Nat}(IH:tB 353 4 (ym aj) n):tB 343 5 (tN aj) (n+1):=by
 intro base h pb s k hp hf hk;obtain⟨A,hA⟩:=Ar.ex;obtain⟨sub,dr⟩:∃sub,sub=ym aj n:=⟨_,rfl⟩;have aM:tN aj (n+1) s=match (sub s).2.is (aC [105,115])with
  | (true,q)=>(q.bS [(aC [110,117,108,108])]).node (un 5 (sub s).1)
  | (false,q)=>match q.cN jQ with
   | (some op,q)=>(sub q).2.node (bin op (sub s).1 (sub q).1)
   | (none,q)=>((sub s).1,q):=by rw[dr];simp only[tN];rfl
 refine ah A (aq XO.ax XO.bm) Tryz.func343 rfl (by kernel_rfl) ?_;cbv;refine IH base h pb s _ hp (by omega) (fun h1 a s1 e1 p1 l1=>?_);rw[<-dr]at e1;rw[e1]at aM;cbv;refine Bm p1 (aC [105,115]) (fun h2 t s2 e2 p2 gE Ox=>?_);replace aM:tN aj (n+1) s=match s1.is (aC [105,115])with
  | (true,q)=>(q.bS [(aC [110,117,108,108])]).node (un 5 a)
  | (false,q)=>match q.cN jQ with
   | (some op,q)=>(sub q).2.node (bin op a (sub q).1)
   | (none,q)=>(a,q):=aM
 rw[e2]at aM;cases t with
 |true=>have gE:=gE rfl;replace aM:tN aj (n+1) s=(s2.bS [(aC [110,117,108,108])]).node (un 5 a):=aM;cbv;intro n3 h3 g3 e3;refine Ib p2 g3 [(aC [110,117,108,108])] e3 rfl (by decide) (fun h4 s4 e4 p4 l4=>?_);rw[e4]at aM;cbv;refine iN p4 5 a 0 0 0 _ _ (fun h5 v5 s5 e5 p5 w5=>?_);have e5:s4.node (un 5 a)=(v5,s5):=e5;have af:=hk h5 v5 s5 (aM.trans e5) p5 (by rw[w5];omega);cbv;exact af
 |false=>
  obtain⟨rfl,rfl⟩:=Ox rfl;clear e2 Ox gE p1;replace aM:tN aj (n+1) s=match s2.cN jQ with
   | (some op,q)=>(sub q).2.node (bin op a (sub q).1)
   | (none,q)=>(a,q):=aM
  obtain⟨L6,hL6⟩:∃L,L=jQ.map (·.1):=⟨_,rfl⟩;have hL6l:L6.length=6:=by rw[hL6];rfl
  cbv;intro n3 h3 g3 e3;have e3:h3=bl h2 n3 (.cells (List.toArray ((jQ.map (·.1)).map Value.string)) 9 (0,0)):=e3;have l3:Le h2 h3:=by rw[e3];exact Le.set g3
  have p3:=p2.mono l3;have gs:h3 n3=some (.cells (List.toArray (L6.map Value.string)) 9 (0,0)):=by rw[e3,hL6];exact ae
  have ql:Sl 9 cj h3 (.slice (some ⟨n3,0,none⟩) 6 6) L6:=by
   have:=Sl.fresh (e:=9) (s:=cj) (xs:=L6) (cap:=6) gs ⟨?_,fun i x hx=>?_⟩ (by omega) (by omega)
   ·rw[hL6l]at this;exact this
   ·show 0+L6.length*1<=_;rw[List.length_map];omega
   ·show List.take 1 (List.drop (0+i*1) _)=[Value.string x];obtain⟨h1,h2⟩:=List.getElem?_eq_some_iff.1 hx;rw[Nat.zero_add,Nat.mul_one,List.drop_eq_getElem_cons (by simpa using h1)];simp[h2]
  obtain⟨I,bh⟩:∃I:Nat->Int->ad->Prop,∀m g h',I m g h'=∃i:Nat,aP g i/\i<=6/\m=6-i/\h'=h3/\s2.cN (jQ.drop i)=s2.cN jQ:=⟨_,fun _ _ _=>rfl⟩;have hJ:I 6 0 h3:=by rw[bh];exact⟨0,⟨rfl⟩,by decide,rfl,rfl,rfl⟩
  clear e3 gs p2;cbv;refine aZ.go (G:=Int) (fun g=>[(5,.v (.int .i64 g))]) (fun _=>[]) (fun m g h'=>I m g h') 6 0 ⟨?_,?_,?_⟩ hJ ?_
  ·cbv
  ·cbv
  ·cbv
  ·intro m g h' hI;rw[bh]at hI;cbv;obtain⟨i,hg,hi,hm,rfl,he⟩:=hI;have f1:A .aF .lss g 6=decide (i<6):=hg.gE ⟨rfl⟩;have f1':A .aF .lss g (A .nat 6)=decide (i<6):=hg.gE (aP.nat 6);first|rw[f1] |rw[f1']
   by_cases aI:i<6
   ·obtain⟨w,hw⟩:=aD (xs:=L6) (i:=i) (by omega);have R5:=FJ (i:=i) (w:=w) (by rw[<-hL6];exact hw);rw[R5]at he;have cy:(some (⟨n3,0,none⟩:Addr)).isSome=true/\0<=g/\g<((6:Nat):Int):=⟨rfl,hg.ix aI⟩;have iW:=hg.eq;have dz:=hg.succ (A:=A) (by omega);have O4:A .bA .add .i64 8 g=8+(i:Int):=by rw[lr A _ _ (by omega),iW]
    obtain⟨op,Wu⟩:∃op:Int,8+(i:Int)=op:=⟨_,rfl⟩;rw[Wu]at O4 he;clear Wu R5;rw[decide_eq_true aI];cbv;refine⟨cy,?_⟩;cbv;refine ql.load hw iW (fun cs aJ=>?_);have aJ:cs=[.string w]:=aJ;subst aJ;cbv;refine Bm p3 w (fun h4 t s4 e4 p4 lt4 sm4=>?_);cases t with
    |true=>
     have lt4:=lt4 rfl;have eo:=he.symm.trans (dM e4);rw[eo]at aM;replace aM:tN aj (n+1) s=(sub s4).2.node (bin op a (sub s4).1):=aM;have wK:9*s4.ws.length+4<=n:=by omega
     cbv;refine IH base h4 pb s4 _ p4 wK (fun h5 b s5 e5 p5 l5=>?_);rw[<-dr]at e5;rw[e5]at aM;cbv;rw[O4];refine iN p5 op a b 0 0 _ _ (fun h6 v6 s6 e6 p6 w6=>?_);have e6:s5.node (bin op a b)=(v6,s6):=e6;have af:=hk h6 v6 s6 (aM.trans e6) p6 (by rw[w6];omega);cbv;exact af
    |false=>
     obtain⟨rfl,rfl⟩:=sm4 rfl;have cU:I (6-(i+1)) (A .bA .add .i64 g 1) h4:=by rw[bh];exact⟨i+1,dz,aI,rfl,rfl,(aL e4).symm.trans he⟩
     have iD:6-(i+1)<m:=by omega
     clear bh;cbv;refine⟨6-(i+1),_,iD,⟨?_,?_,?_⟩,cU⟩
     ·cbv
     ·cbv
     ·cbv
   ·have hi6:i=6:=by omega
    subst hi6;have he:s2.cN jQ=(none,s2):=he.symm;rw[he]at aM;have af:=hk h' a s2 aM p3 l1;rw[decide_eq_false aI];cbv;exact af
def EP(n:Nat)(s:PS):Int×PS:=match s.is (aC [116,114,117,101])with
 | (true,q)=>q.node (lit ⟨1,1,b0⟩)
 | (false,q)=>match q.is (aC [102,97,108,115,101])with
  | (true,q)=>q.node (lit ⟨1,0,b0⟩)
  | (false,q)=>match q.is (aC [110,117,108,108])with
   | (true,q)=>q.node (lit v0)
   | (false,q)=>match q.is (aC [40])with
    | (true,q)=>let a:=HW aj n q;(a.1,a.2.bS [(aC [41])])
    | (false,q)=>let s:=q.column aj;s.2.node (fk s.1)
theorem H0{n:Nat}(IH:tB 263 8 (HW aj) n):tB 356 1 (se aj) (n+1):=by
 intro base h pb s k hp hf hk;obtain⟨A,hA⟩:=Ar.ex;obtain⟨ws,err,ex⟩:=s;refine hp.elim (fun wb wn wc eb en ec at_ i all w r g qw hz hw mS hr hi ML qe=>?_);have g:h pb=some (.cells #[.slice wb wn wc,.int .i64 at_,.int .i64 err,.slice eb en ec] 136 (0,0)):=g;have mS:ws=w::r:=mS;have cy:wb.isSome=true/\0<=at_/\at_<(wn:Int):=⟨qw.bF (by omega),hz.ix hi⟩;have eX:=hz.eq;have dz:=hz.succ (A:=A) (by omega);obtain⟨wk,wN,wS⟩:=w;have f1:A .aF .neq err 0=decide (err≠0):=ay A ..;have f2:A .aF .eql wk 2=decide (wk=2):=aw A ..;have f3:A .aF .eql wk 3=decide (wk=3):=aw A ..;have aM:se aj (n+1) ⟨ws,err,ex⟩=if err≠0 then(0,⟨ws,err,ex⟩)else if wk=2 then PS.node ⟨r,err,ex⟩ (lit ⟨2,wN,b0⟩)else if wk=3 then PS.node ⟨r,err,ex⟩ (lit ⟨3,0,wS⟩)else EP n ⟨ws,err,ex⟩:=by subst mS;simp only[se];rfl
 have MN:wk≠0->∀h',h'=bl h pb (.cells #[.slice wb wn wc,.int .i64 (A .bA .add .i64 at_ 1),.int .i64 err,.slice eb en ec] 136 (0,0))->gC true base h' pb ⟨r,err,ex⟩:=fun hk h' e=>hp.step mS hk g hz dz e;have Bp:r.length<=ws.length:=by rw[mS];exact Nat.le_succ _
 obtain⟨s,hs⟩:∃s:PS,s=⟨ws,err,ex⟩:=⟨_,rfl⟩;have oK:s.ws.length=ws.length:=by rw[hs]
 rw[<-hs]at aM hp hk hf;refine ah A (aq XJ.ax XJ.bm) Tryz.func356 rfl (by kernel_rfl) ?_;cbv;rw[ai A];refine ar g rfl rfl ?_;cbv;rw[ai A];refine ar g rfl rfl ?_;cbv;refine⟨cy,?_⟩;cbv;refine qw.load hw eX (fun cs aJ=>?_);have aJ:cs=[.int .i64 wk,.int .i64 wN,.string wS]:=aJ;subst aJ;cbv;rw[ai A];refine ar g rfl rfl ?_;cbv;rw[f1];by_cases he:err≠0
 ·rw[if_pos he]at aM;have af:=hk h 0 _ aM hp (Nat.le_refl _);rw[decide_eq_true he];cbv;exact af
 ·rw[if_neg he]at aM;rw[decide_eq_false he];cbv;rw[f2];by_cases pT:wk=2
  ·rw[if_pos pT]at aM;have MN:=MN (by omega);rw[decide_eq_true pT];cbv;rw[ai A];refine ar g rfl rfl ?_;cbv;rw[ai A];refine eH g (by simp) (fun h1 e1=>?_);have p1:=MN h1 e1;cbv;refine iN p1 1 0 0 2 wN _ _ (fun h2 v2 s2 e2 p2 w2=>?_);have e2:PS.node ⟨r,err,ex⟩ (lit ⟨2,wN,b0⟩)=(v2,s2):=e2;have af:=hk h2 v2 s2 (aM.trans e2) p2 (by rw[w2,oK];exact Bp);cbv;exact af
  ·rw[if_neg pT]at aM;rw[decide_eq_false pT];cbv;rw[f3];by_cases Fj:wk=3
   ·rw[if_pos Fj]at aM;have MN:=MN (by omega);rw[decide_eq_true Fj];cbv;rw[ai A];refine ar g rfl rfl ?_;cbv;rw[ai A];refine eH g (by simp) (fun h1 e1=>?_);have p1:=MN h1 e1;cbv;refine iN p1 1 0 0 3 0 wS _ (fun h2 v2 s2 e2 p2 w2=>?_);have e2:PS.node ⟨r,err,ex⟩ (lit ⟨3,0,wS⟩)=(v2,s2):=e2;have af:=hk h2 v2 s2 (aM.trans e2) p2 (by rw[w2,oK];exact Bp);cbv;exact af
   ·rw[if_neg Fj]at aM;rw[decide_eq_false Fj];clear MN hs cy g qe mS f1 f2 f3;cbv;refine Bm hp (aC [116,114,117,101]) (fun h1 t s1 gJ p1 ed gN=>?_);cases t with
    |true=>
     have ed:=ed rfl;replace aM:se aj (n+1) s=s1.node (lit ⟨1,1,b0⟩):=by rw[aM];unfold EP;simp only[gJ]
     cbv;refine iN p1 1 0 0 1 1 _ _ (fun h2 v2 s2 e2 p2 w2=>?_);have e2:s1.node (lit ⟨1,1,b0⟩)=(v2,s2):=e2;have af:=hk h2 v2 s2 (aM.trans e2) p2 (by rw[w2];omega);cbv;exact af
    |false=>
     obtain⟨eE,dU⟩:=gN rfl;replace eE:=eE.symm;replace dU:=dU.symm;subst eE dU;clear ed gN p1;cbv;refine Bm hp (aC [102,97,108,115,101]) (fun h1 t s1 j9 p1 ed gN=>?_);cases t with
     |true=>
      have ed:=ed rfl;replace aM:se aj (n+1) s=s1.node (lit ⟨1,0,b0⟩):=by rw[aM];unfold EP;simp only[gJ,j9]
      cbv;refine iN p1 1 0 0 1 0 _ _ (fun h2 v2 s2 e2 p2 w2=>?_);have e2:s1.node (lit ⟨1,0,b0⟩)=(v2,s2):=e2;have af:=hk h2 v2 s2 (aM.trans e2) p2 (by rw[w2];omega);cbv;exact af
     |false=>
      obtain⟨eE,dU⟩:=gN rfl;replace eE:=eE.symm;replace dU:=dU.symm;subst eE dU;clear ed gN p1;cbv;refine Bm hp (aC [110,117,108,108]) (fun h1 t s1 wP p1 ed gN=>?_);cases t with
      |true=>
       have ed:=ed rfl;replace aM:se aj (n+1) s=s1.node (lit v0):=by rw[aM];unfold EP;simp only[gJ,j9,wP]
       cbv;refine iN p1 1 0 0 0 0 _ _ (fun h2 v2 s2 e2 p2 w2=>?_);have e2:s1.node (lit v0)=(v2,s2):=e2;have af:=hk h2 v2 s2 (aM.trans e2) p2 (by rw[w2];omega);cbv;exact af
      |false=>
       obtain⟨eE,dU⟩:=gN rfl;replace eE:=eE.symm;replace dU:=dU.symm;subst eE dU;clear ed gN p1;cbv;refine Bm hp (aC [40]) (fun h1 t s1 K7 p1 ed gN=>?_);cases t with
       |true=>
        have ed:=ed rfl;replace aM:se aj (n+1) s=((HW aj n s1).1,(HW aj n s1).2.bS [(aC [41])]):=by rw[aM];unfold EP;simp only[gJ,j9,wP,K7]
        have wK:9*s1.ws.length+8<=n:=by omega
        cbv;refine IH base h1 pb s1 _ p1 wK (fun h2 a s2 e2 p2 l2=>?_);rw[e2]at aM;cbv;intro n3 h3 g3 e3;refine Ib p2 g3 [(aC [41])] e3 rfl (by decide) (fun h4 s4 e4 p4 l4=>?_);have af:=hk h4 a s4 (by rw[aM];show(a,s2.bS _)=_;rw[e4]) p4 (by omega);cbv;exact af
       |false=>
        obtain⟨eE,dU⟩:=gN rfl;replace eE:=eE.symm;replace dU:=dU.symm;subst eE dU;cbv;refine rB p1 (fun h2 v s2 e2 p2 l2 z2=>?_);replace aM:se aj (n+1) s=s2.node (fk v):=by rw[aM];unfold EP;simp only[gJ,j9,wP,K7,e2]
        cbv;refine iN p2 2 0 0 0 0 _ v (fun h3 v3 s3 e3 p3 w3=>?_);have e3:s2.node (fk v)=(v3,s3):=e3;have af:=hk h3 v3 s3 (aM.trans e3) p3 (by rw[w3];omega);cbv;exact af
theorem xy:∀n,tB 263 8 (HW aj) n/\tB 298 7 (zo aj) n/\tB 323 6 (pF aj) n/\tB 343 5 (tN aj) n/\tB 353 4 (ym aj) n/\tB 354 3 (yB aj) n/\tB 355 2 (pG aj) n/\tB 356 1 (se aj) n
 |0=>⟨fun _ _ _ _ _ _ h=>by omega,fun _ _ _ _ _ _ h=>by omega,fun _ _ _ _ _ _ h=>by omega,fun _ _ _ _ _ _ h=>by omega,fun _ _ _ _ _ _ h=>by omega,fun _ _ _ _ _ _ h=>by omega,fun _ _ _ _ _ _ h=>by omega,fun _ _ _ _ _ _ h=>by omega⟩
 |n+1=>by
  obtain⟨h1,h2,h3,h4,h5,h6,h7,h8⟩:=xy n;exact⟨Md h2,Ks h3,H5 h3 h4,zc h5,Hn h6,Ic h7,H7 h7 h8,H0 h1⟩
theorem gC.freeze{base h:ad}{pb:Nat}{lv:Bool}{s:PS}(q:gC lv base h pb s):gC false (Sx.cI h pb) h pb s:=by
 obtain⟨wb,wn,wc,eb,en,ec,at_,i,all,g1,g2,g3,g4,g5,g6,g7,g9,vw⟩:=q.out;refine⟨wb,wn,wc,eb,en,ec,at_,i,all,g1,g2.mono (fun b c e fr _ hb=>?_),g3,g4,g5,g6,(fun hh=>by cases hh),Sx.dN h pb,Sx.cO h pb⟩;have bG:b≠pb:=fun e=>by rw[e,vw]at hb;cases hb
 rw[Sx.bV bG];exact g9 b _ hb
theorem Xt{base h:ad}{pb:Nat}{lv:Bool}{s:PS}(hp:gC lv base h pb s){k:Value->ad->Prop}
 (hk:∀Ec h' b n c e s',s.expr aj=(e,s')->e.length<=60->Le base Ec->gC false Ec h' pb s'->Sl 325 cT Ec (.slice b n c) e->s'.ws.length<=s.ws.length->k (.slice b n c) h'):
 Ct 217 [.pointer (some ⟨pb,0,none⟩)] h k:=by
 obtain⟨A,hA⟩:=Ar.ex;refine hp.elim (fun wb wn wc eb en ec at_ i all w r g qw hz hw mS hr hi ML qe=>?_);have hle:=hp.le;refine ah A (aq Y0.ax Y0.bm) Tryz.func217 rfl (by kernel_rfl) ?_;cbv;rw[ai A];refine eH g (by simp) (fun h1 e1=>?_);have p1:gC true base h1 pb { s with e:=[] }:=hp.HK (lv':=true) g hle (fun _=>⟨cK.nil,by decide⟩) g e1;clear qe;cbv;refine(xy (9*s.ws.length+9)).1 base h1 pb _ _ p1 (by show 9*s.ws.length+8<=_;omega) (fun h2 a s2 e2 p2 l2=>?_);have l2:s2.ws.length<=s.ws.length:=l2;refine p2.elim (fun wb2 wn2 wc2 CR en2 ec2 at2 i2 all2 w2 r2 g2 qw2 jT qT hws2 O1 hi2 hwn2 qe2=>?_);obtain⟨qb,qS⟩:=qe2 rfl;have hex:s.expr aj=(s2.e,s2):=by unfold PS.expr;simp only[e2]
 have p3:=p2.freeze;have wu:Le base (Sx.cI h2 pb):=fun b o hb=>by
  have bG:b≠pb:=fun e=>by
   obtain⟨_,_,_,_,_,_,_,_,_,_,_,_,_,_,_,_,_,vw⟩:=hp.out;rw[e,vw]at hb;cases hb
  rw[Sx.bV bG];exact p2.le b o hb
 have qs:Sl 325 cT (Sx.cI h2 pb) (.slice CR en2 ec2) s2.e:=qb.sl.mono (fun b c e fr hm hb=>by
  have bG:b≠pb:=fun e'=>by
   rw[e',g2]at hb;cases hb;simp[cT]at hm
  rw[Sx.bV bG];exact hb)
 have af:=hk _ h2 CR en2 ec2 s2.e s2 hex qS wu p3 qs l2;cbv;rw[ai A];refine ar g2 rfl rfl ?_;cbv;exact af
end Go.S
