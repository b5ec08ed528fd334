import Derived.Test.YtekoaiendgjkdaaGreatUA
import Derived.Test.YtekoaiendgjkdaaGreatRd
import Derived.Test.YtekoaiendgjkdaaGreatEA
import Derived.Test.YtekoaiendgjkdaaGreatEC
set_option linter.unusedVariables false
set_option linter.unusedSimpArgs false
set_option linter.unusedSectionVars false
set_option maxRecDepth 100000
set_option maxHeartbeats 8000000
namespace Go.S
open Go.Sx Go.Proofs
def sI:Sh Wd where
 n:=3
 R _ cs v:=cs=[.int .i64 v.k,.int .i64 v.n,.string v.s]
 len:=by rintro h cs x rfl;rfl
 one:=by rintro h cs x rfl;rfl
 tys:=[]
 mono:=fun _ q=>q
def dh:Sh Nd where
 n:=7
 R _ cs v:=cs=[.int .i64 v.op,.int .i64 v.a,.int .i64 v.b,.int .i64 v.v.k,.int .i64 v.v.n,.string v.v.s,.string v.name]
 len:=by rintro h cs x rfl;rfl
 one:=by rintro h cs x rfl;rfl
 tys:=[]
 mono:=fun _ q=>q
abbrev Sa:Wd:=⟨0,0,b0⟩
def AD(ws:List Wd):Prop:=∃l,ws=l++[Sa]
theorem AD.ne{ws:List Wd}(h:AD ws):∃w r,ws=w::r:=by
 obtain⟨l,rfl⟩:=h;cases l with
 |nil=>exact⟨_,_,rfl⟩
 |cons a l=>exact⟨_,_,rfl⟩
theorem AD.tail{w:Wd}{r:List Wd}(h:AD (w::r))(hk:w.k≠0):AD r:=by
 obtain⟨l,h⟩:=h;cases l with
 |nil=>cases h;exact absurd rfl hk
 |cons a l=>cases h;exact⟨l,rfl⟩
structure gX(lv:Bool)(base h:ad)(pb:Nat)(s:PS):Prop where
 out:∃wb wn wc eb en ec at_ i all,h pb=some (.cells #[.slice wb wn wc,.int .i64 at_,.int .i64 s.err,.slice eb en ec] 136 (0,0))/\Sl 139 sI base (.slice wb wn wc) all/\aS at_ i/\all.drop i=s.ws/\AD s.ws/\all.length<=700/\(lv=true->cX 325 dh base h (.slice eb en ec) s.e/\s.e.length<=60)/\Le base h/\base pb=none
theorem gX.le{base h:ad}{pb:Nat}{lv:Bool}{s:PS}(q:gX lv base h pb s):Le base h:=by obtain⟨_,_,_,_,_,_,_,_,_,_,_,_,_,_,_,_,q,_⟩:=q.out;exact q
theorem gX.XW{base h:ad}{pb:Nat}{lv:Bool}{s:PS}(q:gX lv base h pb s):AD s.ws:=by obtain⟨_,_,_,_,_,_,_,_,_,_,_,_,_,q,_⟩:=q.out;exact q
theorem gX.mono{base h h':ad}{pb:Nat}{lv:Bool}{s:PS}(q:gX lv base h pb s)(hl:Le h h'):gX lv base h' pb s:=by obtain⟨wb,wn,wc,eb,en,ec,at_,i,all,g1,g2,g3,g4,g5,g6,g7,g9,wo⟩:=q.out;exact⟨wb,wn,wc,eb,en,ec,at_,i,all,hl _ _ g1,g2,g3,g4,g5,g6,fun e=>⟨(g7 e).1.mono (hl.t _),(g7 e).2⟩,g9.trans hl,wo⟩
theorem _root_.Go.Sx.cX.SM{α:Type}{e:Nat}{s:Sh α}{h0 h1 h:ad}{v:Value}{xs:List α}(q:cX e s h0 h v xs)(hn:∀j c cap,v=.slice (some ⟨j,0,none⟩) c cap->h0 j=none->h j≠none->h1 j=none):cX e s h1 h v xs:=by
 rcases q.out with g| ⟨nb,cap,g1,g2,o⟩
 ·exact⟨.inl g⟩
 ·exact⟨.inr ⟨nb,cap,g1,hn nb _ _ g1 g2 o.has,o⟩⟩
theorem gX.add{base h:ad}{pb:Nat}{lv:Bool}{s:PS}(q:gX lv base h pb s){n:Nat}{o:Obj}(hn:h n=none):gX lv (bp base n o) (bp h n o) pb s:=by
 obtain⟨wb,wn,wc,eb,en,ec,at_,i,all,g1,g2,g3,g4,g5,g6,g7,g9,wo⟩:=q.out;have bW:pb≠n:=fun e=>by rw[e,hn]at g1;cases g1
 have lb:Le base (bp base n o):=Le.set (g9.none hn);have lh:Le h (bp h n o):=Le.set hn;refine⟨wb,wn,wc,eb,en,ec,at_,i,all,lh _ _ g1,g2.mono (lb.t _),g3,g4,g5,g6,fun e=>⟨((g7 e).1.SM (fun j c cap _ h0 hj=>?_)).mono (lh.t _),(g7 e).2⟩,fun b x hb=>?_,?_⟩
 ·have:j≠n:=fun e=>hj (by rw[e];exact hn);rw[aP this];exact h0
 ·by_cases e:b=n
  ·rw[e,af]at hb;rw[e,af];exact hb
  ·rw[aP e]at hb |-;exact g9 b x hb
 ·rw[aP bW];exact wo
theorem gX.drop{base h:ad}{pb:Nat}{lv:Bool}{s:PS}{n:Nat}{o:Obj}(q:gX lv (bp base n o) h pb s)(hn:base n=none)(hw:∀e c fr,o=.cells c e fr->e≠139):gX lv base h pb s:=by
 obtain⟨wb,wn,wc,eb,en,ec,at_,i,all,g1,g2,g3,g4,g5,g6,g7,g9,wo⟩:=q.out;have lb:Le base (bp base n o):=Le.set hn;have bW:pb≠n:=fun e=>by rw[e,af]at wo;cases wo
 have ht:cF (139::sI.tys) (bp base n o) base:=fun b c e fr hm hb=>by
  by_cases e1:b=n
  ·rw[e1,af]at hb;cases hb;exact absurd (by simpa[sI]using hm) (hw _ _ _ rfl)
  ·rw[aP e1]at hb;exact hb
 exact⟨wb,wn,wc,eb,en,ec,at_,i,all,g1,g2.mono ht,g3,g4,g5,g6,fun e=>⟨(g7 e).1.base lb,(g7 e).2⟩,lb.trans g9,by rw[aP bW]at wo;exact wo⟩
theorem gX.put{base h h':ad}{pb:Nat}{lv:Bool}{s s':PS}(q:gX lv base h pb s){o:Obj}(e:h'=bp h pb o)
 (hs:∀wb wn wc eb en ec at_ i (all:List Wd),h pb=some (.cells #[.slice wb wn wc,.int .i64 at_,.int .i64 s.err,.slice eb en ec] 136 (0,0))->aS at_ i->all.drop i=s.ws->all.length<=700->∃Qc i',o=.cells #[.slice wb wn wc,.int .i64 Qc,.int .i64 s'.err,.slice eb en ec] 136 (0,0)/\aS Qc i'/\all.drop i'=s'.ws)
 (hw:AD s'.ws) (he:lv=true->s'.e=s.e):gX lv base h' pb s':=by
 obtain⟨wb,wn,wc,eb,en,ec,at_,i,all,g1,g2,g3,g4,g5,g6,g7,g9,wo⟩:=q.out;obtain⟨Qc,i',rfl,h1,h2⟩:=hs wb wn wc eb en ec at_ i all g1 g3 g4 g6;subst e;refine⟨wb,wn,wc,eb,en,ec,Qc,i',all,af,g2,h1,h2,hw,g6,fun hl=>?_,fun b x hb=>?_,wo⟩
 ·rw[he hl];exact⟨(g7 hl).1.mono (cF.set g1 (by decide)),(g7 hl).2⟩
 ·have bW:b≠pb:=fun e=>by rw[e,wo]at hb;cases hb
  rw[aP bW];exact g9 b x hb
theorem uD(A:Ar)[hA:aV A](a b:ByteArray):A .iY .neq a b=decide (a≠b):=by have h:=bR A a b;rw[hA.iY]at h |-;show(!(a.toList==b.toList))=_;have h:(a.toList==b.toList)=decide (a=b):=h;rw[h];by_cases e:a=b<;>simp[e]
theorem yL{base h:ad}{pb:Nat}{lv:Bool}{s:PS}(hp:gX lv base h pb s)(e:Int){k:Value->ad->Prop}(hk:∀h',gX lv base h' pb (s.fail e)->k (.tuple #[]) h'):
 Ct 56 [.pointer (some ⟨pb,0,none⟩),.int .i64 e] h k:=by
 obtain⟨A,hA⟩:=Ar.ex;obtain⟨ws,err,ex⟩:=s;obtain⟨wb,wn,wc,eb,en,ec,at_,i,all,g,-⟩:=hp.out;have g:h pb=some (.cells #[.slice wb wn wc,.int .i64 at_,.int .i64 err,.slice eb en ec] 136 (0,0)):=g;have f1:A .aG .eql err 0=decide (err=0):=aw A ..;refine ah A (ar T56.aA T56.bm) Tryz.func56 rfl (by kernel_rfl) ?_;cbv;rw[ai A];refine av g rfl rfl ?_;cbv;rw[f1];by_cases he:err=0
 ·have ae:=fun h' (e1:h'=bp h pb (.cells #[.slice wb wn wc,.int .i64 at_,.int .i64 e,.slice eb en ec] 136 (0,0)))=>hk h' (by
   refine hp.put e1 (fun wb' wn' wc' eb' en' ec' Qc i' all' g' q1 q2 q3=>?_) ?_ ?_
   ·rw[g]at g';cases g';refine⟨at_,i',?_,q1,?_⟩
    ·simp[PS.fail,he]
    ·simp only[PS.fail];rw[if_pos he];exact q2
   ·simp only[PS.fail];rw[if_pos he];exact hp.XW
   ·intro _;simp only[PS.fail];rw[if_pos he])
  rw[decide_eq_true he];cbv;rw[ai A];refine jz g (by simp) (fun h' e1=>?_);cbv;exact ae h' e1
 ·have ae:=hk h (by simp only[PS.fail];rw[if_neg he];exact hp);rw[decide_eq_false he];cbv;exact ae
structure pO(s:ByteArray)(i:Nat)(t:By):Prop where
 le:i<=s.size
 eq:s.data.toList.drop i=t
theorem pO.len{s:ByteArray}{i:Nat}{t:By}(q:pO s i t):i+t.length=s.size:=by
 have h:s.size=s.data.toList.length:=by rw[Array.length_toList];rfl
 have:=q.le;rw[<-q.eq,List.length_drop];omega
theorem pO.start(s:ByteArray):pO s 0 s.data.toList:=⟨Nat.zero_le _,rfl⟩
theorem pO.next{s:ByteArray}{i:Nat}{c:UInt8}{r:By}(q:pO s i (c::r)):pO s (i+1) r:=by have h1:=q.len;rw[List.length_cons]at h1;exact⟨by omega,by rw[<-List.drop_drop,q.eq];rfl⟩
theorem pO.RS{s:ByteArray}{i:Nat}{t:By}(q:pO s i t){n:Nat}(hn:n<=t.length):pO s (i+n) (t.drop n):=by have h1:=q.len;exact⟨by omega,by rw[<-List.drop_drop,q.eq]⟩
theorem pO.byte{A:Ar}[hA:aV A]{s:ByteArray}{i:Nat}{c:UInt8}{r:By}(q:pO s i (c::r)){z:Int}(hz:aS z i):A .byte s z=(c.toNat:Int):=by
 rw[hA.byte];have e1:z.toNat=i:=by have:=hz.eq;omega
 have h2:s.data.toList[i]? =some c:=by have:=congrArg (fun l=>l[0]?) q.eq;simpa using this
 have h3:s.data[i]? =some c:=by rw[<-h2];exact(Array.getElem?_toList ..).symm
 simp only[e1,Array.getD_eq_getD_getElem?,h3,Option.getD_some]
theorem pO.sub{A:Ar}[hA:aV A]{s:ByteArray}{i:Nat}{t:By}(q:pO s i t){z w:Int}(hz:aS z i){n:Nat}(hw:aS w (i+n)):A .sub s z w=ax (t.take n):=by
 rw[hA.sub];have e1:z.toNat=i:=by have:=hz.eq;omega
 have e2:w.toNat=i+n:=by have:=hw.eq;omega
 simp only[e1,e2];show s.extract i (i+n)=ByteArray.mk (t.take n).toArray;have h:(s.extract i (i+n)).data=(t.take n).toArray:=by rw[ByteArray.data_extract];apply Array.ext';rw[Array.toList_extract,<-q.eq];simp[List.extract]
 exact ByteArray.ext h
theorem E8{b:Int}{c:UInt8}(hb:b=(c.toNat:Int)){h:ad}{k:Value->ad->Prop}(hk:k (.bool (isLet c)) h):Ct 210 [.int .u8 b] h k:=by
 obtain⟨A,hA⟩:=Ar.ex;have f1:A .aG .geq b 97=decide (97<=c.toNat):=by rw[bS A,decide_eq_decide,hb];omega
 have f2:A .aG .leq b 122=decide (c.toNat<=122):=by rw[uJ A,decide_eq_decide,hb];omega
 unfold isLet at hk;clear hb;generalize decide (97<=c.toNat)=u1 at *;generalize decide (c.toNat<=122)=u2 at *;refine ah A (ar T210.aA T210.bm) Tryz.func210 rfl (by kernel_rfl) ?_;cbv;rw[f1];cases u1 with
 |false=>cbv;exact hk
 |true=>cbv;rw[f2];exact hk
theorem Es{b:Int}{c:UInt8}(hb:b=(c.toNat:Int)){h:ad}{k:Value->ad->Prop}(hk:k (.bool (cT c)) h):Ct 212 [.int .u8 b] h k:=by
 obtain⟨A,hA⟩:=Ar.ex;have f1:A .aG .geq b 48=decide (48<=c.toNat):=by rw[bS A,decide_eq_decide,hb];omega
 have f2:A .aG .leq b 57=decide (c.toNat<=57):=by rw[uJ A,decide_eq_decide,hb];omega
 unfold cT at hk;clear hb;generalize decide (48<=c.toNat)=u1 at *;generalize decide (c.toNat<=57)=u2 at *;refine ah A (ar T212.aA T212.bm) Tryz.func212 rfl (by kernel_rfl) ?_;cbv;rw[f1];cases u1 with
 |false=>cbv;exact hk
 |true=>cbv;rw[f2];exact hk
theorem vE:∀t:By,cG t<=t.length
 | []=>Nat.le_refl _
 |c::r=>by
  unfold cG;have:=vE r;cases oG c with
  |true=>simp only[List.length_cons];omega
  |false=>simp
theorem Oh{s:ByteArray}(hs:s.size<=600){i:Nat}{t:By}(q:pO s i t){z:Int}(hz:aS z i){h:ad}{k:Value->ad->Prop}(hk:∀z',aS z' (i+cG t)->k (.int .i64 z') h):
 Ct 211 [.string s,.int .i64 z] h k:=by
 obtain⟨A,hA⟩:=Ar.ex;have rE:aS (A .iq s) s.size:=⟨by rw[hA.iq]⟩;obtain⟨I,bl⟩:∃I:Nat->Int->ad->Prop,∀m g h',I m g h'=∃j t',aS g j/\pO s j t'/\m=t'.length/\j+cG t'=i+cG t/\h'=h:=⟨_,fun _ _ _=>rfl⟩;have hJ:I t.length z h:=by rw[bl];exact⟨i,t,hz,q,rfl,rfl,rfl⟩
 refine ah A (ar T211.aA T211.bm) Tryz.func211 rfl (by kernel_rfl) ?_;cbv;refine aX.go (G:=Int) (fun g=>[(1,.v (.int .i64 g))]) (fun _=>[]) (fun m g h'=>I m g h') t.length z ⟨?_,?_,?_⟩ hJ ?_
 ·cbv
 ·cbv
 ·cbv
 ·intro m g h' hI;rw[bl]at hI;cbv;obtain⟨j,t',hg,q',hm,he,rfl⟩:=hI;have hl:=q'.len;have f1:A .aG .lss g (A .iq s)=decide (j<s.size):=hg.gy rE;have stop:t'=[]\/(∃c r,t'=c::r/\oG c=false)->cG t'=0:=by
   rintro(rfl| ⟨c,r,rfl,hc⟩)
   ·rfl
   ·unfold cG;rw[hc]
  have fin:cG t'=0->k (.int .i64 g) h':=fun e=>hk g (by rw[<-he,e];exact hg);rw[f1];cases t' with
  |nil=>
   have aK:¬j<s.size:=by have:([]:By).length=0:=rfl;omega
   have ae:=fin (stop (.inl rfl));rw[decide_eq_false aK];cbv;exact ae
  |cons c r=>
   have aK:j<s.size:=by have:(c::r).length=r.length+1:=rfl;omega
   have cU:0<=g/\g<(s.size:Int):=hg.ix aK;obtain⟨b,hb⟩:∃b,A .byte s g=b:=⟨_,rfl⟩;have pj:b=(c.toNat:Int):=by rw[<-hb];exact q'.byte hg
   have f2:A .aG .eql b 95=decide (c.toNat=95):=by rw[aw A,decide_eq_decide,pj];omega
   have dD:=hg.succ (A:=A) (by omega);have vR:oG c=true->I r.length (A .bA .add .i64 g 1) h':=fun e=>by
    rw[bl];refine⟨j+1,r,dD,q'.next,rfl,?_,rfl⟩;rw[<-he];have:cG (c::r)=cG r+1:=by show(match oG c with|true=>cG r+1|false=>0)=_;rw[e]
    omega
   have gB:oG c=false->k (.int .i64 g) h':=fun e=>fin (stop (.inr ⟨c,r,rfl,e⟩));have gQ:r.length<m:=by rw[hm];exact Nat.lt_succ_self _
   have yE:oG c=(isLet c||cT c||decide (c.toNat=95)):=rfl;rw[decide_eq_true aK];clear stop fin he hm bl hJ hk;cbv;refine⟨cU,?_⟩;cbv;rw[hb];refine E8 pj ?_;generalize isLet c=u1 at *;cases u1 with
   |true=>
    have vR:=vR (by rw[yE];simp);cbv;refine⟨r.length,_,gQ,⟨?_,?_,?_⟩,vR⟩
    ·cbv
    ·cbv
    ·cbv
   |false=>
    cbv;refine⟨cU,?_⟩;cbv;rw[hb];refine Es pj ?_;generalize cT c=u2 at *;cases u2 with
    |true=>
     have vR:=vR (by rw[yE];simp);cbv;refine⟨r.length,_,gQ,⟨?_,?_,?_⟩,vR⟩
     ·cbv
     ·cbv
     ·cbv
    |false=>
     cbv;refine⟨cU,?_⟩;cbv;rw[hb,f2];generalize decide (c.toNat=95)=u3 at *;cases u3 with
     |true=>
      have vR:=vR (by rw[yE];simp);cbv;refine⟨r.length,_,gQ,⟨?_,?_,?_⟩,vR⟩
      ·cbv
      ·cbv
      ·cbv
     |false=>have gB:=gB (by rw[yE];simp);cbv;exact gB
theorem lL(A:Ar)[hA:aV A](a b:Int)(h:-9223372036854775808<=a+b/\a+b<=9223372036854775807):A .bA .add .i64 a b=a+b:=by rw[hA.bA];exact IntWalk.i64_in _ h
theorem pA(A:Ar)[hA:aV A](a b:Int)(h:-9223372036854775808<=a-b/\a-b<=9223372036854775807):A .bA .sub .i64 a b=a-b:=by rw[hA.bA];exact IntWalk.i64_in _ h
theorem Qg(A:Ar)[hA:aV A](a b:Int)(h:-9223372036854775808<=a*b/\a*b<=9223372036854775807):A .bA .mul .i64 a b=a*b:=by rw[hA.bA];exact IntWalk.i64_in _ h
theorem Qf(A:Ar)[hA:aV A](a b:Int)(h:-9223372036854775808<=a.tdiv b/\a.tdiv b<=9223372036854775807):A .bA .quo .i64 a b=a.tdiv b:=by rw[hA.bA];exact IntWalk.i64_in _ h
theorem Te{s:ByteArray}(hs:s.size<=600){i:Nat}{t:By}(q:pO s i t){z:Int}(hz:aS z i){h:ad}{k:Value->ad->Prop}
 (hk:∀v z' e rest,jW t 0=((v,rest),e)->(e=0->∃j,aS z' j/\pO s j rest)->k (.tuple #[.int .i64 v,.int .i64 z',.int .i64 e]) h):
 Ct 213 [.string s,.int .i64 z] h k:=by
 obtain⟨A,hA⟩:=Ar.ex;have rE:aS (A .iq s) s.size:=⟨by rw[hA.iq]⟩;obtain⟨I,bl⟩:∃I:Nat->Int×Int->ad->Prop,∀m g h',I m g h'=∃j t',aS g.1 j/\pO s j t'/\m=t'.length/\jW t' g.2=jW t 0/\0<=g.2/\g.2<=9223372036854775807/\h'=h:=⟨_,fun _ _ _=>rfl⟩;have hJ:I t.length (z,0) h:=by rw[bl];exact⟨i,t,hz,q,rfl,rfl,Int.le_refl _,by show(0:Int)<=9223372036854775807;decide,rfl⟩
 refine ah A (ar T213.aA T213.bm) Tryz.func213 rfl (by kernel_rfl) ?_;cbv;refine aX.go (G:=Int×Int) (fun g=>[(1,.v (.int .i64 g.1)),(7,.v (.int .i64 g.2))]) (fun _=>[]) (fun m g h'=>I m g h') t.length (z,0) ⟨?_,?_,?_⟩ hJ ?_
 ·cbv
 ·cbv
 ·cbv
 ·intro m g h' hI;rw[bl]at hI;cbv;obtain⟨j,t',hg,q',hm,he,kg,ma,rfl⟩:=hI;obtain⟨z,n⟩:=g;have hg:aS z j:=hg;have he:jW t' n=jW t 0:=he;have kg:0<=n:=kg;have ma:n<=9223372036854775807:=ma;have hl:=q'.len;have f1:A .aG .lss z (A .iq s)=decide (j<s.size):=hg.gy rE;have stop:jW t' n=((n,t'),0)->k (.tuple #[.int .i64 n,.int .i64 z,.int .i64 0]) h':=fun e=>hk n z 0 t' (by rw[<-he,e]) (fun _=>⟨j,hg,q'⟩);rw[f1];cases t' with
  |nil=>
   have aK:¬j<s.size:=by have:([]:By).length=0:=rfl;omega
   have ae:=stop rfl;rw[decide_eq_false aK];cbv;exact ae
  |cons c r=>
   have aK:j<s.size:=by have:(c::r).length=r.length+1:=rfl;omega
   have cU:0<=z/\z<(s.size:Int):=hg.ix aK;obtain⟨b,hb⟩:∃b,A .byte s z=b:=⟨_,rfl⟩;have pj:b=(c.toNat:Int):=by rw[<-hb];exact q'.byte hg
   have dD:=hg.succ (A:=A) (by omega);have gQ:r.length<m:=by rw[hm];exact Nat.lt_succ_self _
   have gB:cT c=false->k (.tuple #[.int .i64 n,.int .i64 z,.int .i64 0]) h':=fun e=>stop (by show(match cT c with|true=>_|false=>_)=_;rw[e]);have hq:=q'.next;obtain⟨d,hd⟩:∃d:Int,d=(c.toNat:Int)-48:=⟨_,rfl⟩;have eU:cT c=true->0<=d/\d<=9/\jW (c::r) n=if n>(9223372036854775807-d) / 10 then((0,[]),11)else jW r (10*n+d):=fun e=>by
    have e2:=e;unfold cT at e2;simp only[Bool.and_eq_true,decide_eq_true_eq]at e2;refine⟨by omega,by omega,?_⟩;rw[hd];show(match cT c with|true=>_|false=>_)=_;rw[e]
   rw[decide_eq_true aK];clear stop hm hJ;cbv;refine⟨cU,?_⟩;cbv;rw[hb];refine Es pj ?_;generalize cT c=u1 at *;cases u1 with
   |false=>have gB:=gB rfl;cbv;exact gB
   |true=>
    obtain⟨ZV,Vn,O6⟩:=eU rfl;have f3:A .bA .sub .u8 b 48=d:=by rw[hA.bA,hd,pj];exact IntWalk.u8_in _ (by omega)
    have f4:A .conv .i64 d=d:=by rw[hA.conv];exact IntWalk.i64_in _ (by omega)
    obtain⟨w1,tL⟩:∃w:Int,9223372036854775807-d=w:=⟨_,rfl⟩;obtain⟨w2,pN⟩:∃w:Int,w1 / 10=w:=⟨_,rfl⟩;have f5:A .bA .sub .i64 9223372036854775807 d=w1:=by rw[<-tL];exact pA A _ _ (by omega)
    have Hf:w1.tdiv 10=w2:=by rw[<-pN];exact Int.tdiv_eq_ediv_of_nonneg (by omega)
    have f6:A .bA .quo .i64 w1 10=w2:=by rw[Qf A _ _ (by rw[Hf];omega),Hf]
    have f7:A .aG .gtr n w2=decide (n>w2):=bJ A ..;rw[tL,pN]at O6;rw[O6]at he;clear hd O6 eU gB;have Zi:(10:Int)≠0:=by decide
    by_cases MU:n>w2
    ·rw[if_pos MU]at he;have ae:=hk 0 0 11 [] he.symm (fun h=>absurd h (by decide));rw[decide_eq_true MU]at f7;clear bl tL pN;cbv;refine⟨cU,?_⟩;cbv;rw[hb,f3,f4];cbv;rw[f5];refine⟨Zi,?_⟩;cbv;rw[f6,f7];cbv;exact ae
    ·rw[if_neg MU]at he;have f8:A .bA .mul .i64 10 n=10*n:=Qg A _ _ (by omega);have f9:A .bA .add .i64 (10*n) d=10*n+d:=lL A _ _ (by omega);have di:I r.length (A .bA .add .i64 z 1,A .bA .add .i64 (A .bA .mul .i64 10 n) d) h':=by rw[bl,f8,f9];exact⟨j+1,r,dD,hq,rfl,he,by show 0<=10*n+d;omega,by show 10*n+d<=_;omega,rfl⟩
     rw[decide_eq_false MU]at f7;clear bl tL pN;cbv;refine⟨cU,?_⟩;cbv;rw[hb,f3,f4];cbv;rw[f5];refine⟨Zi,?_⟩;cbv;rw[f6,f7];cbv;refine⟨r.length,(_,_),gQ,⟨?_,?_,?_⟩,di⟩
     ·cbv
     ·cbv
     ·cbv
theorem gX.elim{base h:ad}{pb:Nat}{lv:Bool}{s:PS}(q:gX lv base h pb s){C:Prop}(f:∀wb wn wc eb en ec at_ i (all:List Wd) w r,h pb=some (.cells #[.slice wb wn wc,.int .i64 at_,.int .i64 s.err,.slice eb en ec] 136 (0,0))->Sl 139 sI h (.slice wb wn wc) all->aS at_ i->all[i]? =some w->s.ws=w::r->all.drop (i+1)=r->i<wn->wn<=700->(lv=true->cX 325 dh base h (.slice eb en ec) s.e/\s.e.length<=60)->C):C:=by
 obtain⟨wb,wn,wc,eb,en,ec,at_,i,all,g1,g2,g3,g4,g5,g6,g7,g9,wo⟩:=q.out;obtain⟨w,r,hw⟩:=g5.ne;have h1:all[i]? =some w:=by have:=congrArg (fun l=>l[0]?) g4;rw[hw]at this;simpa using this
 have h2:all.drop (i+1)=r:=by rw[<-List.drop_drop,g4,hw];rfl
 have hl:=g2.len;have hi:=(List.getElem?_eq_some_iff.1 h1).1;exact f wb wn wc eb en ec at_ i all w r g1 (g2.mono (g9.t _)) g3 h1 hw h2 (by omega) (by omega) g7
theorem gX.step{base h h':ad}{pb:Nat}{lv:Bool}{s:PS}(q:gX lv base h pb s){w:Wd}{r:List Wd}(hw:s.ws=w::r)(hk:w.k≠0){wb eb:Option Addr}{wn wc en ec:Nat}{at_ Qc err:Int}{i:Nat}(g:h pb=some (.cells #[.slice wb wn wc,.int .i64 at_,.int .i64 err,.slice eb en ec] 136 (0,0)))
 (hz:aS at_ i) (hz':aS Qc (i+1)) (e:h'=bp h pb (.cells #[.slice wb wn wc,.int .i64 Qc,.int .i64 err,.slice eb en ec] 136 (0,0))):gX lv base h' pb { s with ws:=r }:=by
 refine q.put e (fun wb' wn' wc' eb' en' ec' at2 i' all' g' q1 q2 q3=>?_) ?_ (fun _=>rfl)
 ·rw[g]at g';cases g';have hi:i'=i:=by have:=hz.eq;have:=q1.eq;omega
  subst hi;exact⟨Qc,i'+1,rfl,hz',by rw[<-List.drop_drop,q2,hw];rfl⟩
 ·have:=q.XW;rw[hw]at this;exact this.tail hk
theorem CO{base h:ad}{pb:Nat}{lv:Bool}{s:PS}(hp:gX lv base h pb s)(str:ByteArray){k:Value->ad->Prop}
 (hk:∀h' t s',s.is str=(t,s')->gX lv base h' pb s'->(t=true->s'.ws.length<s.ws.length)->(t=false->s'=s/\h'=h)->k (.bool t) h'):
 Ct 120 [.pointer (some ⟨pb,0,none⟩),.string str] h k:=by
 obtain⟨A,hA⟩:=Ar.ex;obtain⟨ws,err,ex⟩:=s;refine hp.elim (fun wb wn wc eb en ec at_ i all w r g qw hz hw nH hr hi OR qe=>?_);have g:h pb=some (.cells #[.slice wb wn wc,.int .i64 at_,.int .i64 err,.slice eb en ec] 136 (0,0)):=g;have nH:ws=w::r:=nH;have cU:wb.isSome=true/\0<=at_/\at_<(wn:Int):=⟨qw.bu (by omega),hz.ix hi⟩;have fA:=hz.eq;have dD:=hz.succ (A:=A) (by omega);obtain⟨wk,wN,wS⟩:=w;have f1:A .aG .neq err 0=decide (err≠0):=aB A ..;have f2:A .aG .neq wk 1=decide (wk≠1):=aB A ..;have f3:A .aG .neq wk 4=decide (wk≠4):=aB A ..;have f4:A .iY .neq wS str=decide (wS≠str):=uD A ..;have gB:(err≠0\/(wk≠1/\wk≠4)\/wS≠str)->k (.bool false) h:=fun hc=>by
  refine hk h false _ ?_ hp (fun e=>by cases e) (fun _=>⟨rfl,rfl⟩);subst nH;show(if err=0/\(wk=1\/wk=4)/\wS=str then _ else _)=_;rw[if_neg];rintro⟨h1,h2,h3⟩;rcases hc with h| ⟨h,h'⟩ |h
  ·exact h h1
  ·rcases h2 with h2|h2
   ·exact h h2
   ·exact h' h2
  ·exact h h3
 have eU:err=0->(wk=1\/wk=4)->wS=str->∀h',h'=bp h pb (.cells #[.slice wb wn wc,.int .i64 (A .bA .add .i64 at_ 1),.int .i64 err,.slice eb en ec] 136 (0,0))->k (.bool true) h':=fun h1 h2 h3 h' e=>by
  refine hk h' true ⟨r,err,ex⟩ ?_ (hp.step nH (by show wk≠0;omega) g hz dD e) (fun _=>?_) (fun e=>by cases e)
  ·subst nH;show(if err=0/\(wk=1\/wk=4)/\wS=str then _ else _)=_;rw[if_pos ⟨h1,h2,h3⟩]
  ·show r.length<ws.length;rw[nH];exact Nat.lt_succ_self _
 clear hk;refine ah A (ar T120.aA T120.bm) Tryz.func120 rfl (by kernel_rfl) ?_;cbv;rw[ai A];refine av g rfl rfl ?_;cbv;rw[ai A];refine av g rfl rfl ?_;cbv;refine⟨cU,?_⟩;cbv;refine qw.load hw fA (fun cs aC=>?_);have aC:cs=[.int .i64 wk,.int .i64 wN,.string wS]:=aC;subst aC;cbv;rw[ai A];refine av g rfl rfl ?_;cbv;rw[f1];by_cases he:err=0
 ·rw[decide_eq_false (by simpa using he)];cbv;rw[f2];by_cases nO:wk=1
  ·have eU:=eU he (.inl nO);rw[decide_eq_false (by simpa using nO)];cbv;rw[f4];by_cases h3:wS=str
   ·have eU:=eU h3;rw[decide_eq_false (by simpa using h3)];cbv;rw[ai A];refine av g rfl rfl ?_;cbv;rw[ai A];refine jz g (by simp) (fun h' e1=>?_);cbv;exact eU h' e1
   ·have gB:=gB (.inr (.inr h3));rw[decide_eq_true h3];cbv;exact gB
  ·rw[decide_eq_true nO];cbv;rw[f3];by_cases BS:wk=4
   ·have eU:=eU he (.inr BS);rw[decide_eq_false (by simpa using BS)];cbv;rw[f4];by_cases h3:wS=str
    ·have eU:=eU h3;rw[decide_eq_false (by simpa using h3)];cbv;rw[ai A];refine av g rfl rfl ?_;cbv;rw[ai A];refine jz g (by simp) (fun h' e1=>?_);cbv;exact eU h' e1
    ·have gB:=gB (.inr (.inr h3));rw[decide_eq_true h3];cbv;exact gB
   ·have gB:=gB (.inr (.inl ⟨nO,BS⟩));rw[decide_eq_true BS];cbv;exact gB
 ·have gB:=gB (.inl he);rw[decide_eq_true he];cbv;exact gB
theorem YH{base h:ad}{pb:Nat}{lv:Bool}{s:PS}(hp:gX lv base h pb s){l:List ByteArray}{b:Option Addr}{n c:Nat}(ql:Sl 9 cB base (.slice b n c) l){k:Value->ad->Prop}
 (hk:∀h' s',s.cg l=s'->gX lv base h' pb s'->s'.ws.length<=s.ws.length->k (.tuple #[]) h'):
 Ct 122 [.pointer (some ⟨pb,0,none⟩),.slice b n c] h k:=by
 obtain⟨A,hA⟩:=Ar.ex;have hlen:=ql.len;have vZ:=ql.bound;obtain⟨I,bl⟩:∃I:Nat->Int->ad->Prop,∀m g h',I m g h'=∃i s1,aS g i/\i<=n/\m=n-i/\gX lv base h' pb s1/\s1.cg (l.drop i)=s.cg l/\s1.ws.length<=s.ws.length:=⟨_,fun _ _ _=>rfl⟩;have hJ:I n 0 h:=by rw[bl];exact⟨0,s,⟨rfl⟩,Nat.zero_le _,rfl,hp,rfl,Nat.le_refl _⟩
 refine ah A (ar T122.aA T122.bm) Tryz.func122 rfl (by kernel_rfl) ?_;cbv;refine aX.go (G:=Int) (fun g=>[(4,.v (.int .i64 g))]) (fun _=>[]) (fun m g h'=>I m g h') n 0 ⟨?_,?_,?_⟩ hJ ?_
 ·cbv
 ·cbv
 ·cbv
 ·intro m g h' hI;rw[bl]at hI;cbv;obtain⟨i,s1,hg,hi,hm,q1,he,nH⟩:=hI;have f1:A .aG .lss g (A .nat n)=decide (i<n):=hg.gy (aS.nat n);rw[f1];by_cases aK:i<n
  ·obtain⟨w,hw⟩:=aI (xs:=l) (i:=i) (by omega);have cU:b.isSome=true/\0<=g/\g<(n:Int):=⟨ql.bu (by omega),hg.ix aK⟩;have iR:=hg.eq;have dD:=hg.succ (A:=A) (by omega);have hd:l.drop i=w::l.drop (i+1):=by obtain⟨h1,h2⟩:=List.getElem?_eq_some_iff.1 hw;rw[List.drop_eq_getElem_cons h1,h2]
   rw[hd]at he;have qh:=ql.mono (q1.le.t _);have di:∀h2 s2,gX lv base h2 pb s2->s2.cg (l.drop (i+1))=s.cg l->s2.ws.length<=s1.ws.length->I (n-(i+1)) (A .bA .add .i64 g 1) h2:=fun h2 s2 p e le=>by
    rw[bl];exact⟨i+1,s2,dD,aK,rfl,p,e,by omega⟩
   have j0:n-(i+1)<m:=by omega
   clear bl hk hJ;rw[decide_eq_true aK];cbv;refine⟨cU,?_⟩;cbv;refine qh.load hw iR (fun cs aC=>?_);have aC:cs=[.string w]:=aC;subst aC;cbv;refine CO q1 w (fun h2 t s2 e2 p2 gy QA=>?_);have uh:A .not t= !t:=by rw[hA.not]
   cases t with
   |true=>
    have hI:=di h2 s2 p2 (by rw[<-he];show _=(match s1.is w with| (true,p)=>p.cg _| (false,p)=>_);rw[e2]) (Nat.le_of_lt (gy rfl));clear di;cbv;rw[uh];cbv;refine⟨n-(i+1),_,j0,⟨?_,?_,?_⟩,hI⟩
    ·cbv
    ·cbv
    ·cbv
   |false=>
    obtain⟨rfl,rfl⟩:=QA rfl;have di:=fun h3 p3=>di h3 (s2.fail 6) p3 (by rw[<-he];show _=(match s2.is w with| (true,p)=>p.cg _| (false,p)=>(p.fail 6).cg _);rw[e2]) (by unfold PS.fail;split<;>exact Nat.le_refl _);cbv;rw[uh];cbv;refine yL p2 6 (fun h3 p3=>?_);have hI:=di h3 p3;clear di;cbv;refine⟨n-(i+1),_,j0,⟨?_,?_,?_⟩,hI⟩
    ·cbv
    ·cbv
    ·cbv
  ·have eW:i=n:=by omega
   have ae:=hk h' s1 (by rw[<-he,List.drop_eq_nil_of_le (by omega)];rfl) q1 nH;rw[decide_eq_false aK];cbv;exact ae
theorem Bu{s:ByteArray}(h:ao s=true):s.size<=12:=by unfold ao tF at h;simp only[Bool.and_eq_true,Bool.not_eq_eq_eq_not,Bool.not_true,Bool.or_eq_false_iff,decide_eq_false_iff_not]at h;omega
theorem PS.rQ(s:PS)(e:Int):(s.fail e).ws=s.ws:=by unfold PS.fail;split<;>rfl
theorem JU{base h:ad}{pb:Nat}{lv:Bool}{s:PS}(hp:gX lv base h pb s){k:Value->ad->Prop}
 (hk:∀h' v s',s.name ao=(v,s')->gX lv base h' pb s'->s'.ws.length<=s.ws.length->v.size<=12->k (.string v) h'):
 Ct 123 [.pointer (some ⟨pb,0,none⟩)] h k:=by
 obtain⟨A,hA⟩:=Ar.ex;obtain⟨ws,err,ex⟩:=s;refine hp.elim (fun wb wn wc eb en ec at_ i all w r g qw hz hw nH hr hi OR qe=>?_);have g:h pb=some (.cells #[.slice wb wn wc,.int .i64 at_,.int .i64 err,.slice eb en ec] 136 (0,0)):=g;have nH:ws=w::r:=nH;have cU:wb.isSome=true/\0<=at_/\at_<(wn:Int):=⟨qw.bu (by omega),hz.ix hi⟩;have fA:=hz.eq;have dD:=hz.succ (A:=A) (by omega);obtain⟨wk,wN,wS⟩:=w;have f1:A .aG .neq err 0=decide (err≠0):=aB A ..;have f2:A .aG .neq wk 1=decide (wk≠1):=aB A ..;have gB:(err≠0\/wk≠1\/ao wS=false)->∀h1,gX lv base h1 pb (PS.fail ⟨ws,err,ex⟩ 6)->k (.string b0) h1:=fun hc h1 UP=>by
  refine hk h1 b0 _ ?_ UP (by rw[PS.rQ];exact Nat.le_refl _) (Nat.zero_le _);subst nH;show(if err=0/\wk=1/\ao wS=true then _ else _)=_;rw[if_neg];rintro⟨h1,h2,h3⟩;rcases hc with h|h|h
  ·exact h h1
  ·exact h h2
  ·rw[h]at h3;cases h3
 have eU:err=0->wk=1->ao wS=true->∀h1 h',Le h h1->h'=bp h1 pb (.cells #[.slice wb wn wc,.int .i64 (A .bA .add .i64 at_ 1),.int .i64 err,.slice eb en ec] 136 (0,0))->k (.string wS) h':=fun h1 h2 h3 h1' h' l1 e=>by
  refine hk h' wS ⟨r,err,ex⟩ ?_ ((hp.mono l1).step nH (by show wk≠0;omega) (l1 _ _ g) hz dD e) ?_ (Bu h3)
  ·subst nH;show(if err=0/\wk=1/\ao wS=true then _ else _)=_;rw[if_pos ⟨h1,h2,h3⟩]
  ·show r.length<=ws.length;rw[nH];exact Nat.le_succ _
 clear hk;refine ah A (ar T123.aA T123.bm) Tryz.func123 rfl (by kernel_rfl) ?_;cbv;rw[ai A];refine av g rfl rfl ?_;cbv;rw[ai A];refine av g rfl rfl ?_;cbv;refine⟨cU,?_⟩;cbv;refine qw.load hw fA (fun cs aC=>?_);have aC:cs=[.int .i64 wk,.int .i64 wN,.string wS]:=aC;subst aC;cbv;rw[ai A];refine av g rfl rfl ?_;cbv;rw[f1];by_cases he:err=0
 ·rw[decide_eq_false (by simpa using he)];cbv;rw[f2];by_cases nO:wk=1
  ·have eU:=eU he nO;rw[decide_eq_false (by simpa using nO)];cbv;refine zL.mono (fun v h1 hR=>?_);obtain⟨l1,t,rfl,ht⟩:=hR;have uh:A .not t= !t:=by rw[hA.not]
   cases t with
   |true=>have eU:=eU ht.symm h1;have g1:=l1 _ _ g;cbv;rw[uh];cbv;rw[ai A];refine av g1 rfl rfl ?_;cbv;rw[ai A];refine jz g1 (by simp) (fun h' e1=>?_);cbv;exact eU h' l1 e1
   |false=>have gB:=gB (.inr (.inr ht.symm));cbv;rw[uh];cbv;refine yL (hp.mono l1) 6 (fun h2 p2=>?_);have gB:=gB h2 p2;cbv;exact gB
  ·have gB:=gB (.inr (.inl nO));rw[decide_eq_true nO];cbv;refine yL hp 6 (fun h2 p2=>?_);have gB:=gB h2 p2;cbv;exact gB
 ·have gB:=gB (.inl he);rw[decide_eq_true he];cbv;refine yL hp 6 (fun h2 p2=>?_);have gB:=gB h2 p2;cbv;exact gB
theorem vf(a b:ByteArray):(a++b).size=a.size+b.size:=ByteArray.size_append
theorem rY{base h:ad}{pb:Nat}{lv:Bool}{s:PS}(hp:gX lv base h pb s){k:Value->ad->Prop}
 (hk:∀h' v s',s.column ao=(v,s')->gX lv base h' pb s'->s'.ws.length<=s.ws.length->v.size<=25->k (.string v) h'):
 Ct 220 [.pointer (some ⟨pb,0,none⟩)] h k:=by
 obtain⟨A,hA⟩:=Ar.ex;refine ah A (ar T220.aA T220.bm) Tryz.func220 rfl (by kernel_rfl) ?_;cbv;refine JU hp (fun h1 v1 s1 e1 p1 l1 z1=>?_);cbv;refine CO p1 (ax [46]) (fun h2 t s2 e2 p2 l2 QA=>?_);have K9:s.column ao=match s1.is (ax [46])with
  | (true,q)=>let t:=q.name ao;(v1++(ax [46])++t.1,t.2)
  | (false,q)=>(v1,q):=by unfold PS.column;simp only[e1];rfl
 rw[e2]at K9;cases t with
 |false=>have ae:=hk h2 v1 s2 K9 p2 (by rw[(QA rfl).1];exact l1) (by omega);cbv;exact ae
 |true=>
  have K9:s.column ao=let t:=s2.name ao;(v1++(ax [46])++t.1,t.2):=K9;have l2:=l2 rfl;obtain⟨u,hu⟩:∃u,A .cat v1 (ax [46])=u:=⟨_,rfl⟩;have Ih:u=v1++ax [46]:=by rw[<-hu,hA.cat]
  have hus:u.size<=13:=by rw[Ih,vf];have:(ax [46]).size=1:=rfl;omega
  have hc1:((v1.size+(ax [46]).size:Nat):Int)<=2^62:=by have:(ax [46]).size=1:=rfl;omega
  cbv;refine⟨hc1,?_⟩;have hu:A .cat v1 ⟨#[46]⟩=u:=hu;cbv;rw[hu];refine JU p2 (fun h3 v3 s3 e3 p3 l3 z3=>?_);have je:((u.size+v3.size:Nat):Int)<=2^62:=by omega
  have ae:=hk h3 (A .cat u v3) s3 (by rw[K9];simp only[e3];rw[hA.cat,Ih]) p3 (by omega) (by rw[hA.cat];show(u++v3).size<=25;rw[vf];omega);cbv;refine⟨je,?_⟩;cbv;exact ae
theorem gX.JA{base h h1 h2:ad}{pb:Nat}{lv:Bool}{s:PS}(q:gX lv base h pb s){wb eb b':Option Addr}{wn wc en ec m c':Nat}{at_ err:Int}{e':List Nd}{lv':Bool}
 (g:h pb=some (.cells #[.slice wb wn wc,.int .i64 at_,.int .i64 err,.slice eb en ec] 136 (0,0)))
 (hle:Le base h1) (qb:lv'=true->cX 325 dh base h1 (.slice b' m c') e'/\e'.length<=60) (g1:h1 pb=some (.cells #[.slice wb wn wc,.int .i64 at_,.int .i64 err,.slice eb en ec] 136 (0,0)))
 (e:h2=bp h1 pb (.cells #[.slice wb wn wc,.int .i64 at_,.int .i64 err,.slice b' m c'] 136 (0,0))):gX lv' base h2 pb { s with e:=e' }:=by
 obtain⟨wb',wn',wc',eb',en',ec',at2,i,all,g0,g2,g3,g4,g5,g6,g7,g9,wo⟩:=q.out;rw[g]at g0;cases g0;subst e;refine⟨wb,wn,wc,b',m,c',at_,i,all,af,g2,g3,g4,g5,g6,fun hl=>⟨(qb hl).1.mono (cF.set g1 (by decide)),(qb hl).2⟩,fun b x hb=>?_,wo⟩;have bW:b≠pb:=fun e=>by rw[e,wo]at hb;cases hb
 rw[aP bW];exact hle b x hb
abbrev ndV(n:Nd):Value:=.agg #[.int .i64 n.op,.int .i64 n.a,.int .i64 n.b,.int .i64 n.v.k,.int .i64 n.v.n,.string n.v.s,.string n.name]
theorem jd{base h:ad}{pb:Nat}{s:PS}(hp:gX true base h pb s)(op a b vk vn:Int)(vs nm:ByteArray){k:Value->ad->Prop}
 (hk:∀h' v s',s.node ⟨op,a,b,⟨vk,vn,vs⟩,nm⟩=(v,s')->gX true base h' pb s'->s'.ws=s.ws->k (.int .i64 v) h'):
 Ct 264 [.pointer (some ⟨pb,0,none⟩),.agg #[.int .i64 op,.int .i64 a,.int .i64 b,.int .i64 vk,.int .i64 vn,.string vs,.string nm]] h k:=by
 obtain⟨A,hA⟩:=Ar.ex;obtain⟨ws,err,ex⟩:=s;refine hp.elim (fun wb wn wc eb en ec at_ i all w r g qw hz hw nH hr hi OR qe=>?_);obtain⟨qb,DP⟩:=qe rfl;have qb:cX 325 dh base h (.slice eb en ec) ex:=qb;have DP:ex.length<=60:=DP;have O3:=qb.sl.len;have g:h pb=some (.cells #[.slice wb wn wc,.int .i64 at_,.int .i64 err,.slice eb en ec] 136 (0,0)):=g;have f1:A .aG .neq err 0=decide (err≠0):=aB A ..;have f2:A .aG .geq (A .nat en) 60=decide (en>=60):=by rw[bS A,hA.nat,decide_eq_decide];simp only[Int.ofNat_eq_natCast];omega
 obtain⟨nd,MV⟩:∃nd:Nd,nd=⟨op,a,b,⟨vk,vn,vs⟩,nm⟩:=⟨_,rfl⟩;have tM:PS.node ⟨ws,err,ex⟩ nd=if err≠0 then(0,⟨ws,err,ex⟩)else if ex.length>=60 then(0,PS.fail ⟨ws,err,ex⟩ 4)else((ex.length:Int),⟨ws,err,ex++[nd]⟩):=rfl
 rw[<-MV]at hk;obtain⟨xl,Y8⟩:∃xl:Int,(ex.length:Int)=xl:=⟨_,rfl⟩;rw[Y8]at tM;have fN:∀m2,m2=en+1->A .bA .sub .i64 (A .nat m2) 1=xl:=fun m2 e=>by
  rw[pA A _ _ (by rw[hA.nat];simp only[Int.ofNat_eq_natCast];omega),hA.nat];simp only[Int.ofNat_eq_natCast];omega
 clear Y8;refine ah A (ar T264.aA T264.bm) Tryz.func264 rfl (by kernel_rfl) ?_;cbv;rw[ai A];refine av g rfl rfl ?_;cbv;rw[f1];by_cases he:err=0
 ·rw[if_neg (by simpa using he)]at tM;rw[decide_eq_false (by simpa using he)];cbv;rw[ai A];refine av g rfl rfl ?_;cbv;rw[f2];by_cases qA:en>=60
  ·rw[if_pos (by omega)]at tM;have ae:=fun h2 p2=>hk h2 0 _ tM p2 (PS.rQ _ _);rw[decide_eq_true qA];cbv;refine yL hp 4 (fun h2 p2=>?_);have ae:=ae h2 p2;cbv;exact ae
  ·rw[if_neg (by omega)]at tM;rw[decide_eq_false qA];cbv;rw[ai A];refine av g rfl rfl ?_;cbv;intro n1 h1 g1 e1;have l1:Le h h1:=by rw[e1];exact Le.set g1
   have f3:=(congrFun e1 n1).trans af;have qv:Sl 325 dh h1 (.slice (some ⟨n1,0,none⟩) 1 1) [nd]:=bU (s:=dh) f3 (by rw[MV];rfl);have gp1:=l1 _ _ g;cbv;refine av gp1 rfl rfl ?_;cbv;refine⟨⟨_,rfl,rfl⟩,?_⟩;cbv;refine(qb.mono (l1.t _)).append qv (by decide) rfl (by decide) (by omega) (hp.le.trans l1) (fun m2 b2 c2 h2 em2 l2 t2 k2 jS=>?_);have gp2:=k2 _ _ gp1 (fun c fr e=>by cases e);cbv;rw[ai A];refine jz gp2 (by simp) (fun h3 e3=>?_);have p3:=hp.JA (lv':=true) (e':=ex++[nd]) g l2 (fun _=>⟨jS,by rw[List.length_append,List.length_singleton];omega⟩) gp2 e3;have gp3:=(congrFun e3 pb).trans af;have ae:=hk h3 _ _ tM p3 rfl;rw[<-fN m2 em2]at ae;cbv;rw[ai A];refine av gp3 rfl rfl ?_;cbv;exact ae
 ·rw[if_pos he]at tM;have ae:=hk h 0 _ tM hp rfl;rw[decide_eq_true he];cbv;exact ae
abbrev ub(f:FuncId)(rank:Nat)(fn:Nat->PS->Int×PS)(n:Nat):Prop:=∀(base h:ad) (pb:Nat) (s:PS) (k:Value->ad->Prop),gX true base h pb s->9*s.ws.length+rank<=n->
 (∀h' a s',fn n s=(a,s')->gX true base h' pb s'->s'.ws.length<=s.ws.length->k (.int .i64 a) h')->Ct f [.pointer (some ⟨pb,0,none⟩)] h k
theorem JX{base h:ad}{pb:Nat}{lv:Bool}{s:PS}(hp:gX lv base h pb s){n:Nat}(hn:h n=none)(l:List ByteArray){m:Nat}{h1:ad}(e:h1=bp h n (.cells (List.toArray (l.map Value.string)) 9 (0,0)))(hm:m=l.length)(hl:l.length<=10){k:Value->ad->Prop}
 (hk:∀h' s',s.cg l=s'->gX lv base h' pb s'->s'.ws.length<=s.ws.length->k (.tuple #[]) h'):Ct 122 [.pointer (some ⟨pb,0,none⟩),.slice (some ⟨n,0,none⟩) m m] h1 k:=by
 subst hm e;have BY:=hp.le.none hn;have ql:Sl 9 cB (bp base n (.cells (List.toArray (l.map Value.string)) 9 (0,0))) (.slice (some ⟨n,0,none⟩) l.length l.length) l:=by
  refine Sl.fresh (c:=l.map Value.string) af ⟨?_,fun i x hx=>?_⟩ (by omega) (Nat.le_refl _)
  ·show 0+l.length*1<=_;rw[List.length_map];omega
  ·show List.take 1 (List.drop (0+i*1) _)=[Value.string x];obtain⟨h1,h2⟩:=List.getElem?_eq_some_iff.1 hx;rw[Nat.zero_add,Nat.mul_one,List.drop_eq_getElem_cons (by simpa using h1)];simp[h2]
 exact YH (hp.add hn) ql (fun h' s' e p le=>hk h' s' e (p.drop BY (fun _ _ _ q=>by cases q;decide)) le)
theorem eB{s s':PS}{str:ByteArray}{op:Int}{r:List (ByteArray×Int)}(e:s.is str=(true,s')):s.da ((str,op)::r)=(some op,s'):=by show(match s.is str with| (true,q)=>_| (false,q)=>_)=_;rw[e]
theorem aM{s s':PS}{str:ByteArray}{op:Int}{r:List (ByteArray×Int)}(e:s.is str=(false,s')):s.da ((str,op)::r)=s'.da r:=by show(match s.is str with| (true,q)=>_| (false,q)=>_)=_;rw[e]
theorem oC{sub:PS->Int×PS}{ops:List (ByteArray×Int)}{n:Nat}{a op:Int}{p q:PS}(e:p.da ops=(some op,q)):eD sub ops (n+1) a p=eD sub ops n ((sub q).2.node (bin op a (sub q).1)).1 ((sub q).2.node (bin op a (sub q).1)).2:=by show(match p.da ops with| (some op,p)=>_| (none,p)=>(a,p))=_;rw[e]
theorem pf{sub:PS->Int×PS}{ops:List (ByteArray×Int)}{n:Nat}{a:Int}{p q:PS}(e:p.da ops=(none,q))(hq:q=p):eD sub ops n a p=(a,p):=by
 subst hq;cases n with
 |zero=>rfl
 |succ n=>show(match q.da ops with| (some op,p)=>_| (none,p)=>(a,p))=_;rw[e]
theorem Ob{n:Nat}(IH:ub 298 7 (AB ao) n):ub 263 8 (JJ ao) (n+1):=by
 intro base h pb s k hp hf hk;obtain⟨A,hA⟩:=Ar.ex;obtain⟨ops,pC⟩:∃ops:List (ByteArray×Int),ops=[((ax [111,114]),6)]:=⟨_,rfl⟩;obtain⟨sub,dp⟩:∃sub,sub=AB ao n:=⟨_,rfl⟩;have aO:JJ ao (n+1) s=eD sub ops (sub s).2.ws.length (sub s).1 (sub s).2:=by rw[pC,dp];simp only[JJ]
 refine ah A (ar T263.aA T263.bm) Tryz.func263 rfl (by kernel_rfl) ?_;cbv;refine IH base h pb s _ hp (by omega) (fun h1 a1 s1 e1 p1 l1=>?_);rw[<-dp]at e1;rw[e1]at aO;obtain⟨R,hR⟩:∃R,eD sub ops s1.ws.length a1 s1=R:=⟨_,rfl⟩;have aO:JJ ao (n+1) s=R:=aO.trans hR;obtain⟨I,bl⟩:∃I:Nat->Int->ad->Prop,∀m g h',I m g h'=∃fu s2,gX true base h' pb s2/\s2.ws.length<=fu/\eD sub ops fu g s2=R/\s2.ws.length<=s.ws.length/\m=s2.ws.length:=⟨_,fun _ _ _=>rfl⟩;have hJ:I s1.ws.length a1 h1:=by rw[bl];exact⟨_,s1,p1,Nat.le_refl _,hR,l1,rfl⟩
 have js:∀h' g s2,R=(g,s2)->gX true base h' pb s2->s2.ws.length<=s.ws.length->k (.int .i64 g) h':=fun h' g s2 e p l=>hk h' g s2 (aO.trans e) p l;clear hk hR aO e1;cbv;refine aX.go (G:=Int) (fun g=>[(3,.v (.int .i64 g))]) (fun _=>[]) (fun m g h'=>I m g h') s1.ws.length a1 ⟨?_,?_,?_⟩ hJ ?_
 ·cbv
 ·cbv
 ·cbv
 ·intro m g h' hI;rw[bl]at hI;cbv;obtain⟨fu,s2,p2,Vl,he,tO,hm⟩:=hI;refine CO p2 (ax [111,114]) (fun h3 t s3 e3 p3 zN MD=>?_);cases t with
  |true=>
   have zN:=zN rfl;have eo:s2.da ops=(some 6,s3):=by rw[pC];exact eB e3
   cbv;have xE:9*s3.ws.length+7<=n:=by omega
   refine IH base h3 pb s3 _ p3 xE (fun h4 b s4 e4 p4 l4=>?_);rw[<-dp]at e4;obtain⟨fu,rfl⟩:∃B8,fu=B8+1:=⟨fu-1,by omega⟩;have he:=(oC (sub:=sub) (n:=fu) (a:=g) eo).symm.trans he;rw[e4]at he;cbv;refine jd p4 6 g b 0 0 _ _ (fun h5 v5 s5 e5 p5 w5=>?_);have e5:s4.node (bin 6 g b)=(v5,s5):=e5;have he:eD sub ops fu v5 s5=R:=by rw[<-he];show _=eD sub ops fu (s4.node (bin 6 g b)).1 (s4.node (bin 6 g b)).2;rw[e5]
   have Pg:I s5.ws.length v5 h5:=by rw[bl];exact⟨fu,s5,p5,by rw[w5];omega,he,by rw[w5];omega,rfl⟩
   have aK:s5.ws.length<m:=by rw[w5];omega
   clear he bl hJ js;cbv;refine⟨s5.ws.length,_,aK,⟨?_,?_,?_⟩,Pg⟩
   ·cbv
   ·cbv
   ·cbv
  |false=>
   obtain⟨rfl,rfl⟩:=MD rfl;have eo:s3.da ops=(none,s3):=by rw[pC];exact aM e3
   have ae:=js h3 g s3 (he.symm.trans (pf eo rfl)) p3 tO;cbv;exact ae
theorem Mq{n:Nat}(IH:ub 323 6 (qj ao) n):ub 298 7 (AB ao) (n+1):=by
 intro base h pb s k hp hf hk;obtain⟨A,hA⟩:=Ar.ex;obtain⟨ops,pC⟩:∃ops:List (ByteArray×Int),ops=[((ax [97,110,100]),7)]:=⟨_,rfl⟩;obtain⟨sub,dp⟩:∃sub,sub=qj ao n:=⟨_,rfl⟩;have aO:AB ao (n+1) s=eD sub ops (sub s).2.ws.length (sub s).1 (sub s).2:=by rw[pC,dp];simp only[AB]
 refine ah A (ar T298.aA T298.bm) Tryz.func298 rfl (by kernel_rfl) ?_;cbv;refine IH base h pb s _ hp (by omega) (fun h1 a1 s1 e1 p1 l1=>?_);rw[<-dp]at e1;rw[e1]at aO;obtain⟨R,hR⟩:∃R,eD sub ops s1.ws.length a1 s1=R:=⟨_,rfl⟩;have aO:AB ao (n+1) s=R:=aO.trans hR;obtain⟨I,bl⟩:∃I:Nat->Int->ad->Prop,∀m g h',I m g h'=∃fu s2,gX true base h' pb s2/\s2.ws.length<=fu/\eD sub ops fu g s2=R/\s2.ws.length<=s.ws.length/\m=s2.ws.length:=⟨_,fun _ _ _=>rfl⟩;have hJ:I s1.ws.length a1 h1:=by rw[bl];exact⟨_,s1,p1,Nat.le_refl _,hR,l1,rfl⟩
 have js:∀h' g s2,R=(g,s2)->gX true base h' pb s2->s2.ws.length<=s.ws.length->k (.int .i64 g) h':=fun h' g s2 e p l=>hk h' g s2 (aO.trans e) p l;clear hk hR aO e1;cbv;refine aX.go (G:=Int) (fun g=>[(3,.v (.int .i64 g))]) (fun _=>[]) (fun m g h'=>I m g h') s1.ws.length a1 ⟨?_,?_,?_⟩ hJ ?_
 ·cbv
 ·cbv
 ·cbv
 ·intro m g h' hI;rw[bl]at hI;cbv;obtain⟨fu,s2,p2,Vl,he,tO,hm⟩:=hI;refine CO p2 (ax [97,110,100]) (fun h3 t s3 e3 p3 zN MD=>?_);cases t with
  |true=>
   have zN:=zN rfl;have eo:s2.da ops=(some 7,s3):=by rw[pC];exact eB e3
   cbv;have xE:9*s3.ws.length+6<=n:=by omega
   refine IH base h3 pb s3 _ p3 xE (fun h4 b s4 e4 p4 l4=>?_);rw[<-dp]at e4;obtain⟨fu,rfl⟩:∃B8,fu=B8+1:=⟨fu-1,by omega⟩;have he:=(oC (sub:=sub) (n:=fu) (a:=g) eo).symm.trans he;rw[e4]at he;cbv;refine jd p4 7 g b 0 0 _ _ (fun h5 v5 s5 e5 p5 w5=>?_);have e5:s4.node (bin 7 g b)=(v5,s5):=e5;have he:eD sub ops fu v5 s5=R:=by rw[<-he];show _=eD sub ops fu (s4.node (bin 7 g b)).1 (s4.node (bin 7 g b)).2;rw[e5]
   have Pg:I s5.ws.length v5 h5:=by rw[bl];exact⟨fu,s5,p5,by rw[w5];omega,he,by rw[w5];omega,rfl⟩
   have aK:s5.ws.length<m:=by rw[w5];omega
   clear he bl hJ js;cbv;refine⟨s5.ws.length,_,aK,⟨?_,?_,?_⟩,Pg⟩
   ·cbv
   ·cbv
   ·cbv
  |false=>
   obtain⟨rfl,rfl⟩:=MD rfl;have eo:s3.da ops=(none,s3):=by rw[pC];exact aM e3
   have ae:=js h3 g s3 (he.symm.trans (pf eo rfl)) p3 tO;cbv;exact ae
theorem JY{n:Nat}(IH:ub 355 2 (qk ao) n):ub 354 3 (zM ao) (n+1):=by
 intro base h pb s k hp hf hk;obtain⟨A,hA⟩:=Ar.ex;obtain⟨ops,pC⟩:∃ops:List (ByteArray×Int),ops=[((ax [42]),16)]:=⟨_,rfl⟩;obtain⟨sub,dp⟩:∃sub,sub=qk ao n:=⟨_,rfl⟩;have aO:zM ao (n+1) s=eD sub ops (sub s).2.ws.length (sub s).1 (sub s).2:=by rw[pC,dp];simp only[zM]
 refine ah A (ar T354.aA T354.bm) Tryz.func354 rfl (by kernel_rfl) ?_;cbv;refine IH base h pb s _ hp (by omega) (fun h1 a1 s1 e1 p1 l1=>?_);rw[<-dp]at e1;rw[e1]at aO;obtain⟨R,hR⟩:∃R,eD sub ops s1.ws.length a1 s1=R:=⟨_,rfl⟩;have aO:zM ao (n+1) s=R:=aO.trans hR;obtain⟨I,bl⟩:∃I:Nat->Int->ad->Prop,∀m g h',I m g h'=∃fu s2,gX true base h' pb s2/\s2.ws.length<=fu/\eD sub ops fu g s2=R/\s2.ws.length<=s.ws.length/\m=s2.ws.length:=⟨_,fun _ _ _=>rfl⟩;have hJ:I s1.ws.length a1 h1:=by rw[bl];exact⟨_,s1,p1,Nat.le_refl _,hR,l1,rfl⟩
 have js:∀h' g s2,R=(g,s2)->gX true base h' pb s2->s2.ws.length<=s.ws.length->k (.int .i64 g) h':=fun h' g s2 e p l=>hk h' g s2 (aO.trans e) p l;clear hk hR aO e1;cbv;refine aX.go (G:=Int) (fun g=>[(3,.v (.int .i64 g))]) (fun _=>[]) (fun m g h'=>I m g h') s1.ws.length a1 ⟨?_,?_,?_⟩ hJ ?_
 ·cbv
 ·cbv
 ·cbv
 ·intro m g h' hI;rw[bl]at hI;cbv;obtain⟨fu,s2,p2,Vl,he,tO,hm⟩:=hI;refine CO p2 (ax [42]) (fun h3 t s3 e3 p3 zN MD=>?_);cases t with
  |true=>
   have zN:=zN rfl;have eo:s2.da ops=(some 16,s3):=by rw[pC];exact eB e3
   cbv;have xE:9*s3.ws.length+2<=n:=by omega
   refine IH base h3 pb s3 _ p3 xE (fun h4 b s4 e4 p4 l4=>?_);rw[<-dp]at e4;obtain⟨fu,rfl⟩:∃B8,fu=B8+1:=⟨fu-1,by omega⟩;have he:=(oC (sub:=sub) (n:=fu) (a:=g) eo).symm.trans he;rw[e4]at he;cbv;refine jd p4 16 g b 0 0 _ _ (fun h5 v5 s5 e5 p5 w5=>?_);have e5:s4.node (bin 16 g b)=(v5,s5):=e5;have he:eD sub ops fu v5 s5=R:=by rw[<-he];show _=eD sub ops fu (s4.node (bin 16 g b)).1 (s4.node (bin 16 g b)).2;rw[e5]
   have Pg:I s5.ws.length v5 h5:=by rw[bl];exact⟨fu,s5,p5,by rw[w5];omega,he,by rw[w5];omega,rfl⟩
   have aK:s5.ws.length<m:=by rw[w5];omega
   clear he bl hJ js;cbv;refine⟨s5.ws.length,_,aK,⟨?_,?_,?_⟩,Pg⟩
   ·cbv
   ·cbv
   ·cbv
  |false=>
   obtain⟨rfl,rfl⟩:=MD rfl;have eo:s3.da ops=(none,s3):=by rw[pC];exact aM e3
   have ae:=js h3 g s3 (he.symm.trans (pf eo rfl)) p3 tO;cbv;exact ae
theorem Jb{n:Nat}(IH:ub 354 3 (zM ao) n):ub 353 4 (zp ao) (n+1):=by
 intro base h pb s k hp hf hk;obtain⟨A,hA⟩:=Ar.ex;obtain⟨ops,pC⟩:∃ops:List (ByteArray×Int),ops=[((ax [43]),14),((ax [45]),15)]:=⟨_,rfl⟩;obtain⟨sub,dp⟩:∃sub,sub=zM ao n:=⟨_,rfl⟩;have aO:zp ao (n+1) s=eD sub ops (sub s).2.ws.length (sub s).1 (sub s).2:=by rw[pC,dp];simp only[zp]
 refine ah A (ar T353.aA T353.bm) Tryz.func353 rfl (by kernel_rfl) ?_;cbv;refine IH base h pb s _ hp (by omega) (fun h1 a1 s1 e1 p1 l1=>?_);rw[<-dp]at e1;rw[e1]at aO;obtain⟨R,hR⟩:∃R,eD sub ops s1.ws.length a1 s1=R:=⟨_,rfl⟩;have aO:zp ao (n+1) s=R:=aO.trans hR;obtain⟨I,bl⟩:∃I:Nat->Int->ad->Prop,∀m g h',I m g h'=∃fu s2,gX true base h' pb s2/\s2.ws.length<=fu/\eD sub ops fu g s2=R/\s2.ws.length<=s.ws.length/\m=s2.ws.length:=⟨_,fun _ _ _=>rfl⟩;have hJ:I s1.ws.length a1 h1:=by rw[bl];exact⟨_,s1,p1,Nat.le_refl _,hR,l1,rfl⟩
 have js:∀h' g s2,R=(g,s2)->gX true base h' pb s2->s2.ws.length<=s.ws.length->k (.int .i64 g) h':=fun h' g s2 e p l=>hk h' g s2 (aO.trans e) p l;clear hk hR aO e1;cbv;refine aX.go (G:=Int) (fun g=>[(3,.v (.int .i64 g))]) (fun _=>[]) (fun m g h'=>I m g h') s1.ws.length a1 ⟨?_,?_,?_⟩ hJ ?_
 ·cbv
 ·cbv
 ·cbv
 ·intro m g h' hI;rw[bl]at hI;cbv;obtain⟨fu,s2,p2,Vl,he,tO,hm⟩:=hI;have n1:A .aG .eql 14 0=false:=by rw[aw A];rfl
  have n2:A .aG .eql 15 0=false:=by rw[aw A];rfl
  have n3:A .aG .eql 0 0=true:=by rw[aw A];rfl
  refine CO p2 (ax [43]) (fun h3 t s3 e3 p3 zN MD=>?_);cases t with
  |true=>
   have zN:=zN rfl;have eo:s2.da ops=(some 14,s3):=by rw[pC];exact eB e3
   cbv;rw[n1];cbv;have xE:9*s3.ws.length+3<=n:=by omega
   refine IH base h3 pb s3 _ p3 xE (fun h4 b s4 e4 p4 l4=>?_);rw[<-dp]at e4;obtain⟨fu,rfl⟩:∃B8,fu=B8+1:=⟨fu-1,by omega⟩;have he:=(oC (sub:=sub) (n:=fu) (a:=g) eo).symm.trans he;rw[e4]at he;cbv;refine jd p4 14 g b 0 0 _ _ (fun h5 v5 s5 e5 p5 w5=>?_);have e5:s4.node (bin 14 g b)=(v5,s5):=e5;have he:eD sub ops fu v5 s5=R:=by rw[<-he];show _=eD sub ops fu (s4.node (bin 14 g b)).1 (s4.node (bin 14 g b)).2;rw[e5]
   have Pg:I s5.ws.length v5 h5:=by rw[bl];exact⟨fu,s5,p5,by rw[w5];omega,he,by rw[w5];omega,rfl⟩
   have aK:s5.ws.length<m:=by rw[w5];omega
   clear he bl hJ js;cbv;refine⟨s5.ws.length,_,aK,⟨?_,?_,?_⟩,Pg⟩
   ·cbv
   ·cbv
   ·cbv
  |false=>
   obtain⟨rfl,rfl⟩:=MD rfl;have e30:=e3;clear zN MD e3 p3;cbv;refine CO p2 (ax [45]) (fun h3 t s3 e3 p3 zN MD=>?_);cases t with
   |true=>
    have zN:=zN rfl;have eo:=(aM (op:=14) (r:=[((ax [45]),15)]) e30).trans (eB e3);rw[<-pC]at eo;cbv;rw[n2];cbv;have xE:9*s3.ws.length+3<=n:=by omega
    refine IH base h3 pb s3 _ p3 xE (fun h4 b s4 e4 p4 l4=>?_);rw[<-dp]at e4;obtain⟨fu,rfl⟩:∃B8,fu=B8+1:=⟨fu-1,by omega⟩;have he:=(oC (sub:=sub) (n:=fu) (a:=g) eo).symm.trans he;rw[e4]at he;cbv;refine jd p4 15 g b 0 0 _ _ (fun h5 v5 s5 e5 p5 w5=>?_);have e5:s4.node (bin 15 g b)=(v5,s5):=e5;have he:eD sub ops fu v5 s5=R:=by rw[<-he];show _=eD sub ops fu (s4.node (bin 15 g b)).1 (s4.node (bin 15 g b)).2;rw[e5]
    have Pg:I s5.ws.length v5 h5:=by rw[bl];exact⟨fu,s5,p5,by rw[w5];omega,he,by rw[w5];omega,rfl⟩
    have aK:s5.ws.length<m:=by rw[w5];omega
    clear he bl hJ js;cbv;refine⟨s5.ws.length,_,aK,⟨?_,?_,?_⟩,Pg⟩
    ·cbv
    ·cbv
    ·cbv
   |false=>obtain⟨rfl,rfl⟩:=MD rfl;have eo:=(aM (op:=14) (r:=[((ax [45]),15)]) e30).trans (aM e3);rw[<-pC]at eo;have ae:=js h3 g s3 (he.symm.trans (pf eo rfl)) p3 tO;cbv;rw[n3];cbv;exact ae
theorem JR{n:Nat}(IH:ub 323 6 (qj ao) n)(IN:ub 343 5 (ux ao) n):ub 323 6 (qj ao) (n+1):=by
 intro base h pb s k hp hf hk;obtain⟨A,hA⟩:=Ar.ex;have aO:qj ao (n+1) s=match s.is (ax [110,111,116])with
  | (true,p)=>let a:=qj ao n p;a.2.node (un 3 a.1)
  | (false,p)=>ux ao n p:=by simp only[qj];rfl
 refine ah A (ar T323.aA T323.bm) Tryz.func323 rfl (by kernel_rfl) ?_;cbv;refine CO hp (ax [110,111,116]) (fun h1 t s1 e1 p1 eK ik=>?_);rw[e1]at aO;cases t with
 |true=>
  have eK:=eK rfl;have aO:qj ao (n+1) s=(qj ao n s1).2.node (un 3 (qj ao n s1).1):=aO;have xE:9*s1.ws.length+6<=n:=by omega
  cbv;refine IH base h1 pb s1 _ p1 xE (fun h2 a s2 e2 p2 l2=>?_);rw[e2]at aO;cbv;refine jd p2 3 a 0 0 0 _ _ (fun h3 v3 s3 e3 p3 w3=>?_);have e3:s2.node (un 3 a)=(v3,s3):=e3;have ae:=hk h3 v3 s3 (aO.trans e3) p3 (by rw[w3];omega);cbv;exact ae
 |false=>obtain⟨rfl,rfl⟩:=ik rfl;have aO:qj ao (n+1) s1=ux ao n s1:=aO;cbv;refine IN base h1 pb s1 _ p1 (by omega) (fun h2 a s2 e2 p2 l2=>?_);have ae:=hk h2 a s2 (aO.trans e2) p2 l2;cbv;exact ae
theorem JT{n:Nat}(IH:ub 355 2 (qk ao) n)(IN:ub 356 1 (sP ao) n):ub 355 2 (qk ao) (n+1):=by
 intro base h pb s k hp hf hk;obtain⟨A,hA⟩:=Ar.ex;have aO:qk ao (n+1) s=match s.is (ax [45])with
  | (true,p)=>let a:=qk ao n p;a.2.node (un 4 a.1)
  | (false,p)=>sP ao n p:=by simp only[qk];rfl
 refine ah A (ar T355.aA T355.bm) Tryz.func355 rfl (by kernel_rfl) ?_;cbv;refine CO hp (ax [45]) (fun h1 t s1 e1 p1 eK ik=>?_);rw[e1]at aO;cases t with
 |true=>
  have eK:=eK rfl;have aO:qk ao (n+1) s=(qk ao n s1).2.node (un 4 (qk ao n s1).1):=aO;have xE:9*s1.ws.length+2<=n:=by omega
  cbv;refine IH base h1 pb s1 _ p1 xE (fun h2 a s2 e2 p2 l2=>?_);rw[e2]at aO;cbv;refine jd p2 4 a 0 0 0 _ _ (fun h3 v3 s3 e3 p3 w3=>?_);have e3:s2.node (un 4 a)=(v3,s3):=e3;have ae:=hk h3 v3 s3 (aO.trans e3) p3 (by rw[w3];omega);cbv;exact ae
 |false=>obtain⟨rfl,rfl⟩:=ik rfl;have aO:qk ao (n+1) s1=sP ao n s1:=aO;cbv;refine IN base h1 pb s1 _ p1 (by omega) (fun h2 a s2 e2 p2 l2=>?_);have ae:=hk h2 a s2 (aO.trans e2) p2 l2;cbv;exact ae
theorem HL{i:Nat}{w:ByteArray}(hw:(j6.map (·.1))[i]? =some w):j6.drop i=(w,8+(i:Int))::j6.drop (i+1):=by
 have hi:=(List.getElem?_eq_some_iff.1 hw).1;have hi:i<6:=hi;have h6:i=0\/i=1\/i=2\/i=3\/i=4\/i=5:=by omega
 rcases h6 with rfl|rfl|rfl|rfl|rfl|rfl<;>(cases hw;rfl)
theorem Av{n:Nat}(IH:ub 353 4 (zp ao) n):ub 343 5 (ux ao) (n+1):=by
 intro base h pb s k hp hf hk;obtain⟨A,hA⟩:=Ar.ex;obtain⟨sub,dp⟩:∃sub,sub=zp ao n:=⟨_,rfl⟩;have aO:ux ao (n+1) s=match (sub s).2.is (ax [105,115])with
  | (true,q)=>(q.cg [(ax [110,117,108,108])]).node (un 5 (sub s).1)
  | (false,q)=>match q.da j6 with
   | (some op,q)=>(sub q).2.node (bin op (sub s).1 (sub q).1)
   | (none,q)=>((sub s).1,q):=by rw[dp];simp only[ux];rfl
 refine ah A (ar T343.aA T343.bm) Tryz.func343 rfl (by kernel_rfl) ?_;cbv;refine IH base h pb s _ hp (by omega) (fun h1 a s1 e1 p1 l1=>?_);rw[<-dp]at e1;rw[e1]at aO;cbv;refine CO p1 (ax [105,115]) (fun h2 t s2 e2 p2 gy QA=>?_);replace aO:ux ao (n+1) s=match s1.is (ax [105,115])with
  | (true,q)=>(q.cg [(ax [110,117,108,108])]).node (un 5 a)
  | (false,q)=>match q.da j6 with
   | (some op,q)=>(sub q).2.node (bin op a (sub q).1)
   | (none,q)=>(a,q):=aO
 rw[e2]at aO;cases t with
 |true=>have gy:=gy rfl;replace aO:ux ao (n+1) s=(s2.cg [(ax [110,117,108,108])]).node (un 5 a):=aO;cbv;intro n3 h3 g3 e3;refine JX p2 g3 [(ax [110,117,108,108])] e3 rfl (by decide) (fun h4 s4 e4 p4 l4=>?_);rw[e4]at aO;cbv;refine jd p4 5 a 0 0 0 _ _ (fun h5 v5 s5 e5 p5 w5=>?_);have e5:s4.node (un 5 a)=(v5,s5):=e5;have ae:=hk h5 v5 s5 (aO.trans e5) p5 (by rw[w5];omega);cbv;exact ae
 |false=>
  obtain⟨rfl,rfl⟩:=QA rfl;clear e2 QA gy p1;replace aO:ux ao (n+1) s=match s2.da j6 with
   | (some op,q)=>(sub q).2.node (bin op a (sub q).1)
   | (none,q)=>(a,q):=aO
  obtain⟨L6,hL6⟩:∃L,L=j6.map (·.1):=⟨_,rfl⟩;have hL6l:L6.length=6:=by rw[hL6];rfl
  cbv;intro n3 h3 g3 e3;have e3:h3=bp h2 n3 (.cells (List.toArray ((j6.map (·.1)).map Value.string)) 9 (0,0)):=e3;have l3:Le h2 h3:=by rw[e3];exact Le.set g3
  have p3:=p2.mono l3;have gs:h3 n3=some (.cells (List.toArray (L6.map Value.string)) 9 (0,0)):=by rw[e3,hL6];exact af
  have ql:Sl 9 cB h3 (.slice (some ⟨n3,0,none⟩) 6 6) L6:=by
   have:=Sl.fresh (e:=9) (s:=cB) (xs:=L6) (cap:=6) gs ⟨?_,fun i x hx=>?_⟩ (by omega) (by omega)
   ·rw[hL6l]at this;exact this
   ·show 0+L6.length*1<=_;rw[List.length_map];omega
   ·show List.take 1 (List.drop (0+i*1) _)=[Value.string x];obtain⟨h1,h2⟩:=List.getElem?_eq_some_iff.1 hx;rw[Nat.zero_add,Nat.mul_one,List.drop_eq_getElem_cons (by simpa using h1)];simp[h2]
  obtain⟨I,bl⟩:∃I:Nat->Int->ad->Prop,∀m g h',I m g h'=∃i:Nat,aS g i/\i<=6/\m=6-i/\h'=h3/\s2.da (j6.drop i)=s2.da j6:=⟨_,fun _ _ _=>rfl⟩;have hJ:I 6 0 h3:=by rw[bl];exact⟨0,⟨rfl⟩,by decide,rfl,rfl,rfl⟩
  clear e3 gs p2;cbv;refine aX.go (G:=Int) (fun g=>[(5,.v (.int .i64 g))]) (fun _=>[]) (fun m g h'=>I m g h') 6 0 ⟨?_,?_,?_⟩ hJ ?_
  ·cbv
  ·cbv
  ·cbv
  ·intro m g h' hI;rw[bl]at hI;cbv;obtain⟨i,hg,hi,hm,rfl,he⟩:=hI;have f1:A .aG .lss g 6=decide (i<6):=hg.gy ⟨rfl⟩;have f1':A .aG .lss g (A .nat 6)=decide (i<6):=hg.gy (aS.nat 6);first|rw[f1] |rw[f1']
   by_cases aK:i<6
   ·obtain⟨w,hw⟩:=aI (xs:=L6) (i:=i) (by omega);have Vt:=HL (i:=i) (w:=w) (by rw[<-hL6];exact hw);rw[Vt]at he;have cU:(some (⟨n3,0,none⟩:Addr)).isSome=true/\0<=g/\g<((6:Nat):Int):=⟨rfl,hg.ix aK⟩;have iR:=hg.eq;have dD:=hg.succ (A:=A) (by omega);have Rd:A .bA .add .i64 8 g=8+(i:Int):=by rw[lL A _ _ (by omega),iR]
    obtain⟨op,Zy⟩:∃op:Int,8+(i:Int)=op:=⟨_,rfl⟩;rw[Zy]at Rd he;clear Zy Vt;rw[decide_eq_true aK];cbv;refine⟨cU,?_⟩;cbv;refine ql.load hw iR (fun cs aC=>?_);have aC:cs=[.string w]:=aC;subst aC;cbv;refine CO p3 w (fun h4 t s4 e4 p4 lt4 sm4=>?_);cases t with
    |true=>
     have lt4:=lt4 rfl;have eo:=he.symm.trans (eB e4);rw[eo]at aO;replace aO:ux ao (n+1) s=(sub s4).2.node (bin op a (sub s4).1):=aO;have xE:9*s4.ws.length+4<=n:=by omega
     cbv;refine IH base h4 pb s4 _ p4 xE (fun h5 b s5 e5 p5 l5=>?_);rw[<-dp]at e5;rw[e5]at aO;cbv;rw[Rd];refine jd p5 op a b 0 0 _ _ (fun h6 v6 s6 e6 p6 w6=>?_);have e6:s5.node (bin op a b)=(v6,s6):=e6;have ae:=hk h6 v6 s6 (aO.trans e6) p6 (by rw[w6];omega);cbv;exact ae
    |false=>
     obtain⟨rfl,rfl⟩:=sm4 rfl;have di:I (6-(i+1)) (A .bA .add .i64 g 1) h4:=by rw[bl];exact⟨i+1,dD,aK,rfl,rfl,(aM e4).symm.trans he⟩
     have j0:6-(i+1)<m:=by omega
     clear bl;cbv;refine⟨6-(i+1),_,j0,⟨?_,?_,?_⟩,di⟩
     ·cbv
     ·cbv
     ·cbv
   ·have hi6:i=6:=by omega
    subst hi6;have he:s2.da j6=(none,s2):=he.symm;rw[he]at aO;have ae:=hk h' a s2 aO p3 l1;rw[decide_eq_false aK];cbv;exact ae
def GK(n:Nat)(s:PS):Int×PS:=match s.is (ax [116,114,117,101])with
 | (true,q)=>q.node (lit ⟨1,1,b0⟩)
 | (false,q)=>match q.is (ax [102,97,108,115,101])with
  | (true,q)=>q.node (lit ⟨1,0,b0⟩)
  | (false,q)=>match q.is (ax [110,117,108,108])with
   | (true,q)=>q.node (lit v0)
   | (false,q)=>match q.is (ax [40])with
    | (true,q)=>let a:=JJ ao n q;(a.1,a.2.cg [(ax [41])])
    | (false,q)=>let s:=q.column ao;s.2.node (eJ s.1)
theorem JN{n:Nat}(IH:ub 263 8 (JJ ao) n):ub 356 1 (sP ao) (n+1):=by
 intro base h pb s k hp hf hk;obtain⟨A,hA⟩:=Ar.ex;obtain⟨ws,err,ex⟩:=s;refine hp.elim (fun wb wn wc eb en ec at_ i all w r g qw hz hw nH hr hi OR qe=>?_);have g:h pb=some (.cells #[.slice wb wn wc,.int .i64 at_,.int .i64 err,.slice eb en ec] 136 (0,0)):=g;have nH:ws=w::r:=nH;have cU:wb.isSome=true/\0<=at_/\at_<(wn:Int):=⟨qw.bu (by omega),hz.ix hi⟩;have fA:=hz.eq;have dD:=hz.succ (A:=A) (by omega);obtain⟨wk,wN,wS⟩:=w;have f1:A .aG .neq err 0=decide (err≠0):=aB A ..;have f2:A .aG .eql wk 2=decide (wk=2):=aw A ..;have f3:A .aG .eql wk 3=decide (wk=3):=aw A ..;have aO:sP ao (n+1) ⟨ws,err,ex⟩=if err≠0 then(0,⟨ws,err,ex⟩)else if wk=2 then PS.node ⟨r,err,ex⟩ (lit ⟨2,wN,b0⟩)else if wk=3 then PS.node ⟨r,err,ex⟩ (lit ⟨3,0,wS⟩)else GK n ⟨ws,err,ex⟩:=by subst nH;simp only[sP];rfl
 have OT:wk≠0->∀h',h'=bp h pb (.cells #[.slice wb wn wc,.int .i64 (A .bA .add .i64 at_ 1),.int .i64 err,.slice eb en ec] 136 (0,0))->gX true base h' pb ⟨r,err,ex⟩:=fun hk h' e=>hp.step nH hk g hz dD e;have Hd:r.length<=ws.length:=by rw[nH];exact Nat.le_succ _
 obtain⟨s,hs⟩:∃s:PS,s=⟨ws,err,ex⟩:=⟨_,rfl⟩;have nU:s.ws.length=ws.length:=by rw[hs]
 rw[<-hs]at aO hp hk hf;refine ah A (ar T356.aA T356.bm) Tryz.func356 rfl (by kernel_rfl) ?_;cbv;rw[ai A];refine av g rfl rfl ?_;cbv;rw[ai A];refine av g rfl rfl ?_;cbv;refine⟨cU,?_⟩;cbv;refine qw.load hw fA (fun cs aC=>?_);have aC:cs=[.int .i64 wk,.int .i64 wN,.string wS]:=aC;subst aC;cbv;rw[ai A];refine av g rfl rfl ?_;cbv;rw[f1];by_cases he:err≠0
 ·rw[if_pos he]at aO;have ae:=hk h 0 _ aO hp (Nat.le_refl _);rw[decide_eq_true he];cbv;exact ae
 ·rw[if_neg he]at aO;rw[decide_eq_false he];cbv;rw[f2];by_cases nh:wk=2
  ·rw[if_pos nh]at aO;have OT:=OT (by omega);rw[decide_eq_true nh];cbv;rw[ai A];refine av g rfl rfl ?_;cbv;rw[ai A];refine jz g (by simp) (fun h1 e1=>?_);have p1:=OT h1 e1;cbv;refine jd p1 1 0 0 2 wN _ _ (fun h2 v2 s2 e2 p2 w2=>?_);have e2:PS.node ⟨r,err,ex⟩ (lit ⟨2,wN,b0⟩)=(v2,s2):=e2;have ae:=hk h2 v2 s2 (aO.trans e2) p2 (by rw[w2,nU];exact Hd);cbv;exact ae
  ·rw[if_neg nh]at aO;rw[decide_eq_false nh];cbv;rw[f3];by_cases CQ:wk=3
   ·rw[if_pos CQ]at aO;have OT:=OT (by omega);rw[decide_eq_true CQ];cbv;rw[ai A];refine av g rfl rfl ?_;cbv;rw[ai A];refine jz g (by simp) (fun h1 e1=>?_);have p1:=OT h1 e1;cbv;refine jd p1 1 0 0 3 0 wS _ (fun h2 v2 s2 e2 p2 w2=>?_);have e2:PS.node ⟨r,err,ex⟩ (lit ⟨3,0,wS⟩)=(v2,s2):=e2;have ae:=hk h2 v2 s2 (aO.trans e2) p2 (by rw[w2,nU];exact Hd);cbv;exact ae
   ·rw[if_neg CQ]at aO;rw[decide_eq_false CQ];clear OT hs cU g qe nH f1 f2 f3;cbv;refine CO hp (ax [116,114,117,101]) (fun h1 t s1 lW p1 eK ik=>?_);cases t with
    |true=>
     have eK:=eK rfl;replace aO:sP ao (n+1) s=s1.node (lit ⟨1,1,b0⟩):=by rw[aO];unfold GK;simp only[lW]
     cbv;refine jd p1 1 0 0 1 1 _ _ (fun h2 v2 s2 e2 p2 w2=>?_);have e2:s1.node (lit ⟨1,1,b0⟩)=(v2,s2):=e2;have ae:=hk h2 v2 s2 (aO.trans e2) p2 (by rw[w2];omega);cbv;exact ae
    |false=>
     obtain⟨fh,eF⟩:=ik rfl;replace fh:=fh.symm;replace eF:=eF.symm;subst fh eF;clear eK ik p1;cbv;refine CO hp (ax [102,97,108,115,101]) (fun h1 t s1 uv p1 eK ik=>?_);cases t with
     |true=>
      have eK:=eK rfl;replace aO:sP ao (n+1) s=s1.node (lit ⟨1,0,b0⟩):=by rw[aO];unfold GK;simp only[lW,uv]
      cbv;refine jd p1 1 0 0 1 0 _ _ (fun h2 v2 s2 e2 p2 w2=>?_);have e2:s1.node (lit ⟨1,0,b0⟩)=(v2,s2):=e2;have ae:=hk h2 v2 s2 (aO.trans e2) p2 (by rw[w2];omega);cbv;exact ae
     |false=>
      obtain⟨fh,eF⟩:=ik rfl;replace fh:=fh.symm;replace eF:=eF.symm;subst fh eF;clear eK ik p1;cbv;refine CO hp (ax [110,117,108,108]) (fun h1 t s1 xH p1 eK ik=>?_);cases t with
      |true=>
       have eK:=eK rfl;replace aO:sP ao (n+1) s=s1.node (lit v0):=by rw[aO];unfold GK;simp only[lW,uv,xH]
       cbv;refine jd p1 1 0 0 0 0 _ _ (fun h2 v2 s2 e2 p2 w2=>?_);have e2:s1.node (lit v0)=(v2,s2):=e2;have ae:=hk h2 v2 s2 (aO.trans e2) p2 (by rw[w2];omega);cbv;exact ae
      |false=>
       obtain⟨fh,eF⟩:=ik rfl;replace fh:=fh.symm;replace eF:=eF.symm;subst fh eF;clear eK ik p1;cbv;refine CO hp (ax [40]) (fun h1 t s1 Nh p1 eK ik=>?_);cases t with
       |true=>
        have eK:=eK rfl;replace aO:sP ao (n+1) s=((JJ ao n s1).1,(JJ ao n s1).2.cg [(ax [41])]):=by rw[aO];unfold GK;simp only[lW,uv,xH,Nh]
        have xE:9*s1.ws.length+8<=n:=by omega
        cbv;refine IH base h1 pb s1 _ p1 xE (fun h2 a s2 e2 p2 l2=>?_);rw[e2]at aO;cbv;intro n3 h3 g3 e3;refine JX p2 g3 [(ax [41])] e3 rfl (by decide) (fun h4 s4 e4 p4 l4=>?_);have ae:=hk h4 a s4 (by rw[aO];show(a,s2.cg _)=_;rw[e4]) p4 (by omega);cbv;exact ae
       |false=>
        obtain⟨fh,eF⟩:=ik rfl;replace fh:=fh.symm;replace eF:=eF.symm;subst fh eF;cbv;refine rY p1 (fun h2 v s2 e2 p2 l2 z2=>?_);replace aO:sP ao (n+1) s=s2.node (eJ v):=by rw[aO];unfold GK;simp only[lW,uv,xH,Nh,e2]
        cbv;refine jd p2 2 0 0 0 0 _ v (fun h3 v3 s3 e3 p3 w3=>?_);have e3:s2.node (eJ v)=(v3,s3):=e3;have ae:=hk h3 v3 s3 (aO.trans e3) p3 (by rw[w3];omega);cbv;exact ae
theorem yl:∀n,ub 263 8 (JJ ao) n/\ub 298 7 (AB ao) n/\ub 323 6 (qj ao) n/\ub 343 5 (ux ao) n/\ub 353 4 (zp ao) n/\ub 354 3 (zM ao) n/\ub 355 2 (qk ao) n/\ub 356 1 (sP ao) n
 |0=>⟨fun _ _ _ _ _ _ h=>by omega,fun _ _ _ _ _ _ h=>by omega,fun _ _ _ _ _ _ h=>by omega,fun _ _ _ _ _ _ h=>by omega,fun _ _ _ _ _ _ h=>by omega,fun _ _ _ _ _ _ h=>by omega,fun _ _ _ _ _ _ h=>by omega,fun _ _ _ _ _ _ h=>by omega⟩
 |n+1=>by
  obtain⟨h1,h2,h3,h4,h5,h6,h7,h8⟩:=yl n;exact⟨Ob h2,Mq h3,JR h3 h4,Av h5,Jb h6,JY h7,JT h7 h8,JN h1⟩
theorem gX.freeze{base h:ad}{pb:Nat}{lv:Bool}{s:PS}(q:gX lv base h pb s):gX false (Sx.de h pb) h pb s:=by
 obtain⟨wb,wn,wc,eb,en,ec,at_,i,all,g1,g2,g3,g4,g5,g6,g7,g9,wo⟩:=q.out;refine⟨wb,wn,wc,eb,en,ec,at_,i,all,g1,g2.mono (fun b c e fr _ hb=>?_),g3,g4,g5,g6,(fun hh=>by cases hh),Sx.fJ h pb,Sx.dX h pb⟩;have bW:b≠pb:=fun e=>by rw[e,wo]at hb;cases hb
 rw[Sx.eQ bW];exact g9 b _ hb
theorem exprK{base h:ad}{pb:Nat}{lv:Bool}{s:PS}(hp:gX lv base h pb s){k:Value->ad->Prop}
 (hk:∀FR h' b n c e s',s.expr ao=(e,s')->e.length<=60->Le base FR->gX false FR h' pb s'->Sl 325 dh FR (.slice b n c) e->s'.ws.length<=s.ws.length->k (.slice b n c) h'):
 Ct 217 [.pointer (some ⟨pb,0,none⟩)] h k:=by
 obtain⟨A,hA⟩:=Ar.ex;refine hp.elim (fun wb wn wc eb en ec at_ i all w r g qw hz hw nH hr hi OR qe=>?_);have hle:=hp.le;refine ah A (ar T217.aA T217.bm) Tryz.func217 rfl (by kernel_rfl) ?_;cbv;rw[ai A];refine jz g (by simp) (fun h1 e1=>?_);have p1:gX true base h1 pb { s with e:=[] }:=hp.JA (lv':=true) g hle (fun _=>⟨cX.nil,by decide⟩) g e1;clear qe;cbv;refine(yl (9*s.ws.length+9)).1 base h1 pb _ _ p1 (by show 9*s.ws.length+8<=_;omega) (fun h2 a s2 e2 p2 l2=>?_);have l2:s2.ws.length<=s.ws.length:=l2;refine p2.elim (fun wb2 wn2 wc2 Ep en2 ec2 at2 i2 all2 w2 r2 g2 qw2 fN pN hws2 Q8 hi2 hwn2 qe2=>?_);obtain⟨qb,DP⟩:=qe2 rfl;have hex:s.expr ao=(s2.e,s2):=by unfold PS.expr;simp only[e2]
 have p3:=p2.freeze;have xh:Le base (Sx.de h2 pb):=fun b o hb=>by
  have bW:b≠pb:=fun e=>by
   obtain⟨_,_,_,_,_,_,_,_,_,_,_,_,_,_,_,_,_,wo⟩:=hp.out;rw[e,wo]at hb;cases hb
  rw[Sx.eQ bW];exact p2.le b o hb
 have qs:Sl 325 dh (Sx.de h2 pb) (.slice Ep en2 ec2) s2.e:=qb.sl.mono (fun b c e fr hm hb=>by
  have bW:b≠pb:=fun e'=>by
   rw[e',g2]at hb;cases hb;simp[dh]at hm
  rw[Sx.eQ bW];exact hb)
 have ae:=hk _ h2 Ep en2 ec2 s2.e s2 hex DP xh p3 qs l2;cbv;rw[ai A];refine av g2 rfl rfl ?_;cbv;exact ae
end Go.S
