import Derived.Test.YtekoaiendgjkdaaGreatUA
import Derived.Test.YtekoaiendgjkdaaGreatRd
import Derived.Test.YtekoaiendgjkdaaGreatEA
import Derived.Test.YtekoaiendgjkdaaGreatEC
set_option linter.unusedVariables false
set_option linter.unusedSimpArgs false
set_option linter.unusedSectionVars false
set_option maxRecDepth 100000
set_option maxHeartbeats 8000000
namespace Go.S
open Go.Sx Go.Proofs
def qN:Sh Wd where
 n:=3
 R _ cs v:=cs=[.int .i64 v.k,.int .i64 v.n,.string v.s]
 len:=by rintro h cs x rfl;rfl
 one:=by rintro h cs x rfl;rfl
 tys:=[]
 mono:=fun _ q=>q
def cP:Sh Nd where
 n:=7
 R _ cs v:=cs=[.int .i64 v.op,.int .i64 v.a,.int .i64 v.b,.int .i64 v.v.k,.int .i64 v.v.n,.string v.v.s,.string v.name]
 len:=by rintro h cs x rfl;rfl
 one:=by rintro h cs x rfl;rfl
 tys:=[]
 mono:=fun _ q=>q
abbrev N3:Wd:=⟨0,0,b0⟩
def yf(ws:List Wd):Prop:=∃l,ws=l++[N3]
theorem yf.ne{ws:List Wd}(h:yf ws):∃w r,ws=w::r:=by
 obtain⟨l,rfl⟩:=h;cases l with
 |nil=>exact⟨_,_,rfl⟩
 |cons a l=>exact⟨_,_,rfl⟩
theorem yf.tail{w:Wd}{r:List Wd}(h:yf (w::r))(hk:w.k≠0):yf r:=by
 obtain⟨l,h⟩:=h;cases l with
 |nil=>cases h;exact absurd rfl hk
 |cons a l=>cases h;exact⟨l,rfl⟩
structure fV(lv:Bool)(base h:ad)(pb:Nat)(s:PS):Prop where
 out:∃wb wn wc eb en ec at_ i all,h pb=some (.cells #[.slice wb wn wc,.int .i64 at_,.int .i64 s.err,.slice eb en ec] 136 (0,0))/\Sl 139 qN base (.slice wb wn wc) all/\aO at_ i/\all.drop i=s.ws/\yf s.ws/\all.length<=700/\(lv=true->cS 325 cP base h (.slice eb en ec) s.e/\s.e.length<=60)/\Le base h/\base pb=none
theorem fV.le{base h:ad}{pb:Nat}{lv:Bool}{s:PS}(q:fV lv base h pb s):Le base h:=by obtain⟨_,_,_,_,_,_,_,_,_,_,_,_,_,_,_,_,q,_⟩:=q.out;exact q
theorem fV.Si{base h:ad}{pb:Nat}{lv:Bool}{s:PS}(q:fV lv base h pb s):yf s.ws:=by obtain⟨_,_,_,_,_,_,_,_,_,_,_,_,_,q,_⟩:=q.out;exact q
theorem fV.mono{base h h':ad}{pb:Nat}{lv:Bool}{s:PS}(q:fV lv base h pb s)(hl:Le h h'):fV lv base h' pb s:=by obtain⟨wb,wn,wc,eb,en,ec,at_,i,all,g1,g2,g3,g4,g5,g6,g7,g9,uj⟩:=q.out;exact⟨wb,wn,wc,eb,en,ec,at_,i,all,hl _ _ g1,g2,g3,g4,g5,g6,fun e=>⟨(g7 e).1.mono (hl.t _),(g7 e).2⟩,g9.trans hl,uj⟩
theorem _root_.Go.Sx.cS.Ov{α:Type}{e:Nat}{s:Sh α}{h0 h1 h:ad}{v:Value}{xs:List α}(q:cS e s h0 h v xs)(hn:∀j c cap,v=.slice (some ⟨j,0,none⟩) c cap->h0 j=none->h j≠none->h1 j=none):cS e s h1 h v xs:=by
 rcases q.out with g| ⟨nb,cap,g1,g2,o⟩
 ·exact⟨.inl g⟩
 ·exact⟨.inr ⟨nb,cap,g1,hn nb _ _ g1 g2 o.has,o⟩⟩
theorem fV.add{base h:ad}{pb:Nat}{lv:Bool}{s:PS}(q:fV lv base h pb s){n:Nat}{o:Obj}(hn:h n=none):fV lv (aV base n o) (aV h n o) pb s:=by
 obtain⟨wb,wn,wc,eb,en,ec,at_,i,all,g1,g2,g3,g4,g5,g6,g7,g9,uj⟩:=q.out;have bU:pb≠n:=fun e=>by rw[e,hn]at g1;cases g1
 have lb:Le base (aV base n o):=Le.set (g9.none hn);have lh:Le h (aV h n o):=Le.set hn;refine⟨wb,wn,wc,eb,en,ec,at_,i,all,lh _ _ g1,g2.mono (lb.t _),g3,g4,g5,g6,fun e=>⟨((g7 e).1.Ov (fun j c cap _ h0 hj=>?_)).mono (lh.t _),(g7 e).2⟩,fun b x hb=>?_,?_⟩
 ·have:j≠n:=fun e=>hj (by rw[e];exact hn);rw[aU this];exact h0
 ·by_cases e:b=n
  ·rw[e,ah]at hb;rw[e,ah];exact hb
  ·rw[aU e]at hb |-;exact g9 b x hb
 ·rw[aU bU];exact uj
theorem fV.drop{base h:ad}{pb:Nat}{lv:Bool}{s:PS}{n:Nat}{o:Obj}(q:fV lv (aV base n o) h pb s)(hn:base n=none)(hw:∀e c fr,o=.cells c e fr->e≠139):fV lv base h pb s:=by
 obtain⟨wb,wn,wc,eb,en,ec,at_,i,all,g1,g2,g3,g4,g5,g6,g7,g9,uj⟩:=q.out;have lb:Le base (aV base n o):=Le.set hn;have bU:pb≠n:=fun e=>by rw[e,ah]at uj;cases uj
 have ht:cG (139::qN.tys) (aV base n o) base:=fun b c e fr hm hb=>by
  by_cases e1:b=n
  ·rw[e1,ah]at hb;cases hb;exact absurd (by simpa[qN]using hm) (hw _ _ _ rfl)
  ·rw[aU e1]at hb;exact hb
 exact⟨wb,wn,wc,eb,en,ec,at_,i,all,g1,g2.mono ht,g3,g4,g5,g6,fun e=>⟨(g7 e).1.base lb,(g7 e).2⟩,lb.trans g9,by rw[aU bU]at uj;exact uj⟩
theorem fV.put{base h h':ad}{pb:Nat}{lv:Bool}{s s':PS}(q:fV lv base h pb s){o:Obj}(e:h'=aV h pb o)
 (hs:∀wb wn wc eb en ec at_ i (all:List Wd),h pb=some (.cells #[.slice wb wn wc,.int .i64 at_,.int .i64 s.err,.slice eb en ec] 136 (0,0))->aO at_ i->all.drop i=s.ws->all.length<=700->∃Mn i',o=.cells #[.slice wb wn wc,.int .i64 Mn,.int .i64 s'.err,.slice eb en ec] 136 (0,0)/\aO Mn i'/\all.drop i'=s'.ws)
 (hw:yf s'.ws) (he:lv=true->s'.e=s.e):fV lv base h' pb s':=by
 obtain⟨wb,wn,wc,eb,en,ec,at_,i,all,g1,g2,g3,g4,g5,g6,g7,g9,uj⟩:=q.out;obtain⟨Mn,i',rfl,h1,h2⟩:=hs wb wn wc eb en ec at_ i all g1 g3 g4 g6;subst e;refine⟨wb,wn,wc,eb,en,ec,Mn,i',all,ah,g2,h1,h2,hw,g6,fun hl=>?_,fun b x hb=>?_,uj⟩
 ·rw[he hl];exact⟨(g7 hl).1.mono (cG.set g1 (by decide)),(g7 hl).2⟩
 ·have bU:b≠pb:=fun e=>by rw[e,uj]at hb;cases hb
  rw[aU bU];exact g9 b x hb
theorem xi(A:Ar)[hA:aP A](a b:ByteArray):A .jm .neq a b=decide (a≠b):=by have h:=bL A a b;rw[hA.jm]at h |-;show(!(a.toList==b.toList))=_;have h:(a.toList==b.toList)=decide (a=b):=h;rw[h];by_cases e:a=b<;>simp[e]
theorem wA{base h:ad}{pb:Nat}{lv:Bool}{s:PS}(hp:fV lv base h pb s)(e:Int){k:Value->ad->Prop}(hk:∀h',fV lv base h' pb (s.fail e)->k (.tuple #[]) h'):
 Ct 56 [.pointer (some ⟨pb,0,none⟩),.int .i64 e] h k:=by
 obtain⟨A,hA⟩:=Ar.ex;obtain⟨ws,err,ex⟩:=s;obtain⟨wb,wn,wc,eb,en,ec,at_,i,all,g,-⟩:=hp.out;have g:h pb=some (.cells #[.slice wb wn wc,.int .i64 at_,.int .i64 err,.slice eb en ec] 136 (0,0)):=g;have f1:A .aD .eql err 0=decide (err=0):=av A ..;refine af A (ar T56.aw T56.aZ) Tryz.func56 rfl (by kernel_rfl) ?_;cbv;rw[aj A];refine ay g rfl rfl ?_;cbv;rw[f1];by_cases he:err=0
 ·have ae:=fun h' (e1:h'=aV h pb (.cells #[.slice wb wn wc,.int .i64 at_,.int .i64 e,.slice eb en ec] 136 (0,0)))=>hk h' (by
   refine hp.put e1 (fun wb' wn' wc' eb' en' ec' Mn i' all' g' q1 q2 q3=>?_) ?_ ?_
   ·rw[g]at g';cases g';refine⟨at_,i',?_,q1,?_⟩
    ·simp[PS.fail,he]
    ·simp only[PS.fail];rw[if_pos he];exact q2
   ·simp only[PS.fail];rw[if_pos he];exact hp.Si
   ·intro _;simp only[PS.fail];rw[if_pos he])
  rw[decide_eq_true he];cbv;rw[aj A];refine kP g (by simp) (fun h' e1=>?_);cbv;exact ae h' e1
 ·have ae:=hk h (by simp only[PS.fail];rw[if_neg he];exact hp);rw[decide_eq_false he];cbv;exact ae
structure oD(s:ByteArray)(i:Nat)(t:By):Prop where
 le:i<=s.size
 eq:s.data.toList.drop i=t
theorem oD.len{s:ByteArray}{i:Nat}{t:By}(q:oD s i t):i+t.length=s.size:=by
 have h:s.size=s.data.toList.length:=by rw[Array.length_toList];rfl
 have:=q.le;rw[<-q.eq,List.length_drop];omega
theorem oD.start(s:ByteArray):oD s 0 s.data.toList:=⟨Nat.zero_le _,rfl⟩
theorem oD.next{s:ByteArray}{i:Nat}{c:UInt8}{r:By}(q:oD s i (c::r)):oD s (i+1) r:=by have h1:=q.len;rw[List.length_cons]at h1;exact⟨by omega,by rw[<-List.drop_drop,q.eq];rfl⟩
theorem oD.NR{s:ByteArray}{i:Nat}{t:By}(q:oD s i t){n:Nat}(hn:n<=t.length):oD s (i+n) (t.drop n):=by have h1:=q.len;exact⟨by omega,by rw[<-List.drop_drop,q.eq]⟩
theorem oD.byte{A:Ar}[hA:aP A]{s:ByteArray}{i:Nat}{c:UInt8}{r:By}(q:oD s i (c::r)){z:Int}(hz:aO z i):A .byte s z=(c.toNat:Int):=by
 rw[hA.byte];have e1:z.toNat=i:=by have:=hz.eq;omega
 have h2:s.data.toList[i]? =some c:=by have:=congrArg (fun l=>l[0]?) q.eq;simpa using this
 have h3:s.data[i]? =some c:=by rw[<-h2];exact(Array.getElem?_toList ..).symm
 simp only[e1,Array.getD_eq_getD_getElem?,h3,Option.getD_some]
theorem oD.sub{A:Ar}[hA:aP A]{s:ByteArray}{i:Nat}{t:By}(q:oD s i t){z w:Int}(hz:aO z i){n:Nat}(hw:aO w (i+n)):A .sub s z w=au (t.take n):=by
 rw[hA.sub];have e1:z.toNat=i:=by have:=hz.eq;omega
 have e2:w.toNat=i+n:=by have:=hw.eq;omega
 simp only[e1,e2];show s.extract i (i+n)=ByteArray.mk (t.take n).toArray;have h:(s.extract i (i+n)).data=(t.take n).toArray:=by rw[ByteArray.data_extract];apply Array.ext';rw[Array.toList_extract,<-q.eq];simp[List.extract]
 exact ByteArray.ext h
theorem Ce{b:Int}{c:UInt8}(hb:b=(c.toNat:Int)){h:ad}{k:Value->ad->Prop}(hk:k (.bool (isLet c)) h):Ct 210 [.int .u8 b] h k:=by
 obtain⟨A,hA⟩:=Ar.ex;have f1:A .aD .geq b 97=decide (97<=c.toNat):=by rw[bQ A,decide_eq_decide,hb];omega
 have f2:A .aD .leq b 122=decide (c.toNat<=122):=by rw[sF A,decide_eq_decide,hb];omega
 unfold isLet at hk;clear hb;generalize decide (97<=c.toNat)=u1 at *;generalize decide (c.toNat<=122)=u2 at *;refine af A (ar WS.aw WS.aZ) Tryz.func210 rfl (by kernel_rfl) ?_;cbv;rw[f1];cases u1 with
 |false=>cbv;exact hk
 |true=>cbv;rw[f2];exact hk
theorem BI{b:Int}{c:UInt8}(hb:b=(c.toNat:Int)){h:ad}{k:Value->ad->Prop}(hk:k (.bool (cH c)) h):Ct 212 [.int .u8 b] h k:=by
 obtain⟨A,hA⟩:=Ar.ex;have f1:A .aD .geq b 48=decide (48<=c.toNat):=by rw[bQ A,decide_eq_decide,hb];omega
 have f2:A .aD .leq b 57=decide (c.toNat<=57):=by rw[sF A,decide_eq_decide,hb];omega
 unfold cH at hk;clear hb;generalize decide (48<=c.toNat)=u1 at *;generalize decide (c.toNat<=57)=u2 at *;refine af A (ar WQ.aw WQ.aZ) Tryz.func212 rfl (by kernel_rfl) ?_;cbv;rw[f1];cases u1 with
 |false=>cbv;exact hk
 |true=>cbv;rw[f2];exact hk
theorem tK:∀t:By,cf t<=t.length
 | []=>Nat.le_refl _
 |c::r=>by
  unfold cf;have:=tK r;cases m0 c with
  |true=>simp only[List.length_cons];omega
  |false=>simp
theorem Kl{s:ByteArray}(hs:s.size<=600){i:Nat}{t:By}(q:oD s i t){z:Int}(hz:aO z i){h:ad}{k:Value->ad->Prop}(hk:∀z',aO z' (i+cf t)->k (.int .i64 z') h):
 Ct 211 [.string s,.int .i64 z] h k:=by
 obtain⟨A,hA⟩:=Ar.ex;have pN:aO (A .gD s) s.size:=⟨by rw[hA.gD]⟩;obtain⟨I,bm⟩:∃I:Nat->Int->ad->Prop,∀m g h',I m g h'=∃j t',aO g j/\oD s j t'/\m=t'.length/\j+cf t'=i+cf t/\h'=h:=⟨_,fun _ _ _=>rfl⟩;have hJ:I t.length z h:=by rw[bm];exact⟨i,t,hz,q,rfl,rfl,rfl⟩
 refine af A (ar WR.aw WR.aZ) Tryz.func211 rfl (by kernel_rfl) ?_;cbv;refine aX.go (G:=Int) (fun g=>[(1,.v (.int .i64 g))]) (fun _=>[]) (fun m g h'=>I m g h') t.length z ⟨?_,?_,?_⟩ hJ ?_
 ·cbv
 ·cbv
 ·cbv
 ·intro m g h' hI;rw[bm]at hI;cbv;obtain⟨j,t',hg,q',hm,he,rfl⟩:=hI;have hl:=q'.len;have f1:A .aD .lss g (A .gD s)=decide (j<s.size):=hg.gK pN;have stop:t'=[]\/(∃c r,t'=c::r/\m0 c=false)->cf t'=0:=by
   rintro(rfl| ⟨c,r,rfl,hc⟩)
   ·rfl
   ·unfold cf;rw[hc]
  have fin:cf t'=0->k (.int .i64 g) h':=fun e=>hk g (by rw[<-he,e];exact hg);rw[f1];cases t' with
  |nil=>
   have aG:¬j<s.size:=by have:([]:By).length=0:=rfl;omega
   have ae:=fin (stop (.inl rfl));rw[decide_eq_false aG];cbv;exact ae
  |cons c r=>
   have aG:j<s.size:=by have:(c::r).length=r.length+1:=rfl;omega
   have cT:0<=g/\g<(s.size:Int):=hg.ix aG;obtain⟨b,hb⟩:∃b,A .byte s g=b:=⟨_,rfl⟩;have nO:b=(c.toNat:Int):=by rw[<-hb];exact q'.byte hg
   have f2:A .aD .eql b 95=decide (c.toNat=95):=by rw[av A,decide_eq_decide,nO];omega
   have dS:=hg.succ (A:=A) (by omega);have tY:m0 c=true->I r.length (A .bu .add .i64 g 1) h':=fun e=>by
    rw[bm];refine⟨j+1,r,dS,q'.next,rfl,?_,rfl⟩;rw[<-he];have:cf (c::r)=cf r+1:=by show(match m0 c with|true=>cf r+1|false=>0)=_;rw[e]
    omega
   have fQ:m0 c=false->k (.int .i64 g) h':=fun e=>fin (stop (.inr ⟨c,r,rfl,e⟩));have gM:r.length<m:=by rw[hm];exact Nat.lt_succ_self _
   have Av:m0 c=(isLet c||cH c||decide (c.toNat=95)):=rfl;rw[decide_eq_true aG];clear stop fin he hm bm hJ hk;cbv;refine⟨cT,?_⟩;cbv;rw[hb];refine Ce nO ?_;generalize isLet c=u1 at *;cases u1 with
   |true=>
    have tY:=tY (by rw[Av];simp);cbv;refine⟨r.length,_,gM,⟨?_,?_,?_⟩,tY⟩
    ·cbv
    ·cbv
    ·cbv
   |false=>
    cbv;refine⟨cT,?_⟩;cbv;rw[hb];refine BI nO ?_;generalize cH c=u2 at *;cases u2 with
    |true=>
     have tY:=tY (by rw[Av];simp);cbv;refine⟨r.length,_,gM,⟨?_,?_,?_⟩,tY⟩
     ·cbv
     ·cbv
     ·cbv
    |false=>
     cbv;refine⟨cT,?_⟩;cbv;rw[hb,f2];generalize decide (c.toNat=95)=u3 at *;cases u3 with
     |true=>
      have tY:=tY (by rw[Av];simp);cbv;refine⟨r.length,_,gM,⟨?_,?_,?_⟩,tY⟩
      ·cbv
      ·cbv
      ·cbv
     |false=>have fQ:=fQ (by rw[Av];simp);cbv;exact fQ
theorem kG(A:Ar)[hA:aP A](a b:Int)(h:-9223372036854775808<=a+b/\a+b<=9223372036854775807):A .bu .add .i64 a b=a+b:=by rw[hA.bu];exact IntWalk.i64_in _ h
theorem nW(A:Ar)[hA:aP A](a b:Int)(h:-9223372036854775808<=a-b/\a-b<=9223372036854775807):A .bu .sub .i64 a b=a-b:=by rw[hA.bu];exact IntWalk.i64_in _ h
theorem Mt(A:Ar)[hA:aP A](a b:Int)(h:-9223372036854775808<=a*b/\a*b<=9223372036854775807):A .bu .mul .i64 a b=a*b:=by rw[hA.bu];exact IntWalk.i64_in _ h
theorem Ms(A:Ar)[hA:aP A](a b:Int)(h:-9223372036854775808<=a.tdiv b/\a.tdiv b<=9223372036854775807):A .bu .quo .i64 a b=a.tdiv b:=by rw[hA.bu];exact IntWalk.i64_in _ h
theorem OQ{s:ByteArray}(hs:s.size<=600){i:Nat}{t:By}(q:oD s i t){z:Int}(hz:aO z i){h:ad}{k:Value->ad->Prop}
 (hk:∀v z' e rest,jq t 0=((v,rest),e)->(e=0->∃j,aO z' j/\oD s j rest)->k (.tuple #[.int .i64 v,.int .i64 z',.int .i64 e]) h):
 Ct 213 [.string s,.int .i64 z] h k:=by
 obtain⟨A,hA⟩:=Ar.ex;have pN:aO (A .gD s) s.size:=⟨by rw[hA.gD]⟩;obtain⟨I,bm⟩:∃I:Nat->Int×Int->ad->Prop,∀m g h',I m g h'=∃j t',aO g.1 j/\oD s j t'/\m=t'.length/\jq t' g.2=jq t 0/\0<=g.2/\g.2<=9223372036854775807/\h'=h:=⟨_,fun _ _ _=>rfl⟩;have hJ:I t.length (z,0) h:=by rw[bm];exact⟨i,t,hz,q,rfl,rfl,Int.le_refl _,by show(0:Int)<=9223372036854775807;decide,rfl⟩
 refine af A (ar WO.aw WO.aZ) Tryz.func213 rfl (by kernel_rfl) ?_;cbv;refine aX.go (G:=Int×Int) (fun g=>[(1,.v (.int .i64 g.1)),(7,.v (.int .i64 g.2))]) (fun _=>[]) (fun m g h'=>I m g h') t.length (z,0) ⟨?_,?_,?_⟩ hJ ?_
 ·cbv
 ·cbv
 ·cbv
 ·intro m g h' hI;rw[bm]at hI;cbv;obtain⟨j,t',hg,q',hm,he,jz,nh,rfl⟩:=hI;obtain⟨z,n⟩:=g;have hg:aO z j:=hg;have he:jq t' n=jq t 0:=he;have jz:0<=n:=jz;have nh:n<=9223372036854775807:=nh;have hl:=q'.len;have f1:A .aD .lss z (A .gD s)=decide (j<s.size):=hg.gK pN;have stop:jq t' n=((n,t'),0)->k (.tuple #[.int .i64 n,.int .i64 z,.int .i64 0]) h':=fun e=>hk n z 0 t' (by rw[<-he,e]) (fun _=>⟨j,hg,q'⟩);rw[f1];cases t' with
  |nil=>
   have aG:¬j<s.size:=by have:([]:By).length=0:=rfl;omega
   have ae:=stop rfl;rw[decide_eq_false aG];cbv;exact ae
  |cons c r=>
   have aG:j<s.size:=by have:(c::r).length=r.length+1:=rfl;omega
   have cT:0<=z/\z<(s.size:Int):=hg.ix aG;obtain⟨b,hb⟩:∃b,A .byte s z=b:=⟨_,rfl⟩;have nO:b=(c.toNat:Int):=by rw[<-hb];exact q'.byte hg
   have dS:=hg.succ (A:=A) (by omega);have gM:r.length<m:=by rw[hm];exact Nat.lt_succ_self _
   have fQ:cH c=false->k (.tuple #[.int .i64 n,.int .i64 z,.int .i64 0]) h':=fun e=>stop (by show(match cH c with|true=>_|false=>_)=_;rw[e]);have hq:=q'.next;obtain⟨d,hd⟩:∃d:Int,d=(c.toNat:Int)-48:=⟨_,rfl⟩;have ey:cH c=true->0<=d/\d<=9/\jq (c::r) n=if n>(9223372036854775807-d) / 10 then((0,[]),11)else jq r (10*n+d):=fun e=>by
    have e2:=e;unfold cH at e2;simp only[Bool.and_eq_true,decide_eq_true_eq]at e2;refine⟨by omega,by omega,?_⟩;rw[hd];show(match cH c with|true=>_|false=>_)=_;rw[e]
   rw[decide_eq_true aG];clear stop hm hJ;cbv;refine⟨cT,?_⟩;cbv;rw[hb];refine BI nO ?_;generalize cH c=u1 at *;cases u1 with
   |false=>have fQ:=fQ rfl;cbv;exact fQ
   |true=>
    obtain⟨hd0,Qa,Lh⟩:=ey rfl;have f3:A .bu .sub .u8 b 48=d:=by rw[hA.bu,hd,nO];exact IntWalk.u8_in _ (by omega)
    have f4:A .conv .i64 d=d:=by rw[hA.conv];exact IntWalk.i64_in _ (by omega)
    obtain⟨w1,zp⟩:∃w:Int,9223372036854775807-d=w:=⟨_,rfl⟩;obtain⟨w2,tR⟩:∃w:Int,w1 / 10=w:=⟨_,rfl⟩;have f5:A .bu .sub .i64 9223372036854775807 d=w1:=by rw[<-zp];exact nW A _ _ (by omega)
    have RR:w1.tdiv 10=w2:=by rw[<-tR];exact Int.tdiv_eq_ediv_of_nonneg (by omega)
    have f6:A .bu .quo .i64 w1 10=w2:=by rw[Ms A _ _ (by rw[RR];omega),RR]
    have f7:A .aD .gtr n w2=decide (n>w2):=bB A ..;rw[zp,tR]at Lh;rw[Lh]at he;clear hd Lh ey fQ;have TA:(10:Int)≠0:=by decide
    by_cases Jf:n>w2
    ·rw[if_pos Jf]at he;have ae:=hk 0 0 11 [] he.symm (fun h=>absurd h (by decide));rw[decide_eq_true Jf]at f7;clear bm zp tR;cbv;refine⟨cT,?_⟩;cbv;rw[hb,f3,f4];cbv;rw[f5];refine⟨TA,?_⟩;cbv;rw[f6,f7];cbv;exact ae
    ·rw[if_neg Jf]at he;have f8:A .bu .mul .i64 10 n=10*n:=Mt A _ _ (by omega);have f9:A .bu .add .i64 (10*n) d=10*n+d:=kG A _ _ (by omega);have dc:I r.length (A .bu .add .i64 z 1,A .bu .add .i64 (A .bu .mul .i64 10 n) d) h':=by rw[bm,f8,f9];exact⟨j+1,r,dS,hq,rfl,he,by show 0<=10*n+d;omega,by show 10*n+d<=_;omega,rfl⟩
     rw[decide_eq_false Jf]at f7;clear bm zp tR;cbv;refine⟨cT,?_⟩;cbv;rw[hb,f3,f4];cbv;rw[f5];refine⟨TA,?_⟩;cbv;rw[f6,f7];cbv;refine⟨r.length,(_,_),gM,⟨?_,?_,?_⟩,dc⟩
     ·cbv
     ·cbv
     ·cbv
theorem fV.elim{base h:ad}{pb:Nat}{lv:Bool}{s:PS}(q:fV lv base h pb s){C:Prop}(f:∀wb wn wc eb en ec at_ i (all:List Wd) w r,h pb=some (.cells #[.slice wb wn wc,.int .i64 at_,.int .i64 s.err,.slice eb en ec] 136 (0,0))->Sl 139 qN h (.slice wb wn wc) all->aO at_ i->all[i]? =some w->s.ws=w::r->all.drop (i+1)=r->i<wn->wn<=700->(lv=true->cS 325 cP base h (.slice eb en ec) s.e/\s.e.length<=60)->C):C:=by
 obtain⟨wb,wn,wc,eb,en,ec,at_,i,all,g1,g2,g3,g4,g5,g6,g7,g9,uj⟩:=q.out;obtain⟨w,r,hw⟩:=g5.ne;have h1:all[i]? =some w:=by have:=congrArg (fun l=>l[0]?) g4;rw[hw]at this;simpa using this
 have h2:all.drop (i+1)=r:=by rw[<-List.drop_drop,g4,hw];rfl
 have hl:=g2.len;have hi:=(List.getElem?_eq_some_iff.1 h1).1;exact f wb wn wc eb en ec at_ i all w r g1 (g2.mono (g9.t _)) g3 h1 hw h2 (by omega) (by omega) g7
theorem fV.step{base h h':ad}{pb:Nat}{lv:Bool}{s:PS}(q:fV lv base h pb s){w:Wd}{r:List Wd}(hw:s.ws=w::r)(hk:w.k≠0){wb eb:Option Addr}{wn wc en ec:Nat}{at_ Mn err:Int}{i:Nat}(g:h pb=some (.cells #[.slice wb wn wc,.int .i64 at_,.int .i64 err,.slice eb en ec] 136 (0,0)))
 (hz:aO at_ i) (hz':aO Mn (i+1)) (e:h'=aV h pb (.cells #[.slice wb wn wc,.int .i64 Mn,.int .i64 err,.slice eb en ec] 136 (0,0))):fV lv base h' pb { s with ws:=r }:=by
 refine q.put e (fun wb' wn' wc' eb' en' ec' at2 i' all' g' q1 q2 q3=>?_) ?_ (fun _=>rfl)
 ·rw[g]at g';cases g';have hi:i'=i:=by have:=hz.eq;have:=q1.eq;omega
  subst hi;exact⟨Mn,i'+1,rfl,hz',by rw[<-List.drop_drop,q2,hw];rfl⟩
 ·have:=q.Si;rw[hw]at this;exact this.tail hk
theorem As{base h:ad}{pb:Nat}{lv:Bool}{s:PS}(hp:fV lv base h pb s)(str:ByteArray){k:Value->ad->Prop}
 (hk:∀h' t s',s.is str=(t,s')->fV lv base h' pb s'->(t=true->s'.ws.length<s.ws.length)->(t=false->s'=s/\h'=h)->k (.bool t) h'):
 Ct 120 [.pointer (some ⟨pb,0,none⟩),.string str] h k:=by
 obtain⟨A,hA⟩:=Ar.ex;obtain⟨ws,err,ex⟩:=s;refine hp.elim (fun wb wn wc eb en ec at_ i all w r g qw hz hw mw hr hi KU qe=>?_);have g:h pb=some (.cells #[.slice wb wn wc,.int .i64 at_,.int .i64 err,.slice eb en ec] 136 (0,0)):=g;have mw:ws=w::r:=mw;have cT:wb.isSome=true/\0<=at_/\at_<(wn:Int):=⟨qw.bF (by omega),hz.ix hi⟩;have ir:=hz.eq;have dS:=hz.succ (A:=A) (by omega);obtain⟨wk,wN,wS⟩:=w;have f1:A .aD .neq err 0=decide (err≠0):=aC A ..;have f2:A .aD .neq wk 1=decide (wk≠1):=aC A ..;have f3:A .aD .neq wk 4=decide (wk≠4):=aC A ..;have f4:A .jm .neq wS str=decide (wS≠str):=xi A ..;have fQ:(err≠0\/(wk≠1/\wk≠4)\/wS≠str)->k (.bool false) h:=fun hc=>by
  refine hk h false _ ?_ hp (fun e=>by cases e) (fun _=>⟨rfl,rfl⟩);subst mw;show(if err=0/\(wk=1\/wk=4)/\wS=str then _ else _)=_;rw[if_neg];rintro⟨h1,h2,h3⟩;rcases hc with h| ⟨h,h'⟩ |h
  ·exact h h1
  ·rcases h2 with h2|h2
   ·exact h h2
   ·exact h' h2
  ·exact h h3
 have ey:err=0->(wk=1\/wk=4)->wS=str->∀h',h'=aV h pb (.cells #[.slice wb wn wc,.int .i64 (A .bu .add .i64 at_ 1),.int .i64 err,.slice eb en ec] 136 (0,0))->k (.bool true) h':=fun h1 h2 h3 h' e=>by
  refine hk h' true ⟨r,err,ex⟩ ?_ (hp.step mw (by show wk≠0;omega) g hz dS e) (fun _=>?_) (fun e=>by cases e)
  ·subst mw;show(if err=0/\(wk=1\/wk=4)/\wS=str then _ else _)=_;rw[if_pos ⟨h1,h2,h3⟩]
  ·show r.length<ws.length;rw[mw];exact Nat.lt_succ_self _
 clear hk;refine af A (ar XH.aw XH.aZ) Tryz.func120 rfl (by kernel_rfl) ?_;cbv;rw[aj A];refine ay g rfl rfl ?_;cbv;rw[aj A];refine ay g rfl rfl ?_;cbv;refine⟨cT,?_⟩;cbv;refine qw.load hw ir (fun cs aF=>?_);have aF:cs=[.int .i64 wk,.int .i64 wN,.string wS]:=aF;subst aF;cbv;rw[aj A];refine ay g rfl rfl ?_;cbv;rw[f1];by_cases he:err=0
 ·rw[decide_eq_false (by simpa using he)];cbv;rw[f2];by_cases mD:wk=1
  ·have ey:=ey he (.inl mD);rw[decide_eq_false (by simpa using mD)];cbv;rw[f4];by_cases h3:wS=str
   ·have ey:=ey h3;rw[decide_eq_false (by simpa using h3)];cbv;rw[aj A];refine ay g rfl rfl ?_;cbv;rw[aj A];refine kP g (by simp) (fun h' e1=>?_);cbv;exact ey h' e1
   ·have fQ:=fQ (.inr (.inr h3));rw[decide_eq_true h3];cbv;exact fQ
  ·rw[decide_eq_true mD];cbv;rw[f3];by_cases Nr:wk=4
   ·have ey:=ey he (.inr Nr);rw[decide_eq_false (by simpa using Nr)];cbv;rw[f4];by_cases h3:wS=str
    ·have ey:=ey h3;rw[decide_eq_false (by simpa using h3)];cbv;rw[aj A];refine ay g rfl rfl ?_;cbv;rw[aj A];refine kP g (by simp) (fun h' e1=>?_);cbv;exact ey h' e1
    ·have fQ:=fQ (.inr (.inr h3));rw[decide_eq_true h3];cbv;exact fQ
   ·have fQ:=fQ (.inr (.inl ⟨mD,Nr⟩));rw[decide_eq_true Nr];cbv;exact fQ
 ·have fQ:=fQ (.inl he);rw[decide_eq_true he];cbv;exact fQ
theorem S0{base h:ad}{pb:Nat}{lv:Bool}{s:PS}(hp:fV lv base h pb s){l:List ByteArray}{b:Option Addr}{n c:Nat}(ql:Sl 9 cK base (.slice b n c) l){k:Value->ad->Prop}
 (hk:∀h' s',s.bP l=s'->fV lv base h' pb s'->s'.ws.length<=s.ws.length->k (.tuple #[]) h'):
 Ct 122 [.pointer (some ⟨pb,0,none⟩),.slice b n c] h k:=by
 obtain⟨A,hA⟩:=Ar.ex;have hlen:=ql.len;have vp:=ql.bound;obtain⟨I,bm⟩:∃I:Nat->Int->ad->Prop,∀m g h',I m g h'=∃i s1,aO g i/\i<=n/\m=n-i/\fV lv base h' pb s1/\s1.bP (l.drop i)=s.bP l/\s1.ws.length<=s.ws.length:=⟨_,fun _ _ _=>rfl⟩;have hJ:I n 0 h:=by rw[bm];exact⟨0,s,⟨rfl⟩,Nat.zero_le _,rfl,hp,rfl,Nat.le_refl _⟩
 refine af A (ar XG.aw XG.aZ) Tryz.func122 rfl (by kernel_rfl) ?_;cbv;refine aX.go (G:=Int) (fun g=>[(4,.v (.int .i64 g))]) (fun _=>[]) (fun m g h'=>I m g h') n 0 ⟨?_,?_,?_⟩ hJ ?_
 ·cbv
 ·cbv
 ·cbv
 ·intro m g h' hI;rw[bm]at hI;cbv;obtain⟨i,s1,hg,hi,hm,q1,he,mw⟩:=hI;have f1:A .aD .lss g (A .nat n)=decide (i<n):=hg.gK (aO.nat n);rw[f1];by_cases aG:i<n
  ·obtain⟨w,hw⟩:=aE (xs:=l) (i:=i) (by omega);have cT:b.isSome=true/\0<=g/\g<(n:Int):=⟨ql.bF (by omega),hg.ix aG⟩;have iu:=hg.eq;have dS:=hg.succ (A:=A) (by omega);have hd:l.drop i=w::l.drop (i+1):=by obtain⟨h1,h2⟩:=List.getElem?_eq_some_iff.1 hw;rw[List.drop_eq_getElem_cons h1,h2]
   rw[hd]at he;have qh:=ql.mono (q1.le.t _);have dc:∀h2 s2,fV lv base h2 pb s2->s2.bP (l.drop (i+1))=s.bP l->s2.ws.length<=s1.ws.length->I (n-(i+1)) (A .bu .add .i64 g 1) h2:=fun h2 s2 p e le=>by
    rw[bm];exact⟨i+1,s2,dS,aG,rfl,p,e,by omega⟩
   have kC:n-(i+1)<m:=by omega
   clear bm hk hJ;rw[decide_eq_true aG];cbv;refine⟨cT,?_⟩;cbv;refine qh.load hw iu (fun cs aF=>?_);have aF:cs=[.string w]:=aF;subst aF;cbv;refine As q1 w (fun h2 t s2 e2 p2 gK ML=>?_);have uV:A .not t= !t:=by rw[hA.not]
   cases t with
   |true=>
    have hI:=dc h2 s2 p2 (by rw[<-he];show _=(match s1.is w with| (true,p)=>p.bP _| (false,p)=>_);rw[e2]) (Nat.le_of_lt (gK rfl));clear dc;cbv;rw[uV];cbv;refine⟨n-(i+1),_,kC,⟨?_,?_,?_⟩,hI⟩
    ·cbv
    ·cbv
    ·cbv
   |false=>
    obtain⟨rfl,rfl⟩:=ML rfl;have dc:=fun h3 p3=>dc h3 (s2.fail 6) p3 (by rw[<-he];show _=(match s2.is w with| (true,p)=>p.bP _| (false,p)=>(p.fail 6).bP _);rw[e2]) (by unfold PS.fail;split<;>exact Nat.le_refl _);cbv;rw[uV];cbv;refine wA p2 6 (fun h3 p3=>?_);have hI:=dc h3 p3;clear dc;cbv;refine⟨n-(i+1),_,kC,⟨?_,?_,?_⟩,hI⟩
    ·cbv
    ·cbv
    ·cbv
  ·have fR:i=n:=by omega
   have ae:=hk h' s1 (by rw[<-he,List.drop_eq_nil_of_le (by omega)];rfl) q1 mw;rw[decide_eq_false aG];cbv;exact ae
theorem yU{s:ByteArray}(h:ai s=true):s.size<=12:=by unfold ai rv at h;simp only[Bool.and_eq_true,Bool.not_eq_eq_eq_not,Bool.not_true,Bool.or_eq_false_iff,decide_eq_false_iff_not]at h;omega
theorem PS.pV(s:PS)(e:Int):(s.fail e).ws=s.ws:=by unfold PS.fail;split<;>rfl
theorem Gw{base h:ad}{pb:Nat}{lv:Bool}{s:PS}(hp:fV lv base h pb s){k:Value->ad->Prop}
 (hk:∀h' v s',s.name ai=(v,s')->fV lv base h' pb s'->s'.ws.length<=s.ws.length->v.size<=12->k (.string v) h'):
 Ct 123 [.pointer (some ⟨pb,0,none⟩)] h k:=by
 obtain⟨A,hA⟩:=Ar.ex;obtain⟨ws,err,ex⟩:=s;refine hp.elim (fun wb wn wc eb en ec at_ i all w r g qw hz hw mw hr hi KU qe=>?_);have g:h pb=some (.cells #[.slice wb wn wc,.int .i64 at_,.int .i64 err,.slice eb en ec] 136 (0,0)):=g;have mw:ws=w::r:=mw;have cT:wb.isSome=true/\0<=at_/\at_<(wn:Int):=⟨qw.bF (by omega),hz.ix hi⟩;have ir:=hz.eq;have dS:=hz.succ (A:=A) (by omega);obtain⟨wk,wN,wS⟩:=w;have f1:A .aD .neq err 0=decide (err≠0):=aC A ..;have f2:A .aD .neq wk 1=decide (wk≠1):=aC A ..;have fQ:(err≠0\/wk≠1\/ai wS=false)->∀h1,fV lv base h1 pb (PS.fail ⟨ws,err,ex⟩ 6)->k (.string b0) h1:=fun hc h1 PH=>by
  refine hk h1 b0 _ ?_ PH (by rw[PS.pV];exact Nat.le_refl _) (Nat.zero_le _);subst mw;show(if err=0/\wk=1/\ai wS=true then _ else _)=_;rw[if_neg];rintro⟨h1,h2,h3⟩;rcases hc with h|h|h
  ·exact h h1
  ·exact h h2
  ·rw[h]at h3;cases h3
 have ey:err=0->wk=1->ai wS=true->∀h1 h',Le h h1->h'=aV h1 pb (.cells #[.slice wb wn wc,.int .i64 (A .bu .add .i64 at_ 1),.int .i64 err,.slice eb en ec] 136 (0,0))->k (.string wS) h':=fun h1 h2 h3 h1' h' l1 e=>by
  refine hk h' wS ⟨r,err,ex⟩ ?_ ((hp.mono l1).step mw (by show wk≠0;omega) (l1 _ _ g) hz dS e) ?_ (yU h3)
  ·subst mw;show(if err=0/\wk=1/\ai wS=true then _ else _)=_;rw[if_pos ⟨h1,h2,h3⟩]
  ·show r.length<=ws.length;rw[mw];exact Nat.le_succ _
 clear hk;refine af A (ar XF.aw XF.aZ) Tryz.func123 rfl (by kernel_rfl) ?_;cbv;rw[aj A];refine ay g rfl rfl ?_;cbv;rw[aj A];refine ay g rfl rfl ?_;cbv;refine⟨cT,?_⟩;cbv;refine qw.load hw ir (fun cs aF=>?_);have aF:cs=[.int .i64 wk,.int .i64 wN,.string wS]:=aF;subst aF;cbv;rw[aj A];refine ay g rfl rfl ?_;cbv;rw[f1];by_cases he:err=0
 ·rw[decide_eq_false (by simpa using he)];cbv;rw[f2];by_cases mD:wk=1
  ·have ey:=ey he mD;rw[decide_eq_false (by simpa using mD)];cbv;refine xz.mono (fun v h1 hR=>?_);obtain⟨l1,t,rfl,ht⟩:=hR;have uV:A .not t= !t:=by rw[hA.not]
   cases t with
   |true=>have ey:=ey ht.symm h1;have g1:=l1 _ _ g;cbv;rw[uV];cbv;rw[aj A];refine ay g1 rfl rfl ?_;cbv;rw[aj A];refine kP g1 (by simp) (fun h' e1=>?_);cbv;exact ey h' l1 e1
   |false=>have fQ:=fQ (.inr (.inr ht.symm));cbv;rw[uV];cbv;refine wA (hp.mono l1) 6 (fun h2 p2=>?_);have fQ:=fQ h2 p2;cbv;exact fQ
  ·have fQ:=fQ (.inr (.inl mD));rw[decide_eq_true mD];cbv;refine wA hp 6 (fun h2 p2=>?_);have fQ:=fQ h2 p2;cbv;exact fQ
 ·have fQ:=fQ (.inl he);rw[decide_eq_true he];cbv;refine wA hp 6 (fun h2 p2=>?_);have fQ:=fQ h2 p2;cbv;exact fQ
theorem ta(a b:ByteArray):(a++b).size=a.size+b.size:=ByteArray.size_append
theorem qu{base h:ad}{pb:Nat}{lv:Bool}{s:PS}(hp:fV lv base h pb s){k:Value->ad->Prop}
 (hk:∀h' v s',s.column ai=(v,s')->fV lv base h' pb s'->s'.ws.length<=s.ws.length->v.size<=25->k (.string v) h'):
 Ct 220 [.pointer (some ⟨pb,0,none⟩)] h k:=by
 obtain⟨A,hA⟩:=Ar.ex;refine af A (ar WI.aw WI.aZ) Tryz.func220 rfl (by kernel_rfl) ?_;cbv;refine Gw hp (fun h1 v1 s1 e1 p1 l1 z1=>?_);cbv;refine As p1 (au [46]) (fun h2 t s2 e2 p2 l2 ML=>?_);have HI:s.column ai=match s1.is (au [46])with
  | (true,q)=>let t:=q.name ai;(v1++(au [46])++t.1,t.2)
  | (false,q)=>(v1,q):=by unfold PS.column;simp only[e1];rfl
 rw[e2]at HI;cases t with
 |false=>have ae:=hk h2 v1 s2 HI p2 (by rw[(ML rfl).1];exact l1) (by omega);cbv;exact ae
 |true=>
  have HI:s.column ai=let t:=s2.name ai;(v1++(au [46])++t.1,t.2):=HI;have l2:=l2 rfl;obtain⟨u,hu⟩:∃u,A .cat v1 (au [46])=u:=⟨_,rfl⟩;have KW:u=v1++au [46]:=by rw[<-hu,hA.cat]
  have hus:u.size<=13:=by rw[KW,ta];have:(au [46]).size=1:=rfl;omega
  have hc1:((v1.size+(au [46]).size:Nat):Int)<=2^62:=by have:(au [46]).size=1:=rfl;omega
  cbv;refine⟨hc1,?_⟩;have hu:A .cat v1 ⟨#[46]⟩=u:=hu;cbv;rw[hu];refine Gw p2 (fun h3 v3 s3 e3 p3 l3 z3=>?_);have iC:((u.size+v3.size:Nat):Int)<=2^62:=by omega
  have ae:=hk h3 (A .cat u v3) s3 (by rw[HI];simp only[e3];rw[hA.cat,KW]) p3 (by omega) (by rw[hA.cat];show(u++v3).size<=25;rw[ta];omega);cbv;refine⟨iC,?_⟩;cbv;exact ae
theorem fV.Ga{base h h1 h2:ad}{pb:Nat}{lv:Bool}{s:PS}(q:fV lv base h pb s){wb eb b':Option Addr}{wn wc en ec m c':Nat}{at_ err:Int}{e':List Nd}{lv':Bool}
 (g:h pb=some (.cells #[.slice wb wn wc,.int .i64 at_,.int .i64 err,.slice eb en ec] 136 (0,0)))
 (hle:Le base h1) (qb:lv'=true->cS 325 cP base h1 (.slice b' m c') e'/\e'.length<=60) (g1:h1 pb=some (.cells #[.slice wb wn wc,.int .i64 at_,.int .i64 err,.slice eb en ec] 136 (0,0)))
 (e:h2=aV h1 pb (.cells #[.slice wb wn wc,.int .i64 at_,.int .i64 err,.slice b' m c'] 136 (0,0))):fV lv' base h2 pb { s with e:=e' }:=by
 obtain⟨wb',wn',wc',eb',en',ec',at2,i,all,g0,g2,g3,g4,g5,g6,g7,g9,uj⟩:=q.out;rw[g]at g0;cases g0;subst e;refine⟨wb,wn,wc,b',m,c',at_,i,all,ah,g2,g3,g4,g5,g6,fun hl=>⟨(qb hl).1.mono (cG.set g1 (by decide)),(qb hl).2⟩,fun b x hb=>?_,uj⟩;have bU:b≠pb:=fun e=>by rw[e,uj]at hb;cases hb
 rw[aU bU];exact hle b x hb
abbrev ndV(n:Nd):Value:=.agg #[.int .i64 n.op,.int .i64 n.a,.int .i64 n.b,.int .i64 n.v.k,.int .i64 n.v.n,.string n.v.s,.string n.name]
theorem iB{base h:ad}{pb:Nat}{s:PS}(hp:fV true base h pb s)(op a b vk vn:Int)(vs nm:ByteArray){k:Value->ad->Prop}
 (hk:∀h' v s',s.node ⟨op,a,b,⟨vk,vn,vs⟩,nm⟩=(v,s')->fV true base h' pb s'->s'.ws=s.ws->k (.int .i64 v) h'):
 Ct 264 [.pointer (some ⟨pb,0,none⟩),.agg #[.int .i64 op,.int .i64 a,.int .i64 b,.int .i64 vk,.int .i64 vn,.string vs,.string nm]] h k:=by
 obtain⟨A,hA⟩:=Ar.ex;obtain⟨ws,err,ex⟩:=s;refine hp.elim (fun wb wn wc eb en ec at_ i all w r g qw hz hw mw hr hi KU qe=>?_);obtain⟨qb,Bc⟩:=qe rfl;have qb:cS 325 cP base h (.slice eb en ec) ex:=qb;have Bc:ex.length<=60:=Bc;have P8:=qb.sl.len;have g:h pb=some (.cells #[.slice wb wn wc,.int .i64 at_,.int .i64 err,.slice eb en ec] 136 (0,0)):=g;have f1:A .aD .neq err 0=decide (err≠0):=aC A ..;have f2:A .aD .geq (A .nat en) 60=decide (en>=60):=by rw[bQ A,hA.nat,decide_eq_decide];simp only[Int.ofNat_eq_natCast];omega
 obtain⟨nd,K3⟩:∃nd:Nd,nd=⟨op,a,b,⟨vk,vn,vs⟩,nm⟩:=⟨_,rfl⟩;have rE:PS.node ⟨ws,err,ex⟩ nd=if err≠0 then(0,⟨ws,err,ex⟩)else if ex.length>=60 then(0,PS.fail ⟨ws,err,ex⟩ 4)else((ex.length:Int),⟨ws,err,ex++[nd]⟩):=rfl
 rw[<-K3]at hk;obtain⟨xl,Tp⟩:∃xl:Int,(ex.length:Int)=xl:=⟨_,rfl⟩;rw[Tp]at rE;have gL:∀m2,m2=en+1->A .bu .sub .i64 (A .nat m2) 1=xl:=fun m2 e=>by
  rw[nW A _ _ (by rw[hA.nat];simp only[Int.ofNat_eq_natCast];omega),hA.nat];simp only[Int.ofNat_eq_natCast];omega
 clear Tp;refine af A (ar Wn.aw Wn.aZ) Tryz.func264 rfl (by kernel_rfl) ?_;cbv;rw[aj A];refine ay g rfl rfl ?_;cbv;rw[f1];by_cases he:err=0
 ·rw[if_neg (by simpa using he)]at rE;rw[decide_eq_false (by simpa using he)];cbv;rw[aj A];refine ay g rfl rfl ?_;cbv;rw[f2];by_cases oW:en>=60
  ·rw[if_pos (by omega)]at rE;have ae:=fun h2 p2=>hk h2 0 _ rE p2 (PS.pV _ _);rw[decide_eq_true oW];cbv;refine wA hp 4 (fun h2 p2=>?_);have ae:=ae h2 p2;cbv;exact ae
  ·rw[if_neg (by omega)]at rE;rw[decide_eq_false oW];cbv;rw[aj A];refine ay g rfl rfl ?_;cbv;intro n1 h1 g1 e1;have l1:Le h h1:=by rw[e1];exact Le.set g1
   have f3:=(congrFun e1 n1).trans ah;have qv:Sl 325 cP h1 (.slice (some ⟨n1,0,none⟩) 1 1) [nd]:=bX (s:=cP) f3 (by rw[K3];rfl);have gp1:=l1 _ _ g;cbv;refine ay gp1 rfl rfl ?_;cbv;refine⟨⟨_,rfl,rfl⟩,?_⟩;cbv;refine(qb.mono (l1.t _)).append qv (by decide) rfl (by decide) (by omega) (hp.le.trans l1) (fun m2 b2 c2 h2 em2 l2 t2 k2 jt=>?_);have gp2:=k2 _ _ gp1 (fun c fr e=>by cases e);cbv;rw[aj A];refine kP gp2 (by simp) (fun h3 e3=>?_);have p3:=hp.Ga (lv':=true) (e':=ex++[nd]) g l2 (fun _=>⟨jt,by rw[List.length_append,List.length_singleton];omega⟩) gp2 e3;have gp3:=(congrFun e3 pb).trans ah;have ae:=hk h3 _ _ rE p3 rfl;rw[<-gL m2 em2]at ae;cbv;rw[aj A];refine ay gp3 rfl rfl ?_;cbv;exact ae
 ·rw[if_pos he]at rE;have ae:=hk h 0 _ rE hp rfl;rw[decide_eq_true he];cbv;exact ae
abbrev rO(f:FuncId)(rank:Nat)(fn:Nat->PS->Int×PS)(n:Nat):Prop:=∀(base h:ad) (pb:Nat) (s:PS) (k:Value->ad->Prop),fV true base h pb s->9*s.ws.length+rank<=n->
 (∀h' a s',fn n s=(a,s')->fV true base h' pb s'->s'.ws.length<=s.ws.length->k (.int .i64 a) h')->Ct f [.pointer (some ⟨pb,0,none⟩)] h k
theorem Gz{base h:ad}{pb:Nat}{lv:Bool}{s:PS}(hp:fV lv base h pb s){n:Nat}(hn:h n=none)(l:List ByteArray){m:Nat}{h1:ad}(e:h1=aV h n (.cells (List.toArray (l.map Value.string)) 9 (0,0)))(hm:m=l.length)(hl:l.length<=10){k:Value->ad->Prop}
 (hk:∀h' s',s.bP l=s'->fV lv base h' pb s'->s'.ws.length<=s.ws.length->k (.tuple #[]) h'):Ct 122 [.pointer (some ⟨pb,0,none⟩),.slice (some ⟨n,0,none⟩) m m] h1 k:=by
 subst hm e;have Bs:=hp.le.none hn;have ql:Sl 9 cK (aV base n (.cells (List.toArray (l.map Value.string)) 9 (0,0))) (.slice (some ⟨n,0,none⟩) l.length l.length) l:=by
  refine Sl.fresh (c:=l.map Value.string) ah ⟨?_,fun i x hx=>?_⟩ (by omega) (Nat.le_refl _)
  ·show 0+l.length*1<=_;rw[List.length_map];omega
  ·show List.take 1 (List.drop (0+i*1) _)=[Value.string x];obtain⟨h1,h2⟩:=List.getElem?_eq_some_iff.1 hx;rw[Nat.zero_add,Nat.mul_one,List.drop_eq_getElem_cons (by simpa using h1)];simp[h2]
 exact S0 (hp.add hn) ql (fun h' s' e p le=>hk h' s' e (p.drop Bs (fun _ _ _ q=>by cases q;decide)) le)
theorem dJ{s s':PS}{str:ByteArray}{op:Int}{r:List (ByteArray×Int)}(e:s.is str=(true,s')):s.cM ((str,op)::r)=(some op,s'):=by show(match s.is str with| (true,q)=>_| (false,q)=>_)=_;rw[e]
theorem aI{s s':PS}{str:ByteArray}{op:Int}{r:List (ByteArray×Int)}(e:s.is str=(false,s')):s.cM ((str,op)::r)=s'.cM r:=by show(match s.is str with| (true,q)=>_| (false,q)=>_)=_;rw[e]
theorem mX{sub:PS->Int×PS}{ops:List (ByteArray×Int)}{n:Nat}{a op:Int}{p q:PS}(e:p.cM ops=(some op,q)):dM sub ops (n+1) a p=dM sub ops n ((sub q).2.node (bin op a (sub q).1)).1 ((sub q).2.node (bin op a (sub q).1)).2:=by show(match p.cM ops with| (some op,p)=>_| (none,p)=>(a,p))=_;rw[e]
theorem nJ{sub:PS->Int×PS}{ops:List (ByteArray×Int)}{n:Nat}{a:Int}{p q:PS}(e:p.cM ops=(none,q))(hq:q=p):dM sub ops n a p=(a,p):=by
 subst hq;cases n with
 |zero=>rfl
 |succ n=>show(match q.cM ops with| (some op,p)=>_| (none,p)=>(a,p))=_;rw[e]
theorem Kf{n:Nat}(IH:rO 298 7 (ye ai) n):rO 263 8 (Gj ai) (n+1):=by
 intro base h pb s k hp hf hk;obtain⟨A,hA⟩:=Ar.ex;obtain⟨ops,nY⟩:∃ops:List (ByteArray×Int),ops=[((au [111,114]),6)]:=⟨_,rfl⟩;obtain⟨sub,cW⟩:∃sub,sub=ye ai n:=⟨_,rfl⟩;have aJ:Gj ai (n+1) s=dM sub ops (sub s).2.ws.length (sub s).1 (sub s).2:=by rw[nY,cW];simp only[Gj]
 refine af A (ar Wo.aw Wo.aZ) Tryz.func263 rfl (by kernel_rfl) ?_;cbv;refine IH base h pb s _ hp (by omega) (fun h1 a1 s1 e1 p1 l1=>?_);rw[<-cW]at e1;rw[e1]at aJ;obtain⟨R,hR⟩:∃R,dM sub ops s1.ws.length a1 s1=R:=⟨_,rfl⟩;have aJ:Gj ai (n+1) s=R:=aJ.trans hR;obtain⟨I,bm⟩:∃I:Nat->Int->ad->Prop,∀m g h',I m g h'=∃fu s2,fV true base h' pb s2/\s2.ws.length<=fu/\dM sub ops fu g s2=R/\s2.ws.length<=s.ws.length/\m=s2.ws.length:=⟨_,fun _ _ _=>rfl⟩;have hJ:I s1.ws.length a1 h1:=by rw[bm];exact⟨_,s1,p1,Nat.le_refl _,hR,l1,rfl⟩
 have iO:∀h' g s2,R=(g,s2)->fV true base h' pb s2->s2.ws.length<=s.ws.length->k (.int .i64 g) h':=fun h' g s2 e p l=>hk h' g s2 (aJ.trans e) p l;clear hk hR aJ e1;cbv;refine aX.go (G:=Int) (fun g=>[(3,.v (.int .i64 g))]) (fun _=>[]) (fun m g h'=>I m g h') s1.ws.length a1 ⟨?_,?_,?_⟩ hJ ?_
 ·cbv
 ·cbv
 ·cbv
 ·intro m g h' hI;rw[bm]at hI;cbv;obtain⟨fu,s2,p2,P7,he,tX,hm⟩:=hI;refine As p2 (au [111,114]) (fun h3 t s3 e3 p3 xB I8=>?_);cases t with
  |true=>
   have xB:=xB rfl;have eo:s2.cM ops=(some 6,s3):=by rw[nY];exact dJ e3
   cbv;have vl:9*s3.ws.length+7<=n:=by omega
   refine IH base h3 pb s3 _ p3 vl (fun h4 b s4 e4 p4 l4=>?_);rw[<-cW]at e4;obtain⟨fu,rfl⟩:∃zM,fu=zM+1:=⟨fu-1,by omega⟩;have he:=(mX (sub:=sub) (n:=fu) (a:=g) eo).symm.trans he;rw[e4]at he;cbv;refine iB p4 6 g b 0 0 _ _ (fun h5 v5 s5 e5 p5 w5=>?_);have e5:s4.node (bin 6 g b)=(v5,s5):=e5;have he:dM sub ops fu v5 s5=R:=by rw[<-he];show _=dM sub ops fu (s4.node (bin 6 g b)).1 (s4.node (bin 6 g b)).2;rw[e5]
   have Ls:I s5.ws.length v5 h5:=by rw[bm];exact⟨fu,s5,p5,by rw[w5];omega,he,by rw[w5];omega,rfl⟩
   have aG:s5.ws.length<m:=by rw[w5];omega
   clear he bm hJ iO;cbv;refine⟨s5.ws.length,_,aG,⟨?_,?_,?_⟩,Ls⟩
   ·cbv
   ·cbv
   ·cbv
  |false=>
   obtain⟨rfl,rfl⟩:=I8 rfl;have eo:s3.cM ops=(none,s3):=by rw[nY];exact aI e3
   have ae:=iO h3 g s3 (he.symm.trans (nJ eo rfl)) p3 tX;cbv;exact ae
theorem IW{n:Nat}(IH:rO 323 6 (oQ ai) n):rO 298 7 (ye ai) (n+1):=by
 intro base h pb s k hp hf hk;obtain⟨A,hA⟩:=Ar.ex;obtain⟨ops,nY⟩:∃ops:List (ByteArray×Int),ops=[((au [97,110,100]),7)]:=⟨_,rfl⟩;obtain⟨sub,cW⟩:∃sub,sub=oQ ai n:=⟨_,rfl⟩;have aJ:ye ai (n+1) s=dM sub ops (sub s).2.ws.length (sub s).1 (sub s).2:=by rw[nY,cW];simp only[ye]
 refine af A (ar V0.aw V0.aZ) Tryz.func298 rfl (by kernel_rfl) ?_;cbv;refine IH base h pb s _ hp (by omega) (fun h1 a1 s1 e1 p1 l1=>?_);rw[<-cW]at e1;rw[e1]at aJ;obtain⟨R,hR⟩:∃R,dM sub ops s1.ws.length a1 s1=R:=⟨_,rfl⟩;have aJ:ye ai (n+1) s=R:=aJ.trans hR;obtain⟨I,bm⟩:∃I:Nat->Int->ad->Prop,∀m g h',I m g h'=∃fu s2,fV true base h' pb s2/\s2.ws.length<=fu/\dM sub ops fu g s2=R/\s2.ws.length<=s.ws.length/\m=s2.ws.length:=⟨_,fun _ _ _=>rfl⟩;have hJ:I s1.ws.length a1 h1:=by rw[bm];exact⟨_,s1,p1,Nat.le_refl _,hR,l1,rfl⟩
 have iO:∀h' g s2,R=(g,s2)->fV true base h' pb s2->s2.ws.length<=s.ws.length->k (.int .i64 g) h':=fun h' g s2 e p l=>hk h' g s2 (aJ.trans e) p l;clear hk hR aJ e1;cbv;refine aX.go (G:=Int) (fun g=>[(3,.v (.int .i64 g))]) (fun _=>[]) (fun m g h'=>I m g h') s1.ws.length a1 ⟨?_,?_,?_⟩ hJ ?_
 ·cbv
 ·cbv
 ·cbv
 ·intro m g h' hI;rw[bm]at hI;cbv;obtain⟨fu,s2,p2,P7,he,tX,hm⟩:=hI;refine As p2 (au [97,110,100]) (fun h3 t s3 e3 p3 xB I8=>?_);cases t with
  |true=>
   have xB:=xB rfl;have eo:s2.cM ops=(some 7,s3):=by rw[nY];exact dJ e3
   cbv;have vl:9*s3.ws.length+6<=n:=by omega
   refine IH base h3 pb s3 _ p3 vl (fun h4 b s4 e4 p4 l4=>?_);rw[<-cW]at e4;obtain⟨fu,rfl⟩:∃zM,fu=zM+1:=⟨fu-1,by omega⟩;have he:=(mX (sub:=sub) (n:=fu) (a:=g) eo).symm.trans he;rw[e4]at he;cbv;refine iB p4 7 g b 0 0 _ _ (fun h5 v5 s5 e5 p5 w5=>?_);have e5:s4.node (bin 7 g b)=(v5,s5):=e5;have he:dM sub ops fu v5 s5=R:=by rw[<-he];show _=dM sub ops fu (s4.node (bin 7 g b)).1 (s4.node (bin 7 g b)).2;rw[e5]
   have Ls:I s5.ws.length v5 h5:=by rw[bm];exact⟨fu,s5,p5,by rw[w5];omega,he,by rw[w5];omega,rfl⟩
   have aG:s5.ws.length<m:=by rw[w5];omega
   clear he bm hJ iO;cbv;refine⟨s5.ws.length,_,aG,⟨?_,?_,?_⟩,Ls⟩
   ·cbv
   ·cbv
   ·cbv
  |false=>
   obtain⟨rfl,rfl⟩:=I8 rfl;have eo:s3.cM ops=(none,s3):=by rw[nY];exact aI e3
   have ae:=iO h3 g s3 (he.symm.trans (nJ eo rfl)) p3 tX;cbv;exact ae
theorem GA{n:Nat}(IH:rO 355 2 (oR ai) n):rO 354 3 (xA ai) (n+1):=by
 intro base h pb s k hp hf hk;obtain⟨A,hA⟩:=Ar.ex;obtain⟨ops,nY⟩:∃ops:List (ByteArray×Int),ops=[((au [42]),16)]:=⟨_,rfl⟩;obtain⟨sub,cW⟩:∃sub,sub=oR ai n:=⟨_,rfl⟩;have aJ:xA ai (n+1) s=dM sub ops (sub s).2.ws.length (sub s).1 (sub s).2:=by rw[nY,cW];simp only[xA]
 refine af A (ar Vu.aw Vu.aZ) Tryz.func354 rfl (by kernel_rfl) ?_;cbv;refine IH base h pb s _ hp (by omega) (fun h1 a1 s1 e1 p1 l1=>?_);rw[<-cW]at e1;rw[e1]at aJ;obtain⟨R,hR⟩:∃R,dM sub ops s1.ws.length a1 s1=R:=⟨_,rfl⟩;have aJ:xA ai (n+1) s=R:=aJ.trans hR;obtain⟨I,bm⟩:∃I:Nat->Int->ad->Prop,∀m g h',I m g h'=∃fu s2,fV true base h' pb s2/\s2.ws.length<=fu/\dM sub ops fu g s2=R/\s2.ws.length<=s.ws.length/\m=s2.ws.length:=⟨_,fun _ _ _=>rfl⟩;have hJ:I s1.ws.length a1 h1:=by rw[bm];exact⟨_,s1,p1,Nat.le_refl _,hR,l1,rfl⟩
 have iO:∀h' g s2,R=(g,s2)->fV true base h' pb s2->s2.ws.length<=s.ws.length->k (.int .i64 g) h':=fun h' g s2 e p l=>hk h' g s2 (aJ.trans e) p l;clear hk hR aJ e1;cbv;refine aX.go (G:=Int) (fun g=>[(3,.v (.int .i64 g))]) (fun _=>[]) (fun m g h'=>I m g h') s1.ws.length a1 ⟨?_,?_,?_⟩ hJ ?_
 ·cbv
 ·cbv
 ·cbv
 ·intro m g h' hI;rw[bm]at hI;cbv;obtain⟨fu,s2,p2,P7,he,tX,hm⟩:=hI;refine As p2 (au [42]) (fun h3 t s3 e3 p3 xB I8=>?_);cases t with
  |true=>
   have xB:=xB rfl;have eo:s2.cM ops=(some 16,s3):=by rw[nY];exact dJ e3
   cbv;have vl:9*s3.ws.length+2<=n:=by omega
   refine IH base h3 pb s3 _ p3 vl (fun h4 b s4 e4 p4 l4=>?_);rw[<-cW]at e4;obtain⟨fu,rfl⟩:∃zM,fu=zM+1:=⟨fu-1,by omega⟩;have he:=(mX (sub:=sub) (n:=fu) (a:=g) eo).symm.trans he;rw[e4]at he;cbv;refine iB p4 16 g b 0 0 _ _ (fun h5 v5 s5 e5 p5 w5=>?_);have e5:s4.node (bin 16 g b)=(v5,s5):=e5;have he:dM sub ops fu v5 s5=R:=by rw[<-he];show _=dM sub ops fu (s4.node (bin 16 g b)).1 (s4.node (bin 16 g b)).2;rw[e5]
   have Ls:I s5.ws.length v5 h5:=by rw[bm];exact⟨fu,s5,p5,by rw[w5];omega,he,by rw[w5];omega,rfl⟩
   have aG:s5.ws.length<m:=by rw[w5];omega
   clear he bm hJ iO;cbv;refine⟨s5.ws.length,_,aG,⟨?_,?_,?_⟩,Ls⟩
   ·cbv
   ·cbv
   ·cbv
  |false=>
   obtain⟨rfl,rfl⟩:=I8 rfl;have eo:s3.cM ops=(none,s3):=by rw[nY];exact aI e3
   have ae:=iO h3 g s3 (he.symm.trans (nJ eo rfl)) p3 tX;cbv;exact ae
theorem FC{n:Nat}(IH:rO 354 3 (xA ai) n):rO 353 4 (xd ai) (n+1):=by
 intro base h pb s k hp hf hk;obtain⟨A,hA⟩:=Ar.ex;obtain⟨ops,nY⟩:∃ops:List (ByteArray×Int),ops=[((au [43]),14),((au [45]),15)]:=⟨_,rfl⟩;obtain⟨sub,cW⟩:∃sub,sub=xA ai n:=⟨_,rfl⟩;have aJ:xd ai (n+1) s=dM sub ops (sub s).2.ws.length (sub s).1 (sub s).2:=by rw[nY,cW];simp only[xd]
 refine af A (ar Vv.aw Vv.aZ) Tryz.func353 rfl (by kernel_rfl) ?_;cbv;refine IH base h pb s _ hp (by omega) (fun h1 a1 s1 e1 p1 l1=>?_);rw[<-cW]at e1;rw[e1]at aJ;obtain⟨R,hR⟩:∃R,dM sub ops s1.ws.length a1 s1=R:=⟨_,rfl⟩;have aJ:xd ai (n+1) s=R:=aJ.trans hR;obtain⟨I,bm⟩:∃I:Nat->Int->ad->Prop,∀m g h',I m g h'=∃fu s2,fV true base h' pb s2/\s2.ws.length<=fu/\dM sub ops fu g s2=R/\s2.ws.length<=s.ws.length/\m=s2.ws.length:=⟨_,fun _ _ _=>rfl⟩;have hJ:I s1.ws.length a1 h1:=by rw[bm];exact⟨_,s1,p1,Nat.le_refl _,hR,l1,rfl⟩
 have iO:∀h' g s2,R=(g,s2)->fV true base h' pb s2->s2.ws.length<=s.ws.length->k (.int .i64 g) h':=fun h' g s2 e p l=>hk h' g s2 (aJ.trans e) p l;clear hk hR aJ e1;cbv;refine aX.go (G:=Int) (fun g=>[(3,.v (.int .i64 g))]) (fun _=>[]) (fun m g h'=>I m g h') s1.ws.length a1 ⟨?_,?_,?_⟩ hJ ?_
 ·cbv
 ·cbv
 ·cbv
 ·intro m g h' hI;rw[bm]at hI;cbv;obtain⟨fu,s2,p2,P7,he,tX,hm⟩:=hI;have n1:A .aD .eql 14 0=false:=by rw[av A];rfl
  have n2:A .aD .eql 15 0=false:=by rw[av A];rfl
  have n3:A .aD .eql 0 0=true:=by rw[av A];rfl
  refine As p2 (au [43]) (fun h3 t s3 e3 p3 xB I8=>?_);cases t with
  |true=>
   have xB:=xB rfl;have eo:s2.cM ops=(some 14,s3):=by rw[nY];exact dJ e3
   cbv;rw[n1];cbv;have vl:9*s3.ws.length+3<=n:=by omega
   refine IH base h3 pb s3 _ p3 vl (fun h4 b s4 e4 p4 l4=>?_);rw[<-cW]at e4;obtain⟨fu,rfl⟩:∃zM,fu=zM+1:=⟨fu-1,by omega⟩;have he:=(mX (sub:=sub) (n:=fu) (a:=g) eo).symm.trans he;rw[e4]at he;cbv;refine iB p4 14 g b 0 0 _ _ (fun h5 v5 s5 e5 p5 w5=>?_);have e5:s4.node (bin 14 g b)=(v5,s5):=e5;have he:dM sub ops fu v5 s5=R:=by rw[<-he];show _=dM sub ops fu (s4.node (bin 14 g b)).1 (s4.node (bin 14 g b)).2;rw[e5]
   have Ls:I s5.ws.length v5 h5:=by rw[bm];exact⟨fu,s5,p5,by rw[w5];omega,he,by rw[w5];omega,rfl⟩
   have aG:s5.ws.length<m:=by rw[w5];omega
   clear he bm hJ iO;cbv;refine⟨s5.ws.length,_,aG,⟨?_,?_,?_⟩,Ls⟩
   ·cbv
   ·cbv
   ·cbv
  |false=>
   obtain⟨rfl,rfl⟩:=I8 rfl;have e30:=e3;clear xB I8 e3 p3;cbv;refine As p2 (au [45]) (fun h3 t s3 e3 p3 xB I8=>?_);cases t with
   |true=>
    have xB:=xB rfl;have eo:=(aI (op:=14) (r:=[((au [45]),15)]) e30).trans (dJ e3);rw[<-nY]at eo;cbv;rw[n2];cbv;have vl:9*s3.ws.length+3<=n:=by omega
    refine IH base h3 pb s3 _ p3 vl (fun h4 b s4 e4 p4 l4=>?_);rw[<-cW]at e4;obtain⟨fu,rfl⟩:∃zM,fu=zM+1:=⟨fu-1,by omega⟩;have he:=(mX (sub:=sub) (n:=fu) (a:=g) eo).symm.trans he;rw[e4]at he;cbv;refine iB p4 15 g b 0 0 _ _ (fun h5 v5 s5 e5 p5 w5=>?_);have e5:s4.node (bin 15 g b)=(v5,s5):=e5;have he:dM sub ops fu v5 s5=R:=by rw[<-he];show _=dM sub ops fu (s4.node (bin 15 g b)).1 (s4.node (bin 15 g b)).2;rw[e5]
    have Ls:I s5.ws.length v5 h5:=by rw[bm];exact⟨fu,s5,p5,by rw[w5];omega,he,by rw[w5];omega,rfl⟩
    have aG:s5.ws.length<m:=by rw[w5];omega
    clear he bm hJ iO;cbv;refine⟨s5.ws.length,_,aG,⟨?_,?_,?_⟩,Ls⟩
    ·cbv
    ·cbv
    ·cbv
   |false=>obtain⟨rfl,rfl⟩:=I8 rfl;have eo:=(aI (op:=14) (r:=[((au [45]),15)]) e30).trans (aI e3);rw[<-nY]at eo;have ae:=iO h3 g s3 (he.symm.trans (nJ eo rfl)) p3 tX;cbv;rw[n3];cbv;exact ae
theorem Gs{n:Nat}(IH:rO 323 6 (oQ ai) n)(IN:rO 343 5 (sg ai) n):rO 323 6 (oQ ai) (n+1):=by
 intro base h pb s k hp hf hk;obtain⟨A,hA⟩:=Ar.ex;have aJ:oQ ai (n+1) s=match s.is (au [110,111,116])with
  | (true,p)=>let a:=oQ ai n p;a.2.node (un 3 a.1)
  | (false,p)=>sg ai n p:=by simp only[oQ];rfl
 refine af A (ar VH.aw VH.aZ) Tryz.func323 rfl (by kernel_rfl) ?_;cbv;refine As hp (au [110,111,116]) (fun h1 t s1 e1 p1 dU gC=>?_);rw[e1]at aJ;cases t with
 |true=>
  have dU:=dU rfl;have aJ:oQ ai (n+1) s=(oQ ai n s1).2.node (un 3 (oQ ai n s1).1):=aJ;have vl:9*s1.ws.length+6<=n:=by omega
  cbv;refine IH base h1 pb s1 _ p1 vl (fun h2 a s2 e2 p2 l2=>?_);rw[e2]at aJ;cbv;refine iB p2 3 a 0 0 0 _ _ (fun h3 v3 s3 e3 p3 w3=>?_);have e3:s2.node (un 3 a)=(v3,s3):=e3;have ae:=hk h3 v3 s3 (aJ.trans e3) p3 (by rw[w3];omega);cbv;exact ae
 |false=>obtain⟨rfl,rfl⟩:=gC rfl;have aJ:oQ ai (n+1) s1=sg ai n s1:=aJ;cbv;refine IN base h1 pb s1 _ p1 (by omega) (fun h2 a s2 e2 p2 l2=>?_);have ae:=hk h2 a s2 (aJ.trans e2) p2 l2;cbv;exact ae
theorem Gu{n:Nat}(IH:rO 355 2 (oR ai) n)(IN:rO 356 1 (qT ai) n):rO 355 2 (oR ai) (n+1):=by
 intro base h pb s k hp hf hk;obtain⟨A,hA⟩:=Ar.ex;have aJ:oR ai (n+1) s=match s.is (au [45])with
  | (true,p)=>let a:=oR ai n p;a.2.node (un 4 a.1)
  | (false,p)=>qT ai n p:=by simp only[oR];rfl
 refine af A (ar Vt.aw Vt.aZ) Tryz.func355 rfl (by kernel_rfl) ?_;cbv;refine As hp (au [45]) (fun h1 t s1 e1 p1 dU gC=>?_);rw[e1]at aJ;cases t with
 |true=>
  have dU:=dU rfl;have aJ:oR ai (n+1) s=(oR ai n s1).2.node (un 4 (oR ai n s1).1):=aJ;have vl:9*s1.ws.length+2<=n:=by omega
  cbv;refine IH base h1 pb s1 _ p1 vl (fun h2 a s2 e2 p2 l2=>?_);rw[e2]at aJ;cbv;refine iB p2 4 a 0 0 0 _ _ (fun h3 v3 s3 e3 p3 w3=>?_);have e3:s2.node (un 4 a)=(v3,s3):=e3;have ae:=hk h3 v3 s3 (aJ.trans e3) p3 (by rw[w3];omega);cbv;exact ae
 |false=>obtain⟨rfl,rfl⟩:=gC rfl;have aJ:oR ai (n+1) s1=qT ai n s1:=aJ;cbv;refine IN base h1 pb s1 _ p1 (by omega) (fun h2 a s2 e2 p2 l2=>?_);have ae:=hk h2 a s2 (aJ.trans e2) p2 l2;cbv;exact ae
theorem Ep{i:Nat}{w:ByteArray}(hw:(ju.map (·.1))[i]? =some w):ju.drop i=(w,8+(i:Int))::ju.drop (i+1):=by
 have hi:=(List.getElem?_eq_some_iff.1 hw).1;have hi:i<6:=hi;have h6:i=0\/i=1\/i=2\/i=3\/i=4\/i=5:=by omega
 rcases h6 with rfl|rfl|rfl|rfl|rfl|rfl<;>(cases hw;rfl)
theorem x7{n:Nat}(IH:rO 353 4 (xd ai) n):rO 343 5 (sg ai) (n+1):=by
 intro base h pb s k hp hf hk;obtain⟨A,hA⟩:=Ar.ex;obtain⟨sub,cW⟩:∃sub,sub=xd ai n:=⟨_,rfl⟩;have aJ:sg ai (n+1) s=match (sub s).2.is (au [105,115])with
  | (true,q)=>(q.bP [(au [110,117,108,108])]).node (un 5 (sub s).1)
  | (false,q)=>match q.cM ju with
   | (some op,q)=>(sub q).2.node (bin op (sub s).1 (sub q).1)
   | (none,q)=>((sub s).1,q):=by rw[cW];simp only[sg];rfl
 refine af A (ar Vx.aw Vx.aZ) Tryz.func343 rfl (by kernel_rfl) ?_;cbv;refine IH base h pb s _ hp (by omega) (fun h1 a s1 e1 p1 l1=>?_);rw[<-cW]at e1;rw[e1]at aJ;cbv;refine As p1 (au [105,115]) (fun h2 t s2 e2 p2 gK ML=>?_);replace aJ:sg ai (n+1) s=match s1.is (au [105,115])with
  | (true,q)=>(q.bP [(au [110,117,108,108])]).node (un 5 a)
  | (false,q)=>match q.cM ju with
   | (some op,q)=>(sub q).2.node (bin op a (sub q).1)
   | (none,q)=>(a,q):=aJ
 rw[e2]at aJ;cases t with
 |true=>have gK:=gK rfl;replace aJ:sg ai (n+1) s=(s2.bP [(au [110,117,108,108])]).node (un 5 a):=aJ;cbv;intro n3 h3 g3 e3;refine Gz p2 g3 [(au [110,117,108,108])] e3 rfl (by decide) (fun h4 s4 e4 p4 l4=>?_);rw[e4]at aJ;cbv;refine iB p4 5 a 0 0 0 _ _ (fun h5 v5 s5 e5 p5 w5=>?_);have e5:s4.node (un 5 a)=(v5,s5):=e5;have ae:=hk h5 v5 s5 (aJ.trans e5) p5 (by rw[w5];omega);cbv;exact ae
 |false=>
  obtain⟨rfl,rfl⟩:=ML rfl;clear e2 ML gK p1;replace aJ:sg ai (n+1) s=match s2.cM ju with
   | (some op,q)=>(sub q).2.node (bin op a (sub q).1)
   | (none,q)=>(a,q):=aJ
  obtain⟨L6,hL6⟩:∃L,L=ju.map (·.1):=⟨_,rfl⟩;have hL6l:L6.length=6:=by rw[hL6];rfl
  cbv;intro n3 h3 g3 e3;have e3:h3=aV h2 n3 (.cells (List.toArray ((ju.map (·.1)).map Value.string)) 9 (0,0)):=e3;have l3:Le h2 h3:=by rw[e3];exact Le.set g3
  have p3:=p2.mono l3;have gs:h3 n3=some (.cells (List.toArray (L6.map Value.string)) 9 (0,0)):=by rw[e3,hL6];exact ah
  have ql:Sl 9 cK h3 (.slice (some ⟨n3,0,none⟩) 6 6) L6:=by
   have:=Sl.fresh (e:=9) (s:=cK) (xs:=L6) (cap:=6) gs ⟨?_,fun i x hx=>?_⟩ (by omega) (by omega)
   ·rw[hL6l]at this;exact this
   ·show 0+L6.length*1<=_;rw[List.length_map];omega
   ·show List.take 1 (List.drop (0+i*1) _)=[Value.string x];obtain⟨h1,h2⟩:=List.getElem?_eq_some_iff.1 hx;rw[Nat.zero_add,Nat.mul_one,List.drop_eq_getElem_cons (by simpa using h1)];simp[h2]
  obtain⟨I,bm⟩:∃I:Nat->Int->ad->Prop,∀m g h',I m g h'=∃i:Nat,aO g i/\i<=6/\m=6-i/\h'=h3/\s2.cM (ju.drop i)=s2.cM ju:=⟨_,fun _ _ _=>rfl⟩;have hJ:I 6 0 h3:=by rw[bm];exact⟨0,⟨rfl⟩,by decide,rfl,rfl,rfl⟩
  clear e3 gs p2;cbv;refine aX.go (G:=Int) (fun g=>[(5,.v (.int .i64 g))]) (fun _=>[]) (fun m g h'=>I m g h') 6 0 ⟨?_,?_,?_⟩ hJ ?_
  ·cbv
  ·cbv
  ·cbv
  ·intro m g h' hI;rw[bm]at hI;cbv;obtain⟨i,hg,hi,hm,rfl,he⟩:=hI;have f1:A .aD .lss g 6=decide (i<6):=hg.gK ⟨rfl⟩;have f1':A .aD .lss g (A .nat 6)=decide (i<6):=hg.gK (aO.nat 6);first|rw[f1] |rw[f1']
   by_cases aG:i<6
   ·obtain⟨w,hw⟩:=aE (xs:=L6) (i:=i) (by omega);have Qh:=Ep (i:=i) (w:=w) (by rw[<-hL6];exact hw);rw[Qh]at he;have cT:(some (⟨n3,0,none⟩:Addr)).isSome=true/\0<=g/\g<((6:Nat):Int):=⟨rfl,hg.ix aG⟩;have iu:=hg.eq;have dS:=hg.succ (A:=A) (by omega);have Nl:A .bu .add .i64 8 g=8+(i:Int):=by rw[kG A _ _ (by omega),iu]
    obtain⟨op,TQ⟩:∃op:Int,8+(i:Int)=op:=⟨_,rfl⟩;rw[TQ]at Nl he;clear TQ Qh;rw[decide_eq_true aG];cbv;refine⟨cT,?_⟩;cbv;refine ql.load hw iu (fun cs aF=>?_);have aF:cs=[.string w]:=aF;subst aF;cbv;refine As p3 w (fun h4 t s4 e4 p4 Yl sm4=>?_);cases t with
    |true=>
     have Yl:=Yl rfl;have eo:=he.symm.trans (dJ e4);rw[eo]at aJ;replace aJ:sg ai (n+1) s=(sub s4).2.node (bin op a (sub s4).1):=aJ;have vl:9*s4.ws.length+4<=n:=by omega
     cbv;refine IH base h4 pb s4 _ p4 vl (fun h5 b s5 e5 p5 l5=>?_);rw[<-cW]at e5;rw[e5]at aJ;cbv;rw[Nl];refine iB p5 op a b 0 0 _ _ (fun h6 v6 s6 e6 p6 w6=>?_);have e6:s5.node (bin op a b)=(v6,s6):=e6;have ae:=hk h6 v6 s6 (aJ.trans e6) p6 (by rw[w6];omega);cbv;exact ae
    |false=>
     obtain⟨rfl,rfl⟩:=sm4 rfl;have dc:I (6-(i+1)) (A .bu .add .i64 g 1) h4:=by rw[bm];exact⟨i+1,dS,aG,rfl,rfl,(aI e4).symm.trans he⟩
     have kC:6-(i+1)<m:=by omega
     clear bm;cbv;refine⟨6-(i+1),_,kC,⟨?_,?_,?_⟩,dc⟩
     ·cbv
     ·cbv
     ·cbv
   ·have hi6:i=6:=by omega
    subst hi6;have he:s2.cM ju=(none,s2):=he.symm;rw[he]at aJ;have ae:=hk h' a s2 aJ p3 l1;rw[decide_eq_false aG];cbv;exact ae
def DD(n:Nat)(s:PS):Int×PS:=match s.is (au [116,114,117,101])with
 | (true,q)=>q.node (lit ⟨1,1,b0⟩)
 | (false,q)=>match q.is (au [102,97,108,115,101])with
  | (true,q)=>q.node (lit ⟨1,0,b0⟩)
  | (false,q)=>match q.is (au [110,117,108,108])with
   | (true,q)=>q.node (lit v0)
   | (false,q)=>match q.is (au [40])with
    | (true,q)=>let a:=Gj ai n q;(a.1,a.2.bP [(au [41])])
    | (false,q)=>let s:=q.column ai;s.2.node (ek s.1)
theorem Gn{n:Nat}(IH:rO 263 8 (Gj ai) n):rO 356 1 (qT ai) (n+1):=by
 intro base h pb s k hp hf hk;obtain⟨A,hA⟩:=Ar.ex;obtain⟨ws,err,ex⟩:=s;refine hp.elim (fun wb wn wc eb en ec at_ i all w r g qw hz hw mw hr hi KU qe=>?_);have g:h pb=some (.cells #[.slice wb wn wc,.int .i64 at_,.int .i64 err,.slice eb en ec] 136 (0,0)):=g;have mw:ws=w::r:=mw;have cT:wb.isSome=true/\0<=at_/\at_<(wn:Int):=⟨qw.bF (by omega),hz.ix hi⟩;have ir:=hz.eq;have dS:=hz.succ (A:=A) (by omega);obtain⟨wk,wN,wS⟩:=w;have f1:A .aD .neq err 0=decide (err≠0):=aC A ..;have f2:A .aD .eql wk 2=decide (wk=2):=av A ..;have f3:A .aD .eql wk 3=decide (wk=3):=av A ..;have aJ:qT ai (n+1) ⟨ws,err,ex⟩=if err≠0 then(0,⟨ws,err,ex⟩)else if wk=2 then PS.node ⟨r,err,ex⟩ (lit ⟨2,wN,b0⟩)else if wk=3 then PS.node ⟨r,err,ex⟩ (lit ⟨3,0,wS⟩)else DD n ⟨ws,err,ex⟩:=by subst mw;simp only[qT];rfl
 have KY:wk≠0->∀h',h'=aV h pb (.cells #[.slice wb wn wc,.int .i64 (A .bu .add .i64 at_ 1),.int .i64 err,.slice eb en ec] 136 (0,0))->fV true base h' pb ⟨r,err,ex⟩:=fun hk h' e=>hp.step mw hk g hz dS e;have Ni:r.length<=ws.length:=by rw[mw];exact Nat.le_succ _
 obtain⟨s,hs⟩:∃s:PS,s=⟨ws,err,ex⟩:=⟨_,rfl⟩;have mJ:s.ws.length=ws.length:=by rw[hs]
 rw[<-hs]at aJ hp hk hf;refine af A (ar Vs.aw Vs.aZ) Tryz.func356 rfl (by kernel_rfl) ?_;cbv;rw[aj A];refine ay g rfl rfl ?_;cbv;rw[aj A];refine ay g rfl rfl ?_;cbv;refine⟨cT,?_⟩;cbv;refine qw.load hw ir (fun cs aF=>?_);have aF:cs=[.int .i64 wk,.int .i64 wN,.string wS]:=aF;subst aF;cbv;rw[aj A];refine ay g rfl rfl ?_;cbv;rw[f1];by_cases he:err≠0
 ·rw[if_pos he]at aJ;have ae:=hk h 0 _ aJ hp (Nat.le_refl _);rw[decide_eq_true he];cbv;exact ae
 ·rw[if_neg he]at aJ;rw[decide_eq_false he];cbv;rw[f2];by_cases ni:wk=2
  ·rw[if_pos ni]at aJ;have KY:=KY (by omega);rw[decide_eq_true ni];cbv;rw[aj A];refine ay g rfl rfl ?_;cbv;rw[aj A];refine kP g (by simp) (fun h1 e1=>?_);have p1:=KY h1 e1;cbv;refine iB p1 1 0 0 2 wN _ _ (fun h2 v2 s2 e2 p2 w2=>?_);have e2:PS.node ⟨r,err,ex⟩ (lit ⟨2,wN,b0⟩)=(v2,s2):=e2;have ae:=hk h2 v2 s2 (aJ.trans e2) p2 (by rw[w2,mJ];exact Ni);cbv;exact ae
  ·rw[if_neg ni]at aJ;rw[decide_eq_false ni];cbv;rw[f3];by_cases Aw:wk=3
   ·rw[if_pos Aw]at aJ;have KY:=KY (by omega);rw[decide_eq_true Aw];cbv;rw[aj A];refine ay g rfl rfl ?_;cbv;rw[aj A];refine kP g (by simp) (fun h1 e1=>?_);have p1:=KY h1 e1;cbv;refine iB p1 1 0 0 3 0 wS _ (fun h2 v2 s2 e2 p2 w2=>?_);have e2:PS.node ⟨r,err,ex⟩ (lit ⟨3,0,wS⟩)=(v2,s2):=e2;have ae:=hk h2 v2 s2 (aJ.trans e2) p2 (by rw[w2,mJ];exact Ni);cbv;exact ae
   ·rw[if_neg Aw]at aJ;rw[decide_eq_false Aw];clear KY hs cT g qe mw f1 f2 f3;cbv;refine As hp (au [116,114,117,101]) (fun h1 t s1 kW p1 dU gC=>?_);cases t with
    |true=>
     have dU:=dU rfl;replace aJ:qT ai (n+1) s=s1.node (lit ⟨1,1,b0⟩):=by rw[aJ];unfold DD;simp only[kW]
     cbv;refine iB p1 1 0 0 1 1 _ _ (fun h2 v2 s2 e2 p2 w2=>?_);have e2:s1.node (lit ⟨1,1,b0⟩)=(v2,s2):=e2;have ae:=hk h2 v2 s2 (aJ.trans e2) p2 (by rw[w2];omega);cbv;exact ae
    |false=>
     obtain⟨eL,dO⟩:=gC rfl;replace eL:=eL.symm;replace dO:=dO.symm;subst eL dO;clear dU gC p1;cbv;refine As hp (au [102,97,108,115,101]) (fun h1 t s1 sf p1 dU gC=>?_);cases t with
     |true=>
      have dU:=dU rfl;replace aJ:qT ai (n+1) s=s1.node (lit ⟨1,0,b0⟩):=by rw[aJ];unfold DD;simp only[kW,sf]
      cbv;refine iB p1 1 0 0 1 0 _ _ (fun h2 v2 s2 e2 p2 w2=>?_);have e2:s1.node (lit ⟨1,0,b0⟩)=(v2,s2):=e2;have ae:=hk h2 v2 s2 (aJ.trans e2) p2 (by rw[w2];omega);cbv;exact ae
     |false=>
      obtain⟨eL,dO⟩:=gC rfl;replace eL:=eL.symm;replace dO:=dO.symm;subst eL dO;clear dU gC p1;cbv;refine As hp (au [110,117,108,108]) (fun h1 t s1 vu p1 dU gC=>?_);cases t with
      |true=>
       have dU:=dU rfl;replace aJ:qT ai (n+1) s=s1.node (lit v0):=by rw[aJ];unfold DD;simp only[kW,sf,vu]
       cbv;refine iB p1 1 0 0 0 0 _ _ (fun h2 v2 s2 e2 p2 w2=>?_);have e2:s1.node (lit v0)=(v2,s2):=e2;have ae:=hk h2 v2 s2 (aJ.trans e2) p2 (by rw[w2];omega);cbv;exact ae
      |false=>
       obtain⟨eL,dO⟩:=gC rfl;replace eL:=eL.symm;replace dO:=dO.symm;subst eL dO;clear dU gC p1;cbv;refine As hp (au [40]) (fun h1 t s1 Jx p1 dU gC=>?_);cases t with
       |true=>
        have dU:=dU rfl;replace aJ:qT ai (n+1) s=((Gj ai n s1).1,(Gj ai n s1).2.bP [(au [41])]):=by rw[aJ];unfold DD;simp only[kW,sf,vu,Jx]
        have vl:9*s1.ws.length+8<=n:=by omega
        cbv;refine IH base h1 pb s1 _ p1 vl (fun h2 a s2 e2 p2 l2=>?_);rw[e2]at aJ;cbv;intro n3 h3 g3 e3;refine Gz p2 g3 [(au [41])] e3 rfl (by decide) (fun h4 s4 e4 p4 l4=>?_);have ae:=hk h4 a s4 (by rw[aJ];show(a,s2.bP _)=_;rw[e4]) p4 (by omega);cbv;exact ae
       |false=>
        obtain⟨eL,dO⟩:=gC rfl;replace eL:=eL.symm;replace dO:=dO.symm;subst eL dO;cbv;refine qu p1 (fun h2 v s2 e2 p2 l2 z2=>?_);replace aJ:qT ai (n+1) s=s2.node (ek v):=by rw[aJ];unfold DD;simp only[kW,sf,vu,Jx,e2]
        cbv;refine iB p2 2 0 0 0 0 _ v (fun h3 v3 s3 e3 p3 w3=>?_);have e3:s2.node (ek v)=(v3,s3):=e3;have ae:=hk h3 v3 s3 (aJ.trans e3) p3 (by rw[w3];omega);cbv;exact ae
theorem vS:∀n,rO 263 8 (Gj ai) n/\rO 298 7 (ye ai) n/\rO 323 6 (oQ ai) n/\rO 343 5 (sg ai) n/\rO 353 4 (xd ai) n/\rO 354 3 (xA ai) n/\rO 355 2 (oR ai) n/\rO 356 1 (qT ai) n
 |0=>⟨fun _ _ _ _ _ _ h=>by omega,fun _ _ _ _ _ _ h=>by omega,fun _ _ _ _ _ _ h=>by omega,fun _ _ _ _ _ _ h=>by omega,fun _ _ _ _ _ _ h=>by omega,fun _ _ _ _ _ _ h=>by omega,fun _ _ _ _ _ _ h=>by omega,fun _ _ _ _ _ _ h=>by omega⟩
 |n+1=>by
  obtain⟨h1,h2,h3,h4,h5,h6,h7,h8⟩:=vS n;exact⟨Kf h2,IW h3,Gs h3 h4,x7 h5,FC h6,GA h7,Gu h7 h8,Gn h1⟩
theorem fV.freeze{base h:ad}{pb:Nat}{lv:Bool}{s:PS}(q:fV lv base h pb s):fV false (Sx.cQ h pb) h pb s:=by
 obtain⟨wb,wn,wc,eb,en,ec,at_,i,all,g1,g2,g3,g4,g5,g6,g7,g9,uj⟩:=q.out;refine⟨wb,wn,wc,eb,en,ec,at_,i,all,g1,g2.mono (fun b c e fr _ hb=>?_),g3,g4,g5,g6,(fun hh=>by cases hh),Sx.fh h pb,Sx.dP h pb⟩;have bU:b≠pb:=fun e=>by rw[e,uj]at hb;cases hb
 rw[Sx.eF bU];exact g9 b _ hb
theorem UY{base h:ad}{pb:Nat}{lv:Bool}{s:PS}(hp:fV lv base h pb s){k:Value->ad->Prop}
 (hk:∀CV h' b n c e s',s.expr ai=(e,s')->e.length<=60->Le base CV->fV false CV h' pb s'->Sl 325 cP CV (.slice b n c) e->s'.ws.length<=s.ws.length->k (.slice b n c) h'):
 Ct 217 [.pointer (some ⟨pb,0,none⟩)] h k:=by
 obtain⟨A,hA⟩:=Ar.ex;refine hp.elim (fun wb wn wc eb en ec at_ i all w r g qw hz hw mw hr hi KU qe=>?_);have hle:=hp.le;refine af A (ar WL.aw WL.aZ) Tryz.func217 rfl (by kernel_rfl) ?_;cbv;rw[aj A];refine kP g (by simp) (fun h1 e1=>?_);have p1:fV true base h1 pb { s with e:=[] }:=hp.Ga (lv':=true) g hle (fun _=>⟨cS.nil,by decide⟩) g e1;clear qe;cbv;refine(vS (9*s.ws.length+9)).1 base h1 pb _ _ p1 (by show 9*s.ws.length+8<=_;omega) (fun h2 a s2 e2 p2 l2=>?_);have l2:s2.ws.length<=s.ws.length:=l2;refine p2.elim (fun X4 wn2 wc2 BG en2 ec2 at2 i2 all2 w2 r2 g2 qw2 gL tR hws2 Nj hi2 hwn2 qe2=>?_);obtain⟨qb,Bc⟩:=qe2 rfl;have hex:s.expr ai=(s2.e,s2):=by unfold PS.expr;simp only[e2]
 have p3:=p2.freeze;have uX:Le base (Sx.cQ h2 pb):=fun b o hb=>by
  have bU:b≠pb:=fun e=>by
   obtain⟨_,_,_,_,_,_,_,_,_,_,_,_,_,_,_,_,_,uj⟩:=hp.out;rw[e,uj]at hb;cases hb
  rw[Sx.eF bU];exact p2.le b o hb
 have qs:Sl 325 cP (Sx.cQ h2 pb) (.slice BG en2 ec2) s2.e:=qb.sl.mono (fun b c e fr hm hb=>by
  have bU:b≠pb:=fun e'=>by
   rw[e',g2]at hb;cases hb;simp[cP]at hm
  rw[Sx.eF bU];exact hb)
 have ae:=hk _ h2 BG en2 ec2 s2.e s2 hex Bc uX p3 qs l2;cbv;rw[aj A];refine ay g2 rfl rfl ?_;cbv;exact ae
end Go.S
