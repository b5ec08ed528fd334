import Derived.Test.YtekoaiendgjkdaaGreatMB
set_option linter.unusedVariables false
set_option linter.unusedSimpArgs false
set_option linter.unusedSectionVars false
set_option maxRecDepth 100000
set_option maxHeartbeats 8000000
namespace Go.S
open Go.Sx Go.Proofs
theorem SC.Ko{d:DB}(q:SC d){n:Nat}(hH:d.holds.length<=n)(hW:d.waits.length<=n):ue n d:=by
 refine⟨?_,q.jC,q.pH,fun t ht=>?_,hH,hW,fun x hx=>?_⟩
 ·have:=q.tw.le;omega
 ·have:=(q.tw.ok t ht).2.2.1.le;omega
 ·obtain⟨w,hw,he⟩:=q.hw x hx;have:=q.pH w hw;omega
theorem IF:∀a b c:List UInt8,Lib.compareBytes a b<0->Lib.compareBytes b c<0->Lib.compareBytes a c<0
 | [],_,[],h1,h2=>by
  rename_i b;cases b with
  |nil=>simp[Lib.compareBytes]at h1
  |cons y b=>simp[Lib.compareBytes]at h2
 | [],_,z::c,h1,h2=>by simp[Lib.compareBytes]
 |x::a,[],_,h1,h2=>by simp[Lib.compareBytes]at h1
 |x::a,y::b,[],h1,h2=>by simp[Lib.compareBytes]at h2
 |x::a,y::b,z::c,h1,h2=>by
  have ih:=IF a b c;unfold Lib.compareBytes at h1 h2 |-;have lt:∀p q:UInt8,p<q↔p.toNat<q.toNat:=fun p q=>mXP;by_cases a1:x<y
  ·rw[if_pos a1]at h1;by_cases b1:y<z
   ·have:x<z:=by rw[lt]at a1 b1 |-;omega
    rw[if_pos this];decide
   ·rw[if_neg b1]at h2;by_cases b2:z<y
    ·rw[if_pos b2]at h2;exact absurd h2 (by decide)
    ·have:x<z:=by rw[lt]at a1 b1 b2 |-;omega
     rw[if_pos this];decide
  ·rw[if_neg a1]at h1;by_cases a2:y<x
   ·rw[if_pos a2]at h1;exact absurd h1 (by decide)
   ·rw[if_neg a2]at h1;have e:x=y:=by rw[lt]at a1 a2;exact mXG.1 (by omega)
    subst e;by_cases b1:x<z
    ·rw[if_pos b1];decide
    ·rw[if_neg b1]at h2 |-;by_cases b2:z<x
     ·rw[if_pos b2]at h2;exact absurd h2 (by decide)
     ·rw[if_neg b2]at h2 |-;exact ih h1 h2
theorem IG{a b c:ByteArray}(h1:eC a b<0)(h2:eC b c<0):eC a c<0:=by unfold eC at *;exact IF _ _ _ h1 h2
theorem Sc{α:Type}{p:α->Bool}{x:α}:∀ {l:List α},x∈l.takeWhile p->p x=true
 | [],h=>by cases h
 |y::r,h=>by
  cases hp:p y with
  |true=>
   rw[mJe hp]at h;rcases mQs.1 h with rfl|h
   ·exact hp
   ·exact Sc h
  |false=>rw[mJR (by rw[hp];simp)]at h;cases h
theorem LD{α:Type}{p:α->Bool}{x:α}:∀ {l:List α},l[(l.takeWhile p).length]? =some x->p x=false
 | [],h=>by simp at h
 |y::r,h=>by
  cases hp:p y with
  |true=>rw[mJe hp,mQx]at h;exact LD (l:=r) (by simpa using h)
  |false=>rw[mJR (by rw[hp];simp)]at h;simp at h;rw[<-h];exact hp
def Mo(d:DB):Prop:=∀w∈d.aq,w.marks.Pairwise (fun a b=>a.at_<=b.at_)
structure SJ(n:Nat)(d:DB):Prop where
 sc:SC d
 mo:Mo d
 hn:d.holds.length<=n
 wn:d.waits.length<=n
theorem SJ.Ko{n:Nat}{d:DB}(q:SJ n d):ue n d:=q.sc.Ko q.hn q.wn
theorem SJ.le{n m:Nat}{d:DB}(q:SJ n d)(h:n<=m):SJ m d:=⟨q.sc,q.mo,mXW q.hn h,mXW q.wn h⟩
theorem yH{n:Nat}{d:DB}(q:SJ n d)(hd:cg)(hs:-2^63<=hd.s/\hd.s<2^63):SJ (n+1) (aL d hd).1:=by have h:=xZ q.Ko hd hs;exact⟨(PU q.sc hd hs).1,fun w hw=>q.mo w (h.sub.subset hw),h.ok.holds,h.ok.waits⟩
theorem ZS{d:DB}(hI:SI d){s:Int}(hs:0<=s/\s<8)(hb:jG (bQ d.aq s)=false):∃i,di (bQ d.aq s)=i/\i<=d.aq.length/\(∀w∈d.aq.take i,w.s<s)/\∀w∈d.aq.drop i,s<w.s:=by
 obtain⟨i,hi⟩:∃i,i=(d.aq.takeWhile fun w=>decide (w.s<s)).length:=⟨_,rfl⟩;have hle:i<=d.aq.length:=by rw[hi];exact(mKS _).length_le
 have ND:d.aq.take i=d.aq.takeWhile fun w=>decide (w.s<s):=by rw[hi];exact(mKR.1 (mKQ _)).symm
 have FI:∀w∈d.aq.take i,w.s<s:=fun w hw=>by
  rw[ND]at hw;have:=Sc hw;exact mQB this
 have cZ:∀w,d.aq[i]? =some w->¬w.s<s:=fun w hw=>by
  rw[hi]at hw;have:=LD (p:=fun w:fJ=>decide (w.s<s)) hw;exact mQI this
 have ch:∀w∈d.aq,w.s≠s:=fun w hw he=>by
  have:=(lR hI.jC hI.pH (s:=s) (by omega)).2 ⟨w,hw,he⟩;rw[hb]at this;cases this
 refine⟨i,NW hI hs hle (fun j w hj hw=>FI w (GD (by rw[mXa,if_pos hj];exact hw))) cZ,hle,FI,fun w hw=>?_⟩;obtain⟨j,hj⟩:=mQZ hw;rw[mXi]at hj;obtain⟨w0,Ek⟩:=aE (xs:=d.aq) (i:=i) (by have:=(HH.1 hj).1;omega);have h0:=cZ w0 Ek;have h1:=ch w0 (GD Ek);cases j with
 |zero=>rw[mZT,Ek]at hj;cases hj;omega
 |succ j=>have:=mQN.1 hI.jC i (i+(j+1)) (HH.1 Ek).1 (HH.1 hj).1 (by omega);rw[(HH.1 Ek).2,(HH.1 hj).2]at this;omega
theorem aXT{n:Nat}{d:DB}(q:SJ n d)(hn:n<=2^17)(s:Int):SJ n (dy d s).1:=by
 unfold dy jh;split
 ·exact q
 ·rename_i h1;have hs:0<=s/\s<8:=by simp at h1;omega
  split
  ·exact q
  ·rename_i h2;have hb:jG (bQ d.aq s)=false:=by simpa using h2
   obtain⟨i,hi,hle,FI,TJ⟩:=ZS (q.sc.si q.Ko hn) hs hb;rw[hi];have fV:∀w,w∈d.aq.take i++[(⟨s,[],[]⟩:fJ)]++d.aq.drop i->w∈d.aq\/w=⟨s,[],[]⟩:=fun w hw=>by
    rcases mQv.1 hw with hw|hw
    ·rcases mQv.1 hw with hw|hw
     ·exact .inl (mXN hw)
     ·simp at hw;exact .inr hw
    ·exact .inl (mXU hw)
   have fZ:∀w,w∈d.aq->w∈d.aq.take i++[(⟨s,[],[]⟩:fJ)]++d.aq.drop i:=fun w hw=>by
    rw[<-mXj i d.aq]at hw;rcases mQv.1 hw with hw|hw
    ·exact mQv.2 (.inl (mQv.2 (.inl hw)))
    ·exact mQv.2 (.inr hw)
   refine⟨⟨q.sc.tw,?_,fun w hw=>?_,fun w hw=>?_,fun w hw=>?_,q.sc.hu,fun x hx=>?_,q.sc.hc,fun w hw c hc=>?_⟩,fun w hw=>?_,q.hn,q.wn⟩
   ·show(d.aq.take i++[(⟨s,[],[]⟩:fJ)]++d.aq.drop i).Pairwise _;have HT:=q.sc.jC;rw[<-mXj i d.aq,mXe]at HT;obtain⟨s1,s2,s3⟩:=HT;rw[mXd,mXe];refine⟨s1,?_,fun a ha b hb=>?_⟩
    ·rw[mKP,mXb];exact⟨fun b hb=>TJ b hb,s2⟩
    ·rcases mQs.1 (by simpa using hb:b∈(⟨s,[],[]⟩:fJ)::d.aq.drop i)with rfl|hb
     ·exact FI a ha
     ·exact s3 a ha b hb
   ·rcases fV w hw with h|rfl
    ·exact q.sc.pH w h
    ·exact hs
   ·rcases fV w hw with h|rfl
    ·exact q.sc.log w h
    ·exact⟨fun x hx=>(by cases hx),by simp⟩
   ·rcases fV w hw with h|rfl
    ·exact q.sc.VG w h
    ·exact⟨by simp,fun x hx=>(by cases hx)⟩
   ·obtain⟨w,hw,he⟩:=q.sc.hw x hx;exact⟨w,fZ w hw,he⟩
   ·rcases fV w hw with h|rfl
    ·exact q.sc.lg w h c hc
    ·cases hc
   ·rcases fV w hw with h|rfl
    ·exact q.mo w h
    ·exact List.Pairwise.nil
theorem DK{d:DB}{i:Nat}{w w':fJ}(hi:d.aq[i]? =some w)(hs:w'.s=w.s):(∀x∈d.aq.set i w',x∈d.aq\/x=w')/\(∀x∈d.aq,∃y∈d.aq.set i w',y.s=x.s)/\((d.aq.Pairwise (fun a b=>a.s<b.s))->(d.aq.set i w').Pairwise (fun a b=>a.s<b.s)):=by
 have ke:=(HH.1 hi).1;refine⟨fun x hx=>mXx hx,fun x hx=>?_,fun h=>?_⟩
 ·obtain⟨j,hj⟩:=mQZ hx;by_cases aKH:i=j
  ·subst aKH;rw[hi]at hj;cases hj;exact⟨w',mZq.2 ⟨i,mZj ke⟩,hs⟩
  ·exact⟨x,mZq.2 ⟨j,by rw[mZP aKH];exact hj⟩,rfl⟩
 ·rw[mQN];have e:∀j (hj:j<(d.aq.set i w').length),(d.aq.set i w')[j].s=(d.aq[j]'(by simpa using hj)).s:=fun j hj=>by
   rw[mZI];split
   ·rename_i e;subst e;rw[hs,<-(HH.1 hi).2]
   ·rfl
  intro a b ha hb Gn;rw[e a ha,e b hb];exact mQN.1 h a b _ _ Gn
theorem Lq{n:Nat}{hd:cg}{d1:DB}{i j:Nat}{w:fJ}{t t':cW}(g:Dv n hd d1 i w j t)(hm:Mo d1)(hx:hd.x=true)(hS:t'.S=t.S)(hr:SO t'.rows){x:dV}(e1:x.table=hd.table)(e2:fK x.row)(e3:x.op=1\/x.op=2)(hl:w.log.length<60):
 SJ (n+1) ⟨d1.az.set j t',d1.aq.set i ⟨w.s,w.log++[x],w.marks⟩,d1.holds,d1.waits⟩:=by
 have q:=g.sc;have Wu:(d1.az.set j t').map (·.S)=d1.az.map (·.S):=by
  apply mXz;intro k;rw[mQU,mQU,mXF];split
  ·rename_i e;subst e;rw[g.tj];have:=(HH.1 g.tj).1;simp[this,hS]
  ·rfl
 obtain⟨w1,w2,w3⟩:=DK (w':=⟨w.s,w.log++[x],w.marks⟩) g.wi rfl;have Ju:=GD g.wi;refine⟨⟨q.tw.set g.tj hS hr,w3 q.jC,fun y hy=>?_,fun y hy=>?_,fun y hy=>?_,q.hu,fun z hz=>?_,q.hc,fun y hy c hc=>?_⟩,fun y hy=>?_,g.ok.holds,g.ok.waits⟩
 ·rcases w1 y hy with h|rfl
  ·exact q.pH y h
  ·exact q.pH w Ju
 ·rcases w1 y hy with h|rfl
  ·obtain⟨a,b⟩:=q.log y h;exact⟨fun z hz=>(a z hz).map Wu,b⟩
  ·obtain⟨a,b⟩:=q.log w Ju;refine⟨fun z hz=>?_,by simp;omega⟩;rcases mQv.1 hz with hz|hz
   ·exact(a z hz).map Wu
   ·simp at hz;subst hz;exact FV.map ⟨e2,e3,t,GD g.tj,by rw[e1];exact g.tn⟩ Wu
 ·rcases w1 y hy with h|rfl
  ·exact q.VG y h
  ·obtain⟨a,b⟩:=q.VG w Ju;refine⟨a,fun m hm=>?_⟩;obtain⟨k,h1,h2⟩:=b m hm;exact⟨k,h1,by simp;omega⟩
 ·obtain⟨y,hy,he⟩:=q.hw z hz;obtain⟨y2,tD,Ep⟩:=w2 y hy;exact⟨y2,tD,Ep.trans he⟩
 ·rcases w1 y hy with h|rfl
  ·exact q.lg y h c hc
  ·rcases mQv.1 hc with hc|hc
   ·exact q.lg w Ju c hc
   ·simp at hc;subst hc;obtain⟨z,hz,a1,a2,a3⟩:=g.hl;exact⟨z,hz,a1.trans g.ws.symm,by rw[a2,e1],by rw[hx]at a3;simpa using a3⟩
 ·rcases w1 y hy with h|rfl
  ·exact hm y h
  ·exact hm w Ju
theorem bJt{S:FR}(h1:S.cols=bp)(h2:S.key=0){R:List Row}{r:Row}(h:SO R)(hr:fK r\/r.length≠2){T:cW×Int}(hT:bK ⟨S,R⟩ r=T):T.1.S=S/\SO T.1.rows:=by subst hT;exact⟨lf _ _,UT h1 h2 h hr⟩
theorem dXA{n:Nat}{d:DB}(q:SJ n d)(s:Int)(nm:ByteArray){r:Row}(hs:-2^63<=s/\s<2^63)(hr:fK r\/r.length≠2):SJ (n+1) (fF d s nm r).1:=by
 have hh:=yH q ⟨s,nm,true⟩ hs;obtain⟨⟨d1,e⟩,hH⟩:∃X,aL d ⟨s,nm,true⟩=X:=⟨_,rfl⟩;rw[hH]at hh;by_cases he:e=0
 ·subst he;obtain⟨i,w,j,⟨S,R⟩,g⟩:=nQ q.sc q.Ko hs hH;obtain⟨p1,p2⟩:=Ki hH g hr (D:=fF d s nm r) rfl;obtain⟨c1,c2,c3,-⟩:=g.sc.tw.ok _ (GD g.tj);by_cases so:(w.log.length:Int)>=60
  ·rw[p1 so];exact hh
  ·obtain⟨T,hT⟩:∃T,bK ⟨S,R⟩ r=T:=⟨_,rfl⟩;obtain⟨p3,p4⟩:=p2 so T hT;obtain⟨t1,t2⟩:=bJt c1 c2 c3 hr hT;by_cases Tn:T.2=0
   ·obtain⟨PL,hD⟩:=p4 Tn;rw[hD];exact Lq g hh.mo rfl t1 t2 rfl PL (.inl rfl) (by omega)
   ·rw[p3 Tn];exact hh
 ·have:fF d s nm r=(d1,e):=oe hH he _;rw[this];exact hh
end Go.S
