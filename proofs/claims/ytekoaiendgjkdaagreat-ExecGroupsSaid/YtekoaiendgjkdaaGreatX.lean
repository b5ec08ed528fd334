import Derived.Test.YtekoaiendgjkdaaGreatQG
import Derived.Test.YtekoaiendgjkdaaGreatVB
import Derived.Test.YtekoaiendgjkdaaGreatNA
import Derived.Test.YtekoaiendgjkdaaGreatEC
import Derived.Test.YtekoaiendgjkdaaGreatQF
import Derived.Test.YtekoaiendgjkdaaGreatEB
set_option linter.unusedVariables false
set_option linter.unusedSimpArgs false
set_option linter.unusedSectionVars false
set_option maxRecDepth 100000
set_option maxHeartbeats 8000000
namespace Go.S
open Go.Sx Go.Proofs
def cZz(s:ByteArray):Bool:=s.data.toList.all fun c=>decide (c.toNat<128)
def eKT(s:ByteArray):Bool:=cZz s&&decide (s.size<=2^40)
def eZf(n:Nd):Bool:=eKT n.name&&rr n.v.n
def gZQ(x:aJ):Bool:=x.on.all eZf&&x.bV.all eZf&&x.exprs.all (fun e=>e.all eZf)&&x.items.all (fun i=>i.e.all eZf)&&decide (x.exprs.length<=2^20)&&(!decide (x.kind=4)||decide (x.exprs.length=x.names.length))&&eKT x.group&&eKT x.order&&decide (x.items.length<=2^20)&&decide (x.names.length<=2^20)
theorem SF{s:ByteArray}(h:eKT s=true):Nm s:=by unfold eKT cZz at h;rw[mQG]at h;exact⟨oh.2 fun c hc=>mQB (mXf.1 h.1 c hc),mQB h.2⟩
theorem Mj{l:List Nd}(h:l.all eZf=true):iY l:=fun n hn=>by
 have:=mXf.1 h n hn;unfold eZf at this;rw[mQG]at this;exact⟨SF this.1,this.2⟩
theorem oL{x:aJ}(h:gZQ x=true):dr x:=by
 unfold gZQ at h;simp only[mQG]at h;obtain⟨⟨⟨⟨⟨⟨⟨⟨⟨h1,h2⟩,h3⟩,h4⟩,h5⟩,h6⟩,h7⟩,h8⟩,h9⟩,fL⟩:=h;refine⟨Mj h1,Mj h2,fun e he=>Mj (mXf.1 h3 e he),fun i hi=>Mj (mXf.1 h4 i hi),mQB h5,fun hk=>?_,SF h7,SF h8,mQB h9,mQB fL⟩;rw[mZQ]at h6;rcases h6 with h6|h6
 ·rw[mZm,decide_eq_false_iff_not]at h6;exact absurd hk h6
 ·exact mQB h6
theorem Lh{h:ad}{d:DB}{v:Value}(qd:ik h v d){n0:Nat}(ej:EJ n0 d)(jm:n0+700<2^18){t:ByteArray}(DC:bJ t=true){st:aJ}{pe:Int}(ig:cL ao t=(st,pe))(hx:dr st)(Gm:iE d 0 st){k:Value->ad->Prop}(hk:bJf h (iD d 0 st) k):
 Ct 23 [v,.string t] h k:=by
 obtain⟨A,hA⟩:=Ar.ex;obtain⟨a1,i1,j1,a2,i2,j2,a3,i3,j3,a4,i4,j4,rfl⟩:=qd.form;refine ah A (ax jKW.aK jKW.bF) Tryz.func23 rfl (by kernel_rfl) ?_;cbv;refine UH DC ig (fun h1 w l1 qs=>?_);have eKi:=qs;obtain⟨b5,n5,c5,b6,n6,c6,b7,n7,c7,b8,n8,c8,b9,n9,c9,gW,jD,gT,hw,-⟩:=eKi.out;subst hw;replace qs:aQG h1 _ st:=qs;have Jq:=qd.mono l1;clear ig;cbv;refine iJL Jq hx ej jm (by decide) Gm qs (fun h2 x1 m1 d1 x2 m2 d2 x3 m3 d3 x4 m4 d4 b n c l2 vh s2=>?_);have af:=hk h2 x1 m1 d1 x2 m2 d2 x3 m3 d3 x4 m4 d4 b n c (l1.trans l2) vh s2;generalize iD d 0 st=D at *;obtain⟨D1,DR,De⟩:=D;clear hk;cbv;exact af
theorem dZF{s:ByteArray}(h:cZz s=true)(hl:s.size<=2^30):UI s:=⟨oh.2 fun c hc=>mQB (mXf.1 h c hc),hl⟩
def iJR(d:DB):Bool:=d.az.all (fun t=>cZz t.S.name&&decide (t.S.name.size<=2^30)&&t.rows.all (fun r=>r.all fun v=>rr v.n))&&d.aq.all (fun w=>w.log.all fun c=>c.row.all fun v=>rr v.n)
theorem bQS{d:DB}(h:iJR d=true):ij fS UI d:=by
 unfold iJR at h;rw[mQG]at h;obtain⟨h1,h2⟩:=h;refine⟨fun t ht=>?_,fun t ht r hr v hv=>?_,fun w hw c hc v hv=>?_⟩
 ·have:=mXf.1 h1 t ht;simp only[mQG]at this;exact dZF this.1.1 (mQB this.1.2)
 ·have:=mXf.1 h1 t ht;simp only[mQG]at this;exact mXf.1 (mXf.1 this.2 r hr) v hv
 ·exact mXf.1 (mXf.1 (mXf.1 h2 w hw) c hc) v hv
theorem aXH:SJ 0 eY:=by
 have lXI:eC (dZ 0).S.name (dZ 1).S.name=-1:=by kernel_rfl
 have lXH:eC (dZ 0).S.name (dZ 2).S.name=-1:=by kernel_rfl
 have ZN:eC (dZ 1).S.name (dZ 2).S.name=-1:=by kernel_rfl
 have nR:∀t,(dZ t).S.cols=bp/\(dZ t).S.key=0/\SO (dZ t).rows:=fun t=>⟨rfl,rfl,SO.nil⟩;have nf:(dZ 0).S.name.size=2:=by kernel_rfl
 have lG:(dZ 1).S.name.size=2:=by kernel_rfl
 have mY:(dZ 2).S.name.size=2:=by kernel_rfl
 have hT:TW eY.az:=by
  refine⟨?_,fun t ht=>?_,by show(3:Nat)<=8;omega⟩
  ·show [dZ 0,dZ 1,dZ 2].Pairwise _;simp only[mXb,mQs,mZY,or_false,forall_eq_or_imp,forall_eq,List.Pairwise.nil,and_true,lXI,lXH,ZN,false_imp_iff,implies_true];decide
  ·have ht:t∈[dZ 0,dZ 1,dZ 2]:=ht;simp only[mQs,mZY,or_false]at ht;rcases ht with rfl|rfl|rfl
   ·exact⟨(nR 0).1,(nR 0).2.1,(nR 0).2.2,by omega⟩
   ·exact⟨(nR 1).1,(nR 1).2.1,(nR 1).2.2,by omega⟩
   ·exact⟨(nR 2).1,(nR 2).2.1,(nR 2).2.2,by omega⟩
 refine⟨⟨hT,List.Pairwise.nil,fun w hw=>(by cases hw),fun w hw=>(by cases hw),fun w hw=>(by cases hw),fun i j x y hi=>?_,fun x hx=>(by cases hx),fun x hx=>(by cases hx),fun w hw=>(by cases hw)⟩,fun w hw=>(by cases hw),mQt _,mQt _⟩;have hi:([]:List cg)[i]? =some x:=hi;simp at hi
theorem rE:EJ 0 eY:=⟨aXH,bQS (by kernel_rfl)⟩
theorem IP{n:Nat}{d:DB}(h:EJ n d)(hn:n<=2^17)(s:Int)(ha:iJR (dy d s).1=true):EJ n (dy d s).1:=⟨aXT h.sj (by omega) s,bQS ha⟩
def hKa:ByteArray:=(aM [115,101,108,101,99,116,32,99,111,117,110,116,40,42,41,32,102,114,111,109,32,116,97])
def Fu:aJ:=(cL ao hKa).1
theorem bKY:dr Fu:=oL (by kernel_rfl)
def eZk:DB:=(dy eY 1).1
theorem dJh:EJ 0 eZk:=IP rE (by decide) 1 (by kernel_rfl)
theorem bKX:dp Fu (gI (fH 1 (cQ Fu) eZk).1 Fu)=(⟨-1,-1,true⟩,0):=by kernel_rfl
theorem YF:Fu.kind=6:=by kernel_rfl
theorem aJz:∀i∈Fu.items,i.fn=1:=by
 have h:Fu.items.all (fun i=>decide (i.fn=1))=true:=by kernel_rfl
 exact fun i hi=>mQB (mXf.1 h i hi)
theorem YG:Fu.join=b0:=by kernel_rfl
theorem fQz:iE eZk 1 Fu:=iE.Kq YF (Hf YG (fun y hy=>by
 rw[bKX]at hy;cases hy;exact⟨fun _=>cKU (by decide) aJz,fun h=>absurd h (by decide)⟩))
theorem dJg:(iD eZk 1 Fu).2=([[⟨2,0,b0⟩]],0):=by kernel_rfl
theorem aJy:cL ao hKa=(Fu,(cL ao hKa).2):=rfl
theorem aJA:dy eY 1=(eZk,(dy eY 1).2):=rfl
theorem dJf(h:ad){d1:DB}{be:Int}(hd:dy eY 1=(d1,be)){st:aJ}{pe:Int}(DC:bJ ⟨#[115,101,108,101,99,116,32,99,111,117,110,116,40,42,41,32,102,114,111,109,32,116,97]⟩=true)(ig:cL ao ⟨#[115,101,108,101,99,116,32,99,111,117,110,116,40,42,41,32,102,114,111,109,32,116,97]⟩=(st,pe))(hx:dr st)(ej:EJ 0 d1)(Gm:iE d1 1 st){D1:DB}(hD:iD d1 1 st=(D1,[[⟨2,0,b0⟩]],0)):Ct 17 [] h (fun v h'=>Le h h'/\v=.bool true):=by
 obtain⟨A,hA⟩:=Ar.ex;obtain⟨DR,gKk⟩:∃DR:List Row,DR=[[⟨2,0,b0⟩]]:=⟨_,rfl⟩;rw[<-gKk]at hD;refine ah A (ax kQb.aK kQb.bF) Tryz.func17 rfl (by kernel_rfl) ?_;cbv;refine FZ (fun h1 b1 n1 c1 b2 n2 c2 b3 n3 c3 b4 n4 c4 jJl m1 e1 d2 m2 e2 d3 m3 e3 d4 m4 e4 l1 Jq _=>?_);cbv;refine uX Jq 1 (rE.sj.Ko.small (by decide)) hd (fun h2 b1 n1 c1 b2 n2 c2 b3 n3 c3 b4 n4 c4 l2 vh=>?_);replace vh:ik h2 (.agg #[.slice b1 n1 c1,.slice b2 n2 c2,.slice b3 n3 c3,.slice b4 n4 c4]) d1:=vh;cbv;refine UH DC ig (fun h3 w l3 qs=>?_);have eKi:=qs;obtain⟨b5,n5,c5,b6,n6,c6,b7,n7,c7,b8,n8,c8,b9,n9,c9,gW,jD,gT,hw,-⟩:=eKi.out;subst hw;replace qs:aQG h3 _ st:=qs;have Hq:=vh.mono l3;clear ig DC hd;cbv;refine iJL Hq hx ej (by decide) (by decide) Gm qs (fun h4 x1 m1 y1 x2 m2 y2 x3 m3 y3 x4 m4 y4 b n c l4 eXY s4=>?_);rw[hD]at s4 |-;replace s4:Sl 59 aD h4 (.slice b n c) DR:=s4;have hn:n=1:=by rw[s4.len,gKk];rfl
 subst hn;have hr:DR[0]? =some [⟨2,0,b0⟩]:=by rw[gKk];rfl
 have lt:Le h h4:=((l1.trans l2).trans l3).trans l4;have um:A .aI .eql 0 0=true:=by rw[aA A];rfl
 have f11:A .aI .eql (A .nat 1) 1=true:=by rw[aA A,hA.nat];rfl
 have RD:=s4.aT (by omega:0<1);clear Gm hx ej hD gKk;cbv;rw[um];cbv;rw[f11];cbv;refine⟨⟨RD,by decide⟩,?_⟩;cbv;refine bZ s4 hr rfl (fun b9 n9 c9 s9=>?_);have FG:n9=1:=s9.len;subst FG;cbv;rw[f11];cbv;refine⟨⟨RD,by decide⟩,?_⟩;cbv;refine bZ s4 hr rfl (fun b9 n9 c9 s9=>?_);have FG:n9=1:=s9.len;subst FG;cbv;refine⟨⟨s9.aT (by omega),by decide⟩,?_⟩;cbv;refine s9.load (i:=0) (x:=⟨2,0,b0⟩) rfl rfl (fun cs ay=>?_);replace ay:cs=[.int .i64 2,.int .i64 0,.string b0]:=ay;subst ay;cbv;refine⟨lt,?_⟩;exact congrArg Value.bool ((pA A ⟨2,0,aM []⟩ ⟨2,0,aM []⟩).trans (by kernel_rfl))
theorem qU(h:ad):Ct 17 [] h (fun v h'=>Le h h'/\v=.bool true):=by
 have jXL:=dJg;obtain⟨D,hD⟩:∃D,iD eZk 1 Fu=D:=⟨_,rfl⟩;rw[hD]at jXL;obtain⟨D1,DR,De⟩:=D;obtain⟨rfl,rfl⟩:DR=[[⟨2,0,b0⟩]]/\De=0:=by cases jXL;exact⟨rfl,rfl⟩
 exact dJf h aJA (by kernel_rfl) aJy bKY dJh fQz hD
theorem nk(a:Int)(n:Nat)(hn:0<n)(mY:n<=2^40)(h:ad){k:Value->ad->Prop}(hk:∀z i,aS z i->i=(a % (n:Int)).toNat->i<n->k (.int .i64 z) h):Ct 22 [.int .i64 a,.int .i64 (n:Int)] h k:=by
 obtain⟨A,hA⟩:=Ar.ex;obtain⟨m,hm⟩:∃m:Int,m=(n:Int):=⟨_,rfl⟩;rw[<-hm];have RF:m≠0:=by omega
 have Tq:A .bB .rem .i64 a m=a.tmod m:=by rw[hA.bB];rfl
 have lY:a.tmod m<m:=by have:=mJF a (show 0<m by omega);omega
 have jq:-m<a.tmod m:=by have:=mJE a (show 0<m by omega);omega
 have Qi:a % m=if a.tmod m<0 then a.tmod m+m else a.tmod m:=by
  rw[mJD];have h1:=mZB a RF;have h2:=mZA a (show 0<m by omega);by_cases hc:0<=a\/m ∣ a
  ·rw[if_pos hc];rw[if_neg (by omega)];omega
  ·rw[if_neg hc];have:(m.natAbs:Int)=m:=by omega
   rw[this,if_pos (by omega)];omega
 generalize ht:a.tmod m=t at *;generalize eu:A .aI .lss t 0=u;have fu:=eu;rw[bm A]at eu;have key:∀z:Int,z=a % m->k (.int .i64 z) h:=fun z hz=>by
  have h1:=mZB a RF;have h2:=mZA a (show 0<m by omega);refine hk z (a % (n:Int)).toNat ⟨?_⟩ rfl ?_
  ·rw[<-hm];omega
  ·rw[<-hm];omega
 have nW:t<0->A .bB .add .i64 t m=t+m:=fun h=>by
  rw[hA.bB];simp only[bB];rw[IntWalk.i64_in _ (by omega)]
 refine ah A (ax jKX.aK jKX.bF) Tryz.func22 rfl (by kernel_rfl) ?_;cbv;refine⟨RF,?_⟩;cbv;rw[Tq];rw[fu];cases u with
 |true=>have Bb:=mQB eu;have sJ:=key (t+m) (by rw[Qi,if_pos Bb]);cbv;rw[nW Bb];exact sJ
 |false=>have Bb:=mQI eu;have sJ:=key t (by rw[Qi,if_neg Bb]);cbv;exact sJ
theorem sZ{e:Nat}{h:ad}{n:Nat}{l:List ByteArray}(hb:h n=some (.cells (List.toArray (l.map Value.string)) e (0,0)))(hl:l.length<=2^40):Sl e dX h (.slice (some ⟨n,0,none⟩) l.length l.length) l:=by refine Sl.fresh (s:=dX) (h:=h) (n:=n) (xs:=l) (cap:=l.length) (c:=l.map Value.string) hb ⟨by show 0+l.length*1<=_;simp,fun i x hx=>?_⟩ hl (mQt _);show((l.map Value.string).drop (0+i*1)).take 1=[.string x];obtain⟨h1,h2⟩:=HH.1 hx;rw[mQY,mZt,mQy (by simpa using h1)];simp[h2]
end Go.S
