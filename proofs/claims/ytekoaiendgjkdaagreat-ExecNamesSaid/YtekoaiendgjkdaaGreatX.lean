import Derived.Test.YtekoaiendgjkdaaGreatQG
import Derived.Test.YtekoaiendgjkdaaGreatVB
import Derived.Test.YtekoaiendgjkdaaGreatNA
import Derived.Test.YtekoaiendgjkdaaGreatEC
import Derived.Test.YtekoaiendgjkdaaGreatEB
set_option linter.unusedVariables false
set_option linter.unusedSimpArgs false
set_option linter.unusedSectionVars false
set_option maxRecDepth 100000
set_option maxHeartbeats 8000000
namespace Go.S
open Go.Sx Go.Proofs
def Oa(s:ByteArray):Bool:=s.data.toList.all fun c=>decide (c.toNat<128)
def Vt(s:ByteArray):Bool:=Oa s&&decide (s.size<=2^40)
def TK(n:Nd):Bool:=Vt n.name&&mR n.v.n
def stB(x:aB):Bool:=x.on.all TK&&x.bB.all TK&&x.exprs.all (fun e=>e.all TK)&&x.items.all (fun i=>i.e.all TK)&&decide (x.exprs.length<=2^20)&&(!decide (x.kind=4)||decide (x.exprs.length=x.names.length))&&Vt x.group&&Vt x.order&&decide (x.items.length<=2^20)&&decide (x.names.length<=2^20)
theorem BZ{s:ByteArray}(h:Vt s=true):Nm s:=by unfold Vt Oa at h;rw[Bool.and_eq_true]at h;exact⟨ud.2 fun c hc=>of_decide_eq_true (List.all_eq_true.1 h.1 c hc),of_decide_eq_true h.2⟩
theorem yy{l:List Nd}(h:l.all TK=true):rK l:=fun n hn=>by
 have:=List.all_eq_true.1 h n hn;unfold TK at this;rw[Bool.and_eq_true]at this;exact⟨BZ this.1,this.2⟩
theorem Hr{x:aB}(h:stB x=true):eO x:=by
 unfold stB at h;simp only[Bool.and_eq_true]at h;obtain⟨⟨⟨⟨⟨⟨⟨⟨⟨h1,h2⟩,h3⟩,h4⟩,h5⟩,h6⟩,h7⟩,h8⟩,h9⟩,fh⟩:=h;refine⟨yy h1,yy h2,fun e he=>yy (List.all_eq_true.1 h3 e he),fun i hi=>yy (List.all_eq_true.1 h4 i hi),of_decide_eq_true h5,fun hk=>?_,BZ h7,BZ h8,of_decide_eq_true h9,of_decide_eq_true fh⟩;rw[Bool.or_eq_true]at h6;rcases h6 with h6|h6
 ·rw[Bool.not_eq_true',decide_eq_false_iff_not]at h6;exact absurd hk h6
 ·exact of_decide_eq_true h6
theorem doT{h:ad}{d:DB}{v:Value}(qd:fP h v d){n0:Nat}(ej:EJ n0 d)(iq:n0+700<2^18){t:ByteArray}(DJ:kA t=true){st:aB}{pe:Int}(jj:km aj t=(st,pe))(hx:eO st)(M3:Gh d 0 st){k:Value->ad->Prop}(hk:Lp h (rQ d 0 st) k):
 Ct 23 [v,.string t] h k:=by
 obtain⟨A,hA⟩:=Ar.ex;obtain⟨a1,i1,j1,a2,i2,j2,a3,i3,j3,a4,i4,j4,rfl⟩:=qd.form;refine ah A (aq T23.ax T23.bm) Tryz.func23 rfl (by kernel_rfl) ?_;cbv;refine Ku DJ jj (fun h1 w l1 qs=>?_);have qs':=qs;obtain⟨b5,n5,c5,b6,n6,c6,b7,n7,c7,b8,n8,c8,b9,n9,c9,eQ,fJ,eP,hw,-⟩:=qs'.out;subst hw;replace qs:PL h1 _ st:=qs;have wC:=qd.mono l1;clear jj;cbv;refine doC wC hx ej iq (by decide) M3 qs (fun h2 x1 m1 d1 x2 m2 d2 x3 m3 d3 x4 m4 d4 b n c l2 Qk s2=>?_);have af:=hk h2 x1 m1 d1 x2 m2 d2 x3 m3 d3 x4 m4 d4 b n c (l1.trans l2) Qk s2;generalize rQ d 0 st=D at *;obtain⟨D1,DR,De⟩:=D;clear hk;cbv;exact af
theorem QG{s:ByteArray}(h:Oa s=true)(hl:s.size<=2^30):CY s:=⟨ud.2 fun c hc=>of_decide_eq_true (List.all_eq_true.1 h c hc),hl⟩
def dbB(d:DB):Bool:=d.aK.all (fun t=>Oa t.S.name&&decide (t.S.name.size<=2^30)&&t.rows.all (fun r=>r.all fun v=>mR v.n))&&d.au.all (fun w=>w.log.all fun c=>c.row.all fun v=>mR v.n)
theorem JT{d:DB}(h:dbB d=true):eV eD CY d:=by
 unfold dbB at h;rw[Bool.and_eq_true]at h;obtain⟨h1,h2⟩:=h;refine⟨fun t ht=>?_,fun t ht r hr v hv=>?_,fun w hw c hc v hv=>?_⟩
 ·have:=List.all_eq_true.1 h1 t ht;simp only[Bool.and_eq_true]at this;exact QG this.1.1 (of_decide_eq_true this.1.2)
 ·have:=List.all_eq_true.1 h1 t ht;simp only[Bool.and_eq_true]at this;exact List.all_eq_true.1 (List.all_eq_true.1 this.2 r hr) v hv
 ·exact List.all_eq_true.1 (List.all_eq_true.1 (List.all_eq_true.1 h2 w hw) c hc) v hv
theorem Hq:SJ 0 dS:=by
 have c01:eI (dR 0).S.name (dR 1).S.name=-1:=by kernel_rfl
 have c02:eI (dR 0).S.name (dR 2).S.name=-1:=by kernel_rfl
 have NX:eI (dR 1).S.name (dR 2).S.name=-1:=by kernel_rfl
 have jD:∀t,(dR t).S.cols=cJ/\(dR t).S.key=0/\SO (dR t).rows:=fun t=>⟨rfl,rfl,SO.nil⟩;have jU:(dR 0).S.name.size=2:=by kernel_rfl
 have oL:(dR 1).S.name.size=2:=by kernel_rfl
 have ng:(dR 2).S.name.size=2:=by kernel_rfl
 have hT:TW dS.aK:=by
  refine⟨?_,fun t ht=>?_,by show(3:Nat)<=8;omega⟩
  ·show [dR 0,dR 1,dR 2].Pairwise _;simp only[List.pairwise_cons,List.mem_cons,List.not_mem_nil,or_false,forall_eq_or_imp,forall_eq,List.Pairwise.nil,and_true,c01,c02,NX,false_imp_iff,implies_true];decide
  ·have ht:t∈[dR 0,dR 1,dR 2]:=ht;simp only[List.mem_cons,List.not_mem_nil,or_false]at ht;rcases ht with rfl|rfl|rfl
   ·exact⟨(jD 0).1,(jD 0).2.1,(jD 0).2.2,by omega⟩
   ·exact⟨(jD 1).1,(jD 1).2.1,(jD 1).2.2,by omega⟩
   ·exact⟨(jD 2).1,(jD 2).2.1,(jD 2).2.2,by omega⟩
 refine⟨⟨hT,List.Pairwise.nil,fun w hw=>(by cases hw),fun w hw=>(by cases hw),fun w hw=>(by cases hw),fun i j x y hi=>?_,fun x hx=>(by cases hx),fun x hx=>(by cases hx),fun w hw=>(by cases hw)⟩,fun w hw=>(by cases hw),Nat.le_refl _,Nat.le_refl _⟩;have hi:([]:List bP)[i]? =some x:=hi;simp at hi
theorem pX:EJ 0 dS:=⟨Hq,JT (by kernel_rfl)⟩
theorem A8{n:Nat}{d:DB}(h:EJ n d)(hn:n<=2^17)(s:Int)(ha:dbB (dX d s).1=true):EJ n (dX d s).1:=⟨Hw h.sj (by omega) s,JT ha⟩
def knT:ByteArray:=(aC [115,101,108,101,99,116,32,99,111,117,110,116,40,42,41,32,102,114,111,109,32,116,97])
def wE:aB:=(km aj knT).1
theorem Mw:eO wE:=Hr (by kernel_rfl)
def TS:DB:=(dX dS 1).1
theorem Q0:EJ 0 TS:=A8 pX (by decide) 1 (by kernel_rfl)
theorem Mv:dx wE (dY (dm 1 (bK wE) TS).1 wE)=(⟨-1,-1,true⟩,0):=by kernel_rfl
theorem Iw:∀i∈wE.items,i.fn=1:=by
 have h:wE.items.all (fun i=>decide (i.fn=1))=true:=by kernel_rfl
 exact fun i hi=>of_decide_eq_true (List.all_eq_true.1 h i hi)
theorem VN:Gh TS 1 wE:=⟨fun _ y hy=>by
 rw[Mv]at hy;cases hy;exact⟨by decide,fun _=>⟨by decide,Iw⟩⟩⟩
theorem QZ:(rQ TS 1 wE).2=([[⟨2,0,b0⟩]],0):=by kernel_rfl
theorem Iv:km aj knT=(wE,(km aj knT).2):=rfl
theorem Ix:dX dS 1=(TS,(dX dS 1).2):=rfl
theorem QY(h:ad){d1:DB}{be:Int}(hd:dX dS 1=(d1,be)){st:aB}{pe:Int}(DJ:kA ⟨#[115,101,108,101,99,116,32,99,111,117,110,116,40,42,41,32,102,114,111,109,32,116,97]⟩=true)(jj:km aj ⟨#[115,101,108,101,99,116,32,99,111,117,110,116,40,42,41,32,102,114,111,109,32,116,97]⟩=(st,pe))(hx:eO st)(ej:EJ 0 d1)(M3:Gh d1 1 st){D1:DB}(hD:rQ d1 1 st=(D1,[[⟨2,0,b0⟩]],0)):Ct 17 [] h (fun v h'=>Le h h'/\v=.bool true):=by
 obtain⟨A,hA⟩:=Ar.ex;obtain⟨DR,hDR⟩:∃DR:List Row,DR=[[⟨2,0,b0⟩]]:=⟨_,rfl⟩;rw[<-hDR]at hD;refine ah A (aq T17.ax T17.bm) Tryz.func17 rfl (by kernel_rfl) ?_;cbv;refine Dh (fun h1 b1 n1 c1 b2 n2 c2 b3 n3 c3 b4 n4 c4 d1' m1 e1 d2 m2 e2 d3 m3 e3 d4 m4 e4 l1 wC _=>?_);cbv;refine rG wC 1 (pX.sj.zs.small (by decide)) hd (fun h2 b1 n1 c1 b2 n2 c2 b3 n3 c3 b4 n4 c4 l2 Qk=>?_);replace Qk:fP h2 (.agg #[.slice b1 n1 c1,.slice b2 n2 c2,.slice b3 n3 c3,.slice b4 n4 c4]) d1:=Qk;cbv;refine Ku DJ jj (fun h3 w l3 qs=>?_);have qs':=qs;obtain⟨b5,n5,c5,b6,n6,c6,b7,n7,c7,b8,n8,c8,b9,n9,c9,eQ,fJ,eP,hw,-⟩:=qs'.out;subst hw;replace qs:PL h3 _ st:=qs;have Vd:=Qk.mono l3;clear jj DJ hd;cbv;refine doC Vd hx ej (by decide) (by decide) M3 qs (fun h4 x1 m1 y1 x2 m2 y2 x3 m3 y3 x4 m4 y4 b n c l4 TF s4=>?_);rw[hD]at s4 |-;replace s4:Sl 59 az h4 (.slice b n c) DR:=s4;have hn:n=1:=by rw[s4.len,hDR];rfl
 subst hn;have hr:DR[0]? =some [⟨2,0,b0⟩]:=by rw[hDR];rfl
 have lt:Le h h4:=((l1.trans l2).trans l3).trans l4;have JF:A .aF .eql 0 0=true:=by rw[aw A];rfl
 have f11:A .aF .eql (A .nat 1) 1=true:=by rw[aw A,hA.nat];rfl
 have O0:=s4.bF (by omega:0<1);clear M3 hx ej hD hDR;cbv;rw[JF];cbv;rw[f11];cbv;refine⟨⟨O0,by decide⟩,?_⟩;cbv;refine nL s4 hr rfl (fun b9 n9 c9 s9=>?_);have RF:n9=1:=s9.len;subst RF;cbv;rw[f11];cbv;refine⟨⟨O0,by decide⟩,?_⟩;cbv;refine nL s4 hr rfl (fun b9 n9 c9 s9=>?_);have RF:n9=1:=s9.len;subst RF;cbv;refine⟨⟨s9.bF (by omega),by decide⟩,?_⟩;cbv;refine s9.load (i:=0) (x:=⟨2,0,b0⟩) rfl rfl (fun cs aJ=>?_);replace aJ:cs=[.int .i64 2,.int .i64 0,.string b0]:=aJ;subst aJ;cbv;refine⟨lt,?_⟩;exact congrArg Value.bool ((DY A ⟨2,0,aC []⟩ ⟨2,0,aC []⟩).trans (by kernel_rfl))
theorem Mu(h:ad):Ct 17 [] h (fun v h'=>Le h h'/\v=.bool true):=by
 have hko:=QZ;obtain⟨D,hD⟩:∃D,rQ TS 1 wE=D:=⟨_,rfl⟩;rw[hD]at hko;obtain⟨D1,DR,De⟩:=D;obtain⟨rfl,rfl⟩:DR=[[⟨2,0,b0⟩]]/\De=0:=by cases hko;exact⟨rfl,rfl⟩
 exact QY h Ix (by kernel_rfl) Iv Mw Q0 VN hD
theorem GQ(a:Int)(n:Nat)(hn:0<n)(ng:n<=2^40)(h:ad){k:Value->ad->Prop}(hk:∀z i,aP z i->i=(a % (n:Int)).toNat->i<n->k (.int .i64 z) h):Ct 22 [.int .i64 a,.int .i64 (n:Int)] h k:=by
 obtain⟨A,hA⟩:=Ar.ex;obtain⟨m,hm⟩:∃m:Int,m=(n:Int):=⟨_,rfl⟩;rw[<-hm];have RI:m≠0:=by omega
 have hrem:A .bA .rem .i64 a m=a.tmod m:=by rw[hA.bA];rfl
 have ju:a.tmod m<m:=by have:=Int.tmod_lt_of_pos a (show 0<m by omega);omega
 have iu:-m<a.tmod m:=by have:=Int.lt_tmod_of_pos a (show 0<m by omega);omega
 have Pd:a % m=if a.tmod m<0 then a.tmod m+m else a.tmod m:=by
  rw[Int.tmod_eq_emod];have h1:=Int.emod_nonneg a RI;have h2:=Int.emod_lt_of_pos a (show 0<m by omega);by_cases hc:0<=a\/m ∣ a
  ·rw[if_pos hc];rw[if_neg (by omega)];omega
  ·rw[if_neg hc];have:(m.natAbs:Int)=m:=by omega
   rw[this,if_pos (by omega)];omega
 generalize ht:a.tmod m=t at *;generalize eu:A .aF .lss t 0=u;have fu:=eu;rw[bC A]at eu;have key:∀z:Int,z=a % m->k (.int .i64 z) h:=fun z hz=>by
  have h1:=Int.emod_nonneg a RI;have h2:=Int.emod_lt_of_pos a (show 0<m by omega);refine hk z (a % (n:Int)).toNat ⟨?_⟩ rfl ?_
  ·rw[<-hm];omega
  ·rw[<-hm];omega
 have CF:t<0->A .bA .add .i64 t m=t+m:=fun h=>by
  rw[hA.bA];simp only[bA];rw[IntWalk.i64_in _ (by omega)]
 refine ah A (aq T22.ax T22.bm) Tryz.func22 rfl (by kernel_rfl) ?_;cbv;refine⟨RI,?_⟩;cbv;rw[hrem];rw[fu];cases u with
 |true=>have MS:=of_decide_eq_true eu;have pT:=key (t+m) (by rw[Pd,if_pos MS]);cbv;rw[CF MS];exact pT
 |false=>have MS:=of_decide_eq_false eu;have pT:=key t (by rw[Pd,if_neg MS]);cbv;exact pT
theorem LI{e:Nat}{h:ad}{n:Nat}{l:List ByteArray}(hb:h n=some (.cells (List.toArray (l.map Value.string)) e (0,0)))(hl:l.length<=2^40):Sl e cj h (.slice (some ⟨n,0,none⟩) l.length l.length) l:=by refine Sl.fresh (s:=cj) (h:=h) (n:=n) (xs:=l) (cap:=l.length) (c:=l.map Value.string) hb ⟨by show 0+l.length*1<=_;simp,fun i x hx=>?_⟩ hl (Nat.le_refl _);show((l.map Value.string).drop (0+i*1)).take 1=[.string x];obtain⟨h1,h2⟩:=List.getElem?_eq_some_iff.1 hx;rw[Nat.zero_add,Nat.mul_one,List.drop_eq_getElem_cons (by simpa using h1)];simp[h2]
theorem Mz{e:Nat}{h:ad}{n:Nat}{l:List Int}(hb:h n=some (.cells (List.toArray (l.map (Value.int .i64))) e (0,0)))(hl:l.length<=2^40):Sl e dD h (.slice (some ⟨n,0,none⟩) l.length l.length) l:=by refine Sl.fresh (s:=dD) (h:=h) (n:=n) (xs:=l) (cap:=l.length) (c:=l.map (Value.int .i64)) hb ⟨by show 0+l.length*1<=_;simp,fun i x hx=>?_⟩ hl (Nat.le_refl _);show((l.map (Value.int .i64)).drop (0+i*1)).take 1=[.int .i64 x];obtain⟨h1,h2⟩:=List.getElem?_eq_some_iff.1 hx;rw[Nat.zero_add,Nat.mul_one,List.drop_eq_getElem_cons (by simpa using h1)];simp[h2]
def doB(d:DB)(s:Int)(st:aB):Bool:= !decide (st.kind=6)||(match dx st (dY (dm s (bK st) d).1 st)with
 | (y,e)=>decide (e≠0)||(decide (y.order<0)&&(!y.kU||(decide (y.group<0)&&st.items.all fun i=>decide (i.fn=1)))))
theorem S6{d:DB}{s:Int}{st:aB}(h:doB d s st=true):Gh d s st:=⟨fun h6 y hy=>by
 unfold doB at h;rw[hy,decide_eq_true h6]at h;simp only[Bool.not_true,Bool.false_or,Bool.or_eq_true,Bool.and_eq_true,decide_eq_true_eq]at h;rcases h with h| ⟨h1,h2⟩
 ·exact absurd rfl h
 ·refine⟨h1,fun hg=>?_⟩;rw[hg]at h2;rcases h2 with h2| ⟨h2,h3⟩
  ·cases h2
  ·exact⟨h2,fun i hi=>of_decide_eq_true (List.all_eq_true.1 h3 i hi)⟩⟩
def TJ:List ByteArray:=[⟨#[115,101,108,101,99,116,32,42,32,102,114,111,109,32,122,122]⟩,⟨#[115,101,108,101,99,116,32,99,32,102,114,111,109,32,116,97]⟩,⟨#[100,101,108,101,116,101,32,102,114,111,109,32,122,122]⟩,⟨#[117,112,100,97,116,101,32,116,97,32,115,101,116,32,99,32,61,32,49]⟩,⟨#[117,112,100,97,116,101,32,116,97,32,115,101,116,32,97,32,61,32,99]⟩,⟨#[105,110,115,101,114,116,32,105,110,116,111,32,122,122,32,118,97,108,117,101,115,32,40,49,41]⟩,⟨#[115,101,108,101,99,116,32,97,32,102,114,111,109,32,116,97,32,111,114,100,101,114,32,98,121,32,99]⟩,⟨#[115,101,108,101,99,116,32,42,32,102,114,111,109,32,116,97,32,106,111,105,110,32,122,122,32,111,110,32,116,114,117,101]⟩,⟨#[115,101,108,101,99,116,32,97,32,102,114,111,109,32,116,97,32,106,111,105,110,32,116,98,32,111,110,32,116,97,46,97,32,61,32,116,98,46,97]⟩,⟨#[117,112,100,97,116,101,32,116,97,32,115,101,116,32,97,32,61,32,49,44,32,97,32,61,32,50]⟩]
def TI:List Int:=[2,2,2,2,2,2,2,2,12,7]
def TU:DB:=(dX dS 0).1
theorem Q1:EJ 0 TU:=A8 pX (by decide) 0 (by kernel_rfl)
theorem E3:dX dS 0=(TU,(dX dS 0).2):=rfl
def nmC(p:ByteArray×Int):Bool:=kA p.1&&stB (km aj p.1).1&&doB TU 0 (km aj p.1).1&&decide ((rQ TU 0 (km aj p.1).1).2.1.length=0)&&decide ((rQ TU 0 (km aj p.1).1).2.2=p.2)
theorem QF:(TJ.zip TI).all nmC=true:=by kernel_rfl
theorem QI(a:Int)(h:ad){d1:DB}{be:Int}(hd:dX dS 0=(d1,be))(ej:EJ 0 d1)
 (aM:∀t w,(t,w)∈TJ.zip TI->∃st pe D1,kA t=true/\km aj t=(st,pe)/\eO st/\Gh d1 0 st/\rQ d1 0 st=(D1,[],w)):Ct 12 [.int .i64 a] h (fun v h'=>Le h h'/\v=.bool true):=by
 obtain⟨A,hA⟩:=Ar.ex;have Nz:A .not true=false:=by rw[hA.not];rfl
 refine ah A (aq T12.ax T12.bm) Tryz.func12 rfl (by kernel_rfl) ?_;cbv;refine(Mu h).mono (fun v h1 hR=>?_);obtain⟨l1,hv⟩:=hR;subst hv;cbv;rw[Nz];cbv;refine Dh (fun h2 b1 n1 c1 b2 n2 c2 b3 n3 c3 b4 n4 c4 d1' m1 e1 d2 m2 e2 d3 m3 e3 d4 m4 e4 l2 Qk _=>?_);cbv;refine rG Qk 0 (pX.sj.zs.small (by decide)) hd (fun h3 b1 n1 c1 b2 n2 c2 b3 n3 c3 b4 n4 c4 l3 Vd=>?_);replace Vd:fP h3 (.agg #[.slice b1 n1 c1,.slice b2 n2 c2,.slice b3 n3 c3,.slice b4 n4 c4]) d1:=Vd;clear hd;cbv;refine GQ a 10 (by decide) (by decide) h3 (fun z i hz _ hi=>?_);cbv;intro nb h4 f4 e4;have l4:Le h3 h4:=by rw[e4];exact Le.set f4
 have s4:Sl 9 cj h4 (.slice (some ⟨nb,0,none⟩) 10 10) TJ:=LI (l:=TJ) ((congrFun e4 nb).trans ae) (by decide);clear e4;have cy:0<=z/\z<((10:Nat):Int):=hz.ix hi;have eX:=hz.eq;obtain⟨t,ht⟩:=aD (xs:=TJ) (i:=i) hi;obtain⟨w,hw⟩:=aD (xs:=TI) (i:=i) hi;have IS:(t,w)∈TJ.zip TI:=List.mem_of_getElem? (List.getElem?_zip_eq_some.2 ⟨ht,hw⟩);obtain⟨st,pe,D1,DJ,jj,hx,M3,hD⟩:=aM t w IS;clear aM IS;cbv;refine⟨⟨rfl,cy⟩,?_⟩;cbv;refine s4.load ht eX (fun cs aJ=>?_);replace aJ:cs=[.string t]:=aJ;subst aJ;cbv;intro eb h5 f5 e5;have l5:Le h4 h5:=by rw[e5];exact Le.set f5
 have s5:Sl 35 dD h5 (.slice (some ⟨eb,0,none⟩) 10 10) TI:=Mz (l:=TI) ((congrFun e5 eb).trans ae) (by decide);clear e5;cbv;refine⟨⟨rfl,cy⟩,?_⟩;cbv;refine s5.load hw eX (fun cs aJ=>?_);replace aJ:cs=[.int .i64 w]:=aJ;subst aJ;cbv;refine doT (Vd.mono (l4.trans l5)) ej (by decide) DJ jj hx M3 (fun h6 x1 m1 y1 x2 m2 y2 x3 m3 y3 x4 m4 y4 b n c l6 TE s6=>?_);rw[hD]at s6 |-;replace s6:Sl 59 az h6 (.slice b n c) []:=s6;have hn:n=0:=s6.len;subst hn;have lt:Le h h6:=((((l1.trans l2).trans l3).trans l4).trans l5).trans l6;have JF:A .aF .eql w w=true:=by rw[aw A];simp
 have f10:A .aF .eql (A .nat 0) 0=true:=by rw[aw A,hA.nat];rfl
 clear M3 hx ej hD jj DJ;cbv;rw[JF];cbv;rw[f10];exact⟨lt,rfl⟩
theorem Mi(a:Int)(h:ad):Ct 12 [.int .i64 a] h (fun v h'=>Le h h'/\v=.bool true):=by refine QI a h E3 Q1 (fun t w hm=>?_);have hc:=List.all_eq_true.1 QF (t,w) hm;unfold nmC at hc;simp only[Bool.and_eq_true,decide_eq_true_eq]at hc;obtain⟨⟨⟨⟨h1,h2⟩,h3⟩,h4⟩,h5⟩:=hc;obtain⟨D,hD⟩:∃D,rQ TU 0 (km aj t).1=D:=⟨_,rfl⟩;rw[hD]at h4 h5;obtain⟨D1,DR,De⟩:=D;obtain rfl:DR=[]:=List.length_eq_zero_iff.1 h4;replace h5:De=w:=h5;subst h5;exact⟨_,_,D1,h1,rfl,Hr h2,S6 h3,hD⟩
end Go.S
