import Derived.Test.YtekoaiendgjkdaaGreatQG
import Derived.Test.YtekoaiendgjkdaaGreatVB
import Derived.Test.YtekoaiendgjkdaaGreatNA
import Derived.Test.YtekoaiendgjkdaaGreatEC
import Derived.Test.YtekoaiendgjkdaaGreatQF
import Derived.Test.YtekoaiendgjkdaaGreatEB
set_option linter.unusedVariables false
set_option linter.unusedSimpArgs false
set_option linter.unusedSectionVars false
set_option maxRecDepth 100000
set_option maxHeartbeats 8000000
namespace Go.S
open Go.Sx Go.Proofs
def Mr(s:ByteArray):Bool:=s.data.toList.all fun c=>decide (c.toNat<128)
def SW(s:ByteArray):Bool:=Mr s&&decide (s.size<=2^40)
def Rw(n:Nd):Bool:=SW n.name&&lV n.v.n
def stB(x:aA):Bool:=x.on.all Rw&&x.bT.all Rw&&x.exprs.all (fun e=>e.all Rw)&&x.items.all (fun i=>i.e.all Rw)&&decide (x.exprs.length<=2^20)&&(!decide (x.kind=4)||decide (x.exprs.length=x.names.length))&&SW x.group&&SW x.order&&decide (x.items.length<=2^20)&&decide (x.names.length<=2^20)
theorem A0{s:ByteArray}(h:SW s=true):Nm s:=by unfold SW Mr at h;rw[Bool.and_eq_true]at h;exact⟨nV.2 fun c hc=>of_decide_eq_true (List.all_eq_true.1 h.1 c hc),of_decide_eq_true h.2⟩
theorem xw{l:List Nd}(h:l.all Rw=true):nD l:=fun n hn=>by
 have:=List.all_eq_true.1 h n hn;unfold Rw at this;rw[Bool.and_eq_true]at this;exact⟨A0 this.1,this.2⟩
theorem Oe{x:aA}(h:stB x=true):gy x:=by
 unfold stB at h;simp only[Bool.and_eq_true]at h;obtain⟨⟨⟨⟨⟨⟨⟨⟨⟨h1,h2⟩,h3⟩,h4⟩,h5⟩,h6⟩,h7⟩,h8⟩,h9⟩,lz⟩:=h;refine⟨xw h1,xw h2,fun e he=>xw (List.all_eq_true.1 h3 e he),fun i hi=>xw (List.all_eq_true.1 h4 i hi),of_decide_eq_true h5,fun hk=>?_,A0 h7,A0 h8,of_decide_eq_true h9,of_decide_eq_true lz⟩;rw[Bool.or_eq_true]at h6;rcases h6 with h6|h6
 ·rw[Bool.not_eq_true',decide_eq_false_iff_not]at h6;exact absurd hk h6
 ·exact of_decide_eq_true h6
theorem doT{h:ad}{d:DB}{v:Value}(qd:gA h v d){n0:Nat}(ej:EJ n0 d)(kT:n0+700<2^18){t:ByteArray}(yl:gT t=true){st:aA}{pe:Int}(j7:ki ai t=(st,pe))(hx:gy st)(ET:uS d 0 st){k:Value->ad->Prop}(hk:JC h (ny d 0 st) k):
 Ct 23 [v,.string t] h k:=by
 obtain⟨A,hA⟩:=Ar.ex;obtain⟨a1,i1,j1,a2,i2,j2,a3,i3,j3,a4,i4,j4,rfl⟩:=qd.form;refine af A (ar T23.aw T23.aZ) Tryz.func23 rfl (by kernel_rfl) ?_;cbv;refine IY yl j7 (fun h1 w l1 qs=>?_);have qs':=qs;obtain⟨b5,n5,c5,b6,n6,c6,b7,n7,c7,b8,n8,c8,b9,n9,c9,fJ,iq,fI,hw,-⟩:=qs'.out;subst hw;replace qs:N0 h1 _ st:=qs;have yL:=qd.mono l1;clear j7;cbv;refine doC yL hx ej kT (by decide) ET qs (fun h2 x1 m1 d1 x2 m2 d2 x3 m3 d3 x4 m4 d4 b n c l2 Oy s2=>?_);have ae:=hk h2 x1 m1 d1 x2 m2 d2 x3 m3 d3 x4 m4 d4 b n c (l1.trans l2) Oy s2;generalize ny d 0 st=D at *;obtain⟨D1,DR,De⟩:=D;clear hk;cbv;exact ae
theorem OR{s:ByteArray}(h:Mr s=true)(hl:s.size<=2^30):I0 s:=⟨nV.2 fun c hc=>of_decide_eq_true (List.all_eq_true.1 h c hc),hl⟩
def dbB(d:DB):Bool:=d.aB.all (fun t=>Mr t.S.name&&decide (t.S.name.size<=2^30)&&t.rows.all (fun r=>r.all fun v=>lV v.n))&&d.aq.all (fun w=>w.log.all fun c=>c.row.all fun v=>lV v.n)
theorem Ij{d:DB}(h:dbB d=true):fq iF I0 d:=by
 unfold dbB at h;rw[Bool.and_eq_true]at h;obtain⟨h1,h2⟩:=h;refine⟨fun t ht=>?_,fun t ht r hr v hv=>?_,fun w hw c hc v hv=>?_⟩
 ·have:=List.all_eq_true.1 h1 t ht;simp only[Bool.and_eq_true]at this;exact OR this.1.1 (of_decide_eq_true this.1.2)
 ·have:=List.all_eq_true.1 h1 t ht;simp only[Bool.and_eq_true]at this;exact List.all_eq_true.1 (List.all_eq_true.1 this.2 r hr) v hv
 ·exact List.all_eq_true.1 (List.all_eq_true.1 (List.all_eq_true.1 h2 w hw) c hc) v hv
theorem FF:SJ 0 dY:=by
 have c01:eG (cI 0).S.name (cI 1).S.name=-1:=by kernel_rfl
 have c02:eG (cI 0).S.name (cI 2).S.name=-1:=by kernel_rfl
 have Vm:eG (cI 1).S.name (cI 2).S.name=-1:=by kernel_rfl
 have jh:∀t,(cI t).S.cols=bl/\(cI t).S.key=0/\SO (cI t).rows:=fun t=>⟨rfl,rfl,SO.nil⟩;have jz:(cI 0).S.name.size=2:=by kernel_rfl
 have nh:(cI 1).S.name.size=2:=by kernel_rfl
 have mK:(cI 2).S.name.size=2:=by kernel_rfl
 have hT:TW dY.aB:=by
  refine⟨?_,fun t ht=>?_,by show(3:Nat)<=8;omega⟩
  ·show [cI 0,cI 1,cI 2].Pairwise _;simp only[List.pairwise_cons,List.mem_cons,List.not_mem_nil,or_false,forall_eq_or_imp,forall_eq,List.Pairwise.nil,and_true,c01,c02,Vm,false_imp_iff,implies_true];decide
  ·have ht:t∈[cI 0,cI 1,cI 2]:=ht;simp only[List.mem_cons,List.not_mem_nil,or_false]at ht;rcases ht with rfl|rfl|rfl
   ·exact⟨(jh 0).1,(jh 0).2.1,(jh 0).2.2,by omega⟩
   ·exact⟨(jh 1).1,(jh 1).2.1,(jh 1).2.2,by omega⟩
   ·exact⟨(jh 2).1,(jh 2).2.1,(jh 2).2.2,by omega⟩
 refine⟨⟨hT,List.Pairwise.nil,fun w hw=>(by cases hw),fun w hw=>(by cases hw),fun w hw=>(by cases hw),fun i j x y hi=>?_,fun x hx=>(by cases hx),fun x hx=>(by cases hx),fun w hw=>(by cases hw)⟩,fun w hw=>(by cases hw),Nat.le_refl _,Nat.le_refl _⟩;have hi:([]:List bK)[i]? =some x:=hi;simp at hi
theorem pk:EJ 0 dY:=⟨FF,Ij (by kernel_rfl)⟩
theorem Af{n:Nat}{d:DB}(h:EJ n d)(hn:n<=2^17)(s:Int)(ha:dbB (ed d s).1=true):EJ n (ed d s).1:=⟨FK h.sj (by omega) s,Ij ha⟩
def knT:ByteArray:=(au [115,101,108,101,99,116,32,99,111,117,110,116,40,42,41,32,102,114,111,109,32,116,97])
def rS:aA:=(ki ai knT).1
theorem KA:gy rS:=Oe (by kernel_rfl)
def RG:DB:=(ed dY 1).1
theorem Pa:EJ 0 RG:=Af pk (by decide) 1 (by kernel_rfl)
theorem Kz:eQ rS (gQ (dF 1 (cF rS) RG).1 rS)=(⟨-1,-1,true⟩,0):=by kernel_rfl
theorem DQ:rS.kind=6:=by kernel_rfl
theorem GO:∀i∈rS.items,i.fn=1:=by
 have h:rS.items.all (fun i=>decide (i.fn=1))=true:=by kernel_rfl
 exact fun i hi=>of_decide_eq_true (List.all_eq_true.1 h i hi)
theorem DS:rS.join=b0:=by kernel_rfl
theorem Tc:uS RG 1 rS:=uS.SQ DQ (Ol DS (fun y hy=>by
 rw[Kz]at hy;cases hy;exact⟨fun _=>UT (by decide) GO,fun h=>absurd h (by decide)⟩))
theorem O9:(ny RG 1 rS).2=([[⟨2,0,b0⟩]],0):=by kernel_rfl
theorem GN:ki ai knT=(rS,(ki ai knT).2):=rfl
theorem GP:ed dY 1=(RG,(ed dY 1).2):=rfl
theorem O8(h:ad){d1:DB}{be:Int}(hd:ed dY 1=(d1,be)){st:aA}{pe:Int}(yl:gT ⟨#[115,101,108,101,99,116,32,99,111,117,110,116,40,42,41,32,102,114,111,109,32,116,97]⟩=true)(j7:ki ai ⟨#[115,101,108,101,99,116,32,99,111,117,110,116,40,42,41,32,102,114,111,109,32,116,97]⟩=(st,pe))(hx:gy st)(ej:EJ 0 d1)(ET:uS d1 1 st){D1:DB}(hD:ny d1 1 st=(D1,[[⟨2,0,b0⟩]],0)):Ct 17 [] h (fun v h'=>Le h h'/\v=.bool true):=by
 obtain⟨A,hA⟩:=Ar.ex;obtain⟨DR,YQ⟩:∃DR:List Row,DR=[[⟨2,0,b0⟩]]:=⟨_,rfl⟩;rw[<-YQ]at hD;refine af A (ar T17.aw T17.aZ) Tryz.func17 rfl (by kernel_rfl) ?_;cbv;refine BX (fun h1 b1 n1 c1 b2 n2 c2 b3 n3 c3 b4 n4 c4 d1' m1 e1 d2 m2 e2 d3 m3 e3 d4 m4 e4 l1 yL _=>?_);cbv;refine qC yL 1 (pk.sj.DE.small (by decide)) hd (fun h2 b1 n1 c1 b2 n2 c2 b3 n3 c3 b4 n4 c4 l2 Oy=>?_);replace Oy:gA h2 (.agg #[.slice b1 n1 c1,.slice b2 n2 c2,.slice b3 n3 c3,.slice b4 n4 c4]) d1:=Oy;cbv;refine IY yl j7 (fun h3 w l3 qs=>?_);have qs':=qs;obtain⟨b5,n5,c5,b6,n6,c6,b7,n7,c7,b8,n8,c8,b9,n9,c9,fJ,iq,fI,hw,-⟩:=qs'.out;subst hw;replace qs:N0 h3 _ st:=qs;have Rv:=Oy.mono l3;clear j7 yl hd;cbv;refine doC Rv hx ej (by decide) (by decide) ET qs (fun h4 x1 m1 y1 x2 m2 y2 x3 m3 y3 x4 m4 y4 b n c l4 qd4 s4=>?_);rw[hD]at s4 |-;replace s4:Sl 59 aN h4 (.slice b n c) DR:=s4;have hn:n=1:=by rw[s4.len,YQ];rfl
 subst hn;have hr:DR[0]? =some [⟨2,0,b0⟩]:=by rw[YQ];rfl
 have lt:Le h h4:=((l1.trans l2).trans l3).trans l4;have R8:A .aD .eql 0 0=true:=by rw[av A];rfl
 have f11:A .aD .eql (A .nat 1) 1=true:=by rw[av A,hA.nat];rfl
 have EO:=s4.bF (by omega:0<1);clear ET hx ej hD YQ;cbv;rw[R8];cbv;rw[f11];cbv;refine⟨⟨EO,by decide⟩,?_⟩;cbv;refine rA s4 hr rfl (fun b9 n9 c9 s9=>?_);have K4:n9=1:=s9.len;subst K4;cbv;rw[f11];cbv;refine⟨⟨EO,by decide⟩,?_⟩;cbv;refine rA s4 hr rfl (fun b9 n9 c9 s9=>?_);have K4:n9=1:=s9.len;subst K4;cbv;refine⟨⟨s9.bF (by omega),by decide⟩,?_⟩;cbv;refine s9.load (i:=0) (x:=⟨2,0,b0⟩) rfl rfl (fun cs aF=>?_);replace aF:cs=[.int .i64 2,.int .i64 0,.string b0]:=aF;subst aF;cbv;refine⟨lt,?_⟩;exact congrArg Value.bool ((xW A ⟨2,0,au []⟩ ⟨2,0,au []⟩).trans (by kernel_rfl))
theorem Ky(h:ad):Ct 17 [] h (fun v h'=>Le h h'/\v=.bool true):=by
 have hko:=O9;obtain⟨D,hD⟩:∃D,ny RG 1 rS=D:=⟨_,rfl⟩;rw[hD]at hko;obtain⟨D1,DR,De⟩:=D;obtain⟨rfl,rfl⟩:DR=[[⟨2,0,b0⟩]]/\De=0:=by cases hko;exact⟨rfl,rfl⟩
 exact O8 h GP (by kernel_rfl) GN KA Pa Tc hD
theorem yu(a:Int)(n:Nat)(hn:0<n)(mK:n<=2^40)(h:ad){k:Value->ad->Prop}(hk:∀z i,aO z i->i=(a % (n:Int)).toNat->i<n->k (.int .i64 z) h):Ct 22 [.int .i64 a,.int .i64 (n:Int)] h k:=by
 obtain⟨A,hA⟩:=Ar.ex;obtain⟨m,hm⟩:∃m:Int,m=(n:Int):=⟨_,rfl⟩;rw[<-hm];have PU:m≠0:=by omega
 have Hv:A .bu .rem .i64 a m=a.tmod m:=by rw[hA.bu];rfl
 have ke:a.tmod m<m:=by have:=Int.tmod_lt_of_pos a (show 0<m by omega);omega
 have jt:-m<a.tmod m:=by have:=Int.lt_tmod_of_pos a (show 0<m by omega);omega
 have Nw:a % m=if a.tmod m<0 then a.tmod m+m else a.tmod m:=by
  rw[Int.tmod_eq_emod];have h1:=Int.emod_nonneg a PU;have h2:=Int.emod_lt_of_pos a (show 0<m by omega);by_cases hc:0<=a\/m ∣ a
  ·rw[if_pos hc];rw[if_neg (by omega)];omega
  ·rw[if_neg hc];have:(m.natAbs:Int)=m:=by omega
   rw[this,if_pos (by omega)];omega
 generalize ht:a.tmod m=t at *;generalize eu:A .aD .lss t 0=u;have fu:=eu;rw[bt A]at eu;have key:∀z:Int,z=a % m->k (.int .i64 z) h:=fun z hz=>by
  have h1:=Int.emod_nonneg a PU;have h2:=Int.emod_lt_of_pos a (show 0<m by omega);refine hk z (a % (n:Int)).toNat ⟨?_⟩ rfl ?_
  ·rw[<-hm];omega
  ·rw[<-hm];omega
 have se:t<0->A .bu .add .i64 t m=t+m:=fun h=>by
  rw[hA.bu];simp only[bu];rw[IntWalk.i64_in _ (by omega)]
 refine af A (ar T22.aw T22.aZ) Tryz.func22 rfl (by kernel_rfl) ?_;cbv;refine⟨PU,?_⟩;cbv;rw[Hv];rw[fu];cases u with
 |true=>have K2:=of_decide_eq_true eu;have ni:=key (t+m) (by rw[Nw,if_pos K2]);cbv;rw[se K2];exact ni
 |false=>have K2:=of_decide_eq_false eu;have ni:=key t (by rw[Nw,if_neg K2]);cbv;exact ni
theorem JS{e:Nat}{h:ad}{n:Nat}{l:List ByteArray}(hb:h n=some (.cells (List.toArray (l.map Value.string)) e (0,0)))(hl:l.length<=2^40):Sl e cK h (.slice (some ⟨n,0,none⟩) l.length l.length) l:=by refine Sl.fresh (s:=cK) (h:=h) (n:=n) (xs:=l) (cap:=l.length) (c:=l.map Value.string) hb ⟨by show 0+l.length*1<=_;simp,fun i x hx=>?_⟩ hl (Nat.le_refl _);show((l.map Value.string).drop (0+i*1)).take 1=[.string x];obtain⟨h1,h2⟩:=List.getElem?_eq_some_iff.1 hx;rw[Nat.zero_add,Nat.mul_one,List.drop_eq_getElem_cons (by simpa using h1)];simp[h2]
theorem KD{e:Nat}{h:ad}{n:Nat}{l:List Int}(hb:h n=some (.cells (List.toArray (l.map (Value.int .i64))) e (0,0)))(hl:l.length<=2^40):Sl e ef h (.slice (some ⟨n,0,none⟩) l.length l.length) l:=by refine Sl.fresh (s:=ef) (h:=h) (n:=n) (xs:=l) (cap:=l.length) (c:=l.map (Value.int .i64)) hb ⟨by show 0+l.length*1<=_;simp,fun i x hx=>?_⟩ hl (Nat.le_refl _);show((l.map (Value.int .i64)).drop (0+i*1)).take 1=[.int .i64 x];obtain⟨h1,h2⟩:=List.getElem?_eq_some_iff.1 hx;rw[Nat.zero_add,Nat.mul_one,List.drop_eq_getElem_cons (by simpa using h1)];simp[h2]
def doB(d:DB)(s:Int)(st:aA):Bool:= !decide (st.kind=6)||(match eQ st (gQ (dF s (cF st) d).1 st)with
 | (y,e)=>decide (e≠0)||(decide (y.order<0)&&(!y.mE||(decide (y.group<0)&&st.items.all fun i=>decide (i.fn=1)))))
end Go.S
