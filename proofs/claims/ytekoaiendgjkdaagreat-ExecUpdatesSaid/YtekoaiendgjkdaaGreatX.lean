import Derived.Test.YtekoaiendgjkdaaGreatQG
import Derived.Test.YtekoaiendgjkdaaGreatVB
import Derived.Test.YtekoaiendgjkdaaGreatNA
import Derived.Test.YtekoaiendgjkdaaGreatEC
import Derived.Test.YtekoaiendgjkdaaGreatQF
import Derived.Test.YtekoaiendgjkdaaGreatEB
set_option linter.unusedVariables false
set_option linter.unusedSimpArgs false
set_option linter.unusedSectionVars false
set_option maxRecDepth 100000
set_option maxHeartbeats 8000000
namespace Go.S
open Go.Sx Go.Proofs
def Qe(s:ByteArray):Bool:=s.data.toList.all fun c=>decide (c.toNat<128)
def YA(s:ByteArray):Bool:=Qe s&&decide (s.size<=2^40)
def Xa(n:Nd):Bool:=YA n.name&&m6 n.v.n
def stB(x:az):Bool:=x.on.all Xa&&x.bM.all Xa&&x.exprs.all (fun e=>e.all Xa)&&x.items.all (fun i=>i.e.all Xa)&&decide (x.exprs.length<=2^20)&&(!decide (x.kind=4)||decide (x.exprs.length=x.names.length))&&YA x.group&&YA x.order&&decide (x.items.length<=2^20)&&decide (x.names.length<=2^20)
theorem Dw{s:ByteArray}(h:YA s=true):Nm s:=by unfold YA Qe at h;rw[Bool.and_eq_true]at h;exact⟨pz.2 fun c hc=>of_decide_eq_true (List.all_eq_true.1 h.1 c hc),of_decide_eq_true h.2⟩
theorem zK{l:List Nd}(h:l.all Xa=true):mI l:=fun n hn=>by
 have:=List.all_eq_true.1 h n hn;unfold Xa at this;rw[Bool.and_eq_true]at this;exact⟨Dw this.1,this.2⟩
theorem Dd{x:az}(h:stB x=true):eG x:=by
 unfold stB at h;simp only[Bool.and_eq_true]at h;obtain⟨⟨⟨⟨⟨⟨⟨⟨⟨h1,h2⟩,h3⟩,h4⟩,h5⟩,h6⟩,h7⟩,h8⟩,h9⟩,kx⟩:=h;refine⟨zK h1,zK h2,fun e he=>zK (List.all_eq_true.1 h3 e he),fun i hi=>zK (List.all_eq_true.1 h4 i hi),of_decide_eq_true h5,fun hk=>?_,Dw h7,Dw h8,of_decide_eq_true h9,of_decide_eq_true kx⟩;rw[Bool.or_eq_true]at h6;rcases h6 with h6|h6
 ·rw[Bool.not_eq_true',decide_eq_false_iff_not]at h6;exact absurd hk h6
 ·exact of_decide_eq_true h6
theorem doT{h:ad}{d:DB}{v:Value}(qd:gj h v d){n0:Nat}(ej:EJ n0 d)(gP:n0+700<2^18){t:ByteArray}(uo:ek t=true){st:az}{pe:Int}(fO:dk ao t=(st,pe))(hx:eG st)(xg:j8 d 0 st){k:Value->ad->Prop}(hk:Nv h (jD d 0 st) k):
 Ct 23 [v,.string t] h k:=by
 obtain⟨A,hA⟩:=Ar.ex;obtain⟨a1,i1,j1,a2,i2,j2,a3,i3,j3,a4,i4,j4,rfl⟩:=qd.form;refine ah A (ar T23.aA T23.bm) Tryz.func23 rfl (by kernel_rfl) ?_;cbv;refine EA uo fO (fun h1 w l1 qs=>?_);have Yi:=qs;obtain⟨b5,n5,c5,b6,n6,c6,b7,n7,c7,b8,n8,c8,b9,n9,c9,fG,gG,fF,hw,-⟩:=Yi.out;subst hw;replace qs:Qu h1 _ st:=qs;have Bl:=qd.mono l1;clear fO;cbv;refine doC Bl hx ej gP (by decide) xg qs (fun h2 x1 m1 d1 x2 m2 d2 x3 m3 d3 x4 m4 d4 b n c l2 ME s2=>?_);have ae:=hk h2 x1 m1 d1 x2 m2 d2 x3 m3 d3 x4 m4 d4 b n c (l1.trans l2) ME s2;generalize jD d 0 st=D at *;obtain⟨D1,DR,De⟩:=D;clear hk;cbv;exact ae
theorem Tf{s:ByteArray}(h:Qe s=true)(hl:s.size<=2^30):Mv s:=⟨pz.2 fun c hc=>of_decide_eq_true (List.all_eq_true.1 h c hc),hl⟩
def dbB(d:DB):Bool:=d.aE.all (fun t=>Qe t.S.name&&decide (t.S.name.size<=2^30)&&t.rows.all (fun r=>r.all fun v=>m6 v.n))&&d.au.all (fun w=>w.log.all fun c=>c.row.all fun v=>m6 v.n)
theorem LK{d:DB}(h:dbB d=true):gE fM Mv d:=by
 unfold dbB at h;rw[Bool.and_eq_true]at h;obtain⟨h1,h2⟩:=h;refine⟨fun t ht=>?_,fun t ht r hr v hv=>?_,fun w hw c hc v hv=>?_⟩
 ·have:=List.all_eq_true.1 h1 t ht;simp only[Bool.and_eq_true]at this;exact Tf this.1.1 (of_decide_eq_true this.1.2)
 ·have:=List.all_eq_true.1 h1 t ht;simp only[Bool.and_eq_true]at this;exact List.all_eq_true.1 (List.all_eq_true.1 this.2 r hr) v hv
 ·exact List.all_eq_true.1 (List.all_eq_true.1 (List.all_eq_true.1 h2 w hw) c hc) v hv
theorem Jd:SJ 0 ed:=by
 have c01:eX (cL 0).S.name (cL 1).S.name=-1:=by kernel_rfl
 have c02:eX (cL 0).S.name (cL 2).S.name=-1:=by kernel_rfl
 have P0:eX (cL 1).S.name (cL 2).S.name=-1:=by kernel_rfl
 have jC:∀t,(cL t).S.cols=bB/\(cL t).S.key=0/\SO (cL t).rows:=fun t=>⟨rfl,rfl,SO.nil⟩;have kg:(cL 0).S.name.size=2:=by kernel_rfl
 have ma:(cL 1).S.name.size=2:=by kernel_rfl
 have nN:(cL 2).S.name.size=2:=by kernel_rfl
 have hT:TW ed.aE:=by
  refine⟨?_,fun t ht=>?_,by show(3:Nat)<=8;omega⟩
  ·show [cL 0,cL 1,cL 2].Pairwise _;simp only[List.pairwise_cons,List.mem_cons,List.not_mem_nil,or_false,forall_eq_or_imp,forall_eq,List.Pairwise.nil,and_true,c01,c02,P0,false_imp_iff,implies_true];decide
  ·have ht:t∈[cL 0,cL 1,cL 2]:=ht;simp only[List.mem_cons,List.not_mem_nil,or_false]at ht;rcases ht with rfl|rfl|rfl
   ·exact⟨(jC 0).1,(jC 0).2.1,(jC 0).2.2,by omega⟩
   ·exact⟨(jC 1).1,(jC 1).2.1,(jC 1).2.2,by omega⟩
   ·exact⟨(jC 2).1,(jC 2).2.1,(jC 2).2.2,by omega⟩
 refine⟨⟨hT,List.Pairwise.nil,fun w hw=>(by cases hw),fun w hw=>(by cases hw),fun w hw=>(by cases hw),fun i j x y hi=>?_,fun x hx=>(by cases hx),fun x hx=>(by cases hx),fun w hw=>(by cases hw)⟩,fun w hw=>(by cases hw),Nat.le_refl _,Nat.le_refl _⟩;have hi:([]:List bZ)[i]? =some x:=hi;simp at hi
theorem og:EJ 0 ed:=⟨Jd,LK (by kernel_rfl)⟩
theorem Cx{n:Nat}{d:DB}(h:EJ n d)(hn:n<=2^17)(s:Int)(ha:dbB (ey d s).1=true):EJ n (ey d s).1:=⟨Ji h.sj (by omega) s,LK ha⟩
def knT:ByteArray:=(ax [115,101,108,101,99,116,32,99,111,117,110,116,40,42,41,32,102,114,111,109,32,116,97])
def ui:az:=(dk ao knT).1
theorem Ou:eG ui:=Dd (by kernel_rfl)
def Xj:DB:=(ey ed 1).1
theorem TH:EJ 0 Xj:=Cx og (by decide) 1 (by kernel_rfl)
theorem Ot:dm ui (dA (dc 1 (bC ui) Xj).1 ui)=(⟨-1,-1,true⟩,0):=by kernel_rfl
theorem GU:ui.kind=6:=by kernel_rfl
theorem Kc:∀i∈ui.items,i.fn=1:=by
 have h:ui.items.all (fun i=>decide (i.fn=1))=true:=by kernel_rfl
 exact fun i hi=>of_decide_eq_true (List.all_eq_true.1 h i hi)
theorem GV:ui.join=b0:=by kernel_rfl
theorem YR:j8 Xj 1 ui:=j8.E1 GU (Jn GV (fun y hy=>by
 rw[Ot]at hy;cases hy;exact⟨fun _=>gatOk (by decide) Kc,fun h=>absurd h (by decide)⟩))
theorem TF:(jD Xj 1 ui).2=([[⟨2,0,b0⟩]],0):=by kernel_rfl
theorem Kb:dk ao knT=(ui,(dk ao knT).2):=rfl
theorem Ke:ey ed 1=(Xj,(ey ed 1).2):=rfl
theorem TE(h:ad){d1:DB}{be:Int}(hd:ey ed 1=(d1,be)){st:az}{pe:Int}(uo:ek ⟨#[115,101,108,101,99,116,32,99,111,117,110,116,40,42,41,32,102,114,111,109,32,116,97]⟩=true)(fO:dk ao ⟨#[115,101,108,101,99,116,32,99,111,117,110,116,40,42,41,32,102,114,111,109,32,116,97]⟩=(st,pe))(hx:eG st)(ej:EJ 0 d1)(xg:j8 d1 1 st){D1:DB}(hD:jD d1 1 st=(D1,[[⟨2,0,b0⟩]],0)):Ct 17 [] h (fun v h'=>Le h h'/\v=.bool true):=by
 obtain⟨A,hA⟩:=Ar.ex;obtain⟨DR,hDR⟩:∃DR:List Row,DR=[[⟨2,0,b0⟩]]:=⟨_,rfl⟩;rw[<-hDR]at hD;refine ah A (ar T17.aA T17.bm) Tryz.func17 rfl (by kernel_rfl) ?_;cbv;refine zA (fun h1 b1 n1 c1 b2 n2 c2 b3 n3 c3 b4 n4 c4 d1' m1 e1 d2 m2 e2 d3 m3 e3 d4 m4 e4 l1 Bl _=>?_);cbv;refine oV Bl 1 (og.sj.CM.small (by decide)) hd (fun h2 b1 n1 c1 b2 n2 c2 b3 n3 c3 b4 n4 c4 l2 ME=>?_);replace ME:gj h2 (.agg #[.slice b1 n1 c1,.slice b2 n2 c2,.slice b3 n3 c3,.slice b4 n4 c4]) d1:=ME;cbv;refine EA uo fO (fun h3 w l3 qs=>?_);have Yi:=qs;obtain⟨b5,n5,c5,b6,n6,c6,b7,n7,c7,b8,n8,c8,b9,n9,c9,fG,gG,fF,hw,-⟩:=Yi.out;subst hw;replace qs:Qu h3 _ st:=qs;have AH:=ME.mono l3;clear fO uo hd;cbv;refine doC AH hx ej (by decide) (by decide) xg qs (fun h4 x1 m1 y1 x2 m2 y2 x3 m3 y3 x4 m4 y4 b n c l4 W8 s4=>?_);rw[hD]at s4 |-;replace s4:Sl 59 aL h4 (.slice b n c) DR:=s4;have hn:n=1:=by rw[s4.len,hDR];rfl
 subst hn;have hr:DR[0]? =some [⟨2,0,b0⟩]:=by rw[hDR];rfl
 have lt:Le h h4:=((l1.trans l2).trans l3).trans l4;have HA:A .aG .eql 0 0=true:=by rw[aw A];rfl
 have f11:A .aG .eql (A .nat 1) 1=true:=by rw[aw A,hA.nat];rfl
 have Fj:=s4.bu (by omega:0<1);clear xg hx ej hD hDR;cbv;rw[HA];cbv;rw[f11];cbv;refine⟨⟨Fj,by decide⟩,?_⟩;cbv;refine iO s4 hr rfl (fun b9 n9 c9 s9=>?_);have MW:n9=1:=s9.len;subst MW;cbv;rw[f11];cbv;refine⟨⟨Fj,by decide⟩,?_⟩;cbv;refine iO s4 hr rfl (fun b9 n9 c9 s9=>?_);have MW:n9=1:=s9.len;subst MW;cbv;refine⟨⟨s9.bu (by omega),by decide⟩,?_⟩;cbv;refine s9.load (i:=0) (x:=⟨2,0,b0⟩) rfl rfl (fun cs aC=>?_);replace aC:cs=[.int .i64 2,.int .i64 0,.string b0]:=aC;subst aC;cbv;refine⟨lt,?_⟩;exact congrArg Value.bool ((uM A ⟨2,0,ax []⟩ ⟨2,0,ax []⟩).trans (by kernel_rfl))
theorem zV(h:ad):Ct 17 [] h (fun v h'=>Le h h'/\v=.bool true):=by
 have hko:=TF;obtain⟨D,hD⟩:∃D,jD Xj 1 ui=D:=⟨_,rfl⟩;rw[hD]at hko;obtain⟨D1,DR,De⟩:=D;obtain⟨rfl,rfl⟩:DR=[[⟨2,0,b0⟩]]/\De=0:=by cases hko;exact⟨rfl,rfl⟩
 exact TE h Ke (by kernel_rfl) Kb Ou TH YR hD
theorem qM(a:Int)(n:Nat)(hn:0<n)(nN:n<=2^40)(h:ad){k:Value->ad->Prop}(hk:∀z i,aS z i->i=(a % (n:Int)).toNat->i<n->k (.int .i64 z) h):Ct 22 [.int .i64 a,.int .i64 (n:Int)] h k:=by
 obtain⟨A,hA⟩:=Ar.ex;obtain⟨m,hm⟩:∃m:Int,m=(n:Int):=⟨_,rfl⟩;rw[<-hm];have KW:m≠0:=by omega
 have DU:A .bA .rem .i64 a m=a.tmod m:=by rw[hA.bA];rfl
 have ll:a.tmod m<m:=by have:=Int.tmod_lt_of_pos a (show 0<m by omega);omega
 have jS:-m<a.tmod m:=by have:=Int.lt_tmod_of_pos a (show 0<m by omega);omega
 have BU:a % m=if a.tmod m<0 then a.tmod m+m else a.tmod m:=by
  rw[Int.tmod_eq_emod];have h1:=Int.emod_nonneg a KW;have h2:=Int.emod_lt_of_pos a (show 0<m by omega);by_cases hc:0<=a\/m ∣ a
  ·rw[if_pos hc];rw[if_neg (by omega)];omega
  ·rw[if_neg hc];have:(m.natAbs:Int)=m:=by omega
   rw[this,if_pos (by omega)];omega
 generalize ht:a.tmod m=t at *;generalize eu:A .aG .lss t 0=u;have fu:=eu;rw[bE A]at eu;have key:∀z:Int,z=a % m->k (.int .i64 z) h:=fun z hz=>by
  have h1:=Int.emod_nonneg a KW;have h2:=Int.emod_lt_of_pos a (show 0<m by omega);refine hk z (a % (n:Int)).toNat ⟨?_⟩ rfl ?_
  ·rw[<-hm];omega
  ·rw[<-hm];omega
 have rJ:t<0->A .bA .add .i64 t m=t+m:=fun h=>by
  rw[hA.bA];simp only[bA];rw[IntWalk.i64_in _ (by omega)]
 refine ah A (ar T22.aA T22.bm) Tryz.func22 rfl (by kernel_rfl) ?_;cbv;refine⟨KW,?_⟩;cbv;rw[DU];rw[fu];cases u with
 |true=>have Ae:=of_decide_eq_true eu;have nh:=key (t+m) (by rw[BU,if_pos Ae]);cbv;rw[rJ Ae];exact nh
 |false=>have Ae:=of_decide_eq_false eu;have nh:=key t (by rw[BU,if_neg Ae]);cbv;exact nh
theorem qS{e:Nat}{h:ad}{n:Nat}{l:List ByteArray}(hb:h n=some (.cells (List.toArray (l.map Value.string)) e (0,0)))(hl:l.length<=2^40):Sl e cB h (.slice (some ⟨n,0,none⟩) l.length l.length) l:=by refine Sl.fresh (s:=cB) (h:=h) (n:=n) (xs:=l) (cap:=l.length) (c:=l.map Value.string) hb ⟨by show 0+l.length*1<=_;simp,fun i x hx=>?_⟩ hl (Nat.le_refl _);show((l.map Value.string).drop (0+i*1)).take 1=[.string x];obtain⟨h1,h2⟩:=List.getElem?_eq_some_iff.1 hx;rw[Nat.zero_add,Nat.mul_one,List.drop_eq_getElem_cons (by simpa using h1)];simp[h2]
def doB(d:DB)(s:Int)(st:az):Bool:= !decide (st.kind=6)||(match dm st (dA (dc s (bC st) d).1 st)with
 | (y,e)=>decide (e≠0)||(decide (y.order<0)&&(!y.jK||(decide (y.group<0)&&st.items.all fun i=>decide (i.fn=1)))))
end Go.S
