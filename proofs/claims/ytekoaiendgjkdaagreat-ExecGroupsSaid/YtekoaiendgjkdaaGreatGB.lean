import Derived.Test.YtekoaiendgjkdaaGreatGA
set_option linter.unusedVariables false
set_option linter.unusedSimpArgs false
set_option linter.unusedSectionVars false
set_option maxRecDepth 100000
set_option maxHeartbeats 8000000
namespace Go.S
open Go.Sx Go.Proofs
def dM(d:DB)(hd:cg)(act:cW->cW×dV×Int):DB×Int:=
 if decide ((aL d hd).2≠0)=true then aL d hd
 else match (aL d hd).1.az[di (aQ (aL d hd).1.az hd.table)]?,(aL d hd).1.aq[di (bQ (aL d hd).1.aq hd.s)]? with
  |some t,some w=>
   if decide ((act t).2.2≠19)&&decide ((w.log.length:Int)>=60)then((aL d hd).1,4)
   else if decide ((act t).2.2=0)=true then
    (⟨(aL d hd).1.az.set (di (aQ (aL d hd).1.az hd.table)) (act t).1,(aL d hd).1.aq.set (di (bQ (aL d hd).1.aq hd.s)) ⟨w.s,w.log++[⟨hd.table,(act t).2.1.op,(act t).2.1.row⟩],w.marks⟩,(aL d hd).1.holds,(aL d hd).1.waits⟩,0)
   else((aL d hd).1,(act t).2.2)
  |_,_=>aL d hd
theorem ZM{d:DB}{h:ad}{v:Value}(q:ik h v d){n:Nat}(ok:ue n d)(jm:n<2^18)(s:Int)(jx:-2^63<=s/\s<2^63)(name:ByteArray){rb:Nat}{r:Row}{vb:Option Addr}{vn vc:Nat}(gr:h rb=some (.cells #[.slice vb vn vc] 59 (0,0)))(qr:Sl 61 bq h (.slice vb vn vc) r):
 Ct 165 [v,.int .i64 s,.string name,.func (.func 164) #[] #[.pointer (some ⟨rb,0,none⟩)]] h (fun v' h'=>∃v1 e d',v'=.tuple #[v1,.int .i64 e]/\Le h h'/\ik h' v1 d'/\(d',e)=dM d ⟨s,name,true⟩ (dK r)):=by
 obtain⟨A,hA⟩:=Ar.ex;obtain⟨b1,n1,c1,b2,n2,c2,b3,n3,c3,b4,n4,c4,rfl⟩:=q.form;have hH:=ok.holds;have cKI:=ok.waits;generalize hD:dM d ⟨s,name,true⟩ (dK r)=D;have dKM:=xZ ok ⟨s,name,true⟩ jx;have cQX:=HW ok (hd:=⟨s,name,true⟩) jx;unfold dM at hD;obtain⟨D0,bQb⟩:∃D0,aL d ⟨s,name,true⟩=D0:=⟨_,rfl⟩;rw[bQb]at hD dKM cQX;obtain⟨⟨dT,dW,dH,oA⟩,e⟩:=D0;refine ah A (ax Rm.aK Rm.bF) Tryz.func165 rfl (by kernel_rfl) ?_;cbv;refine pS q (fun h1 c tb wb ct cw W l1 hc wB Ai wF tZ hW aQA Uw cs=>?_);have cs:lA h1 c tb wb ct cw d.az (Wf d.aq) d.holds d.waits 0:=by rw[hW]at cs;exact cs
 cbv;refine MO cs ⟨s,name,true⟩ wF tZ ok.rows (by omega) (by omega) bQb (fun h2 k2 QM=>?_);have Bs:lA h2 c tb wb ct cw dT (Wf dW) dH oA 0:=QM;clear QM;have hD:(if decide (e≠0)=true then((⟨dT,dW,dH,oA⟩,e):DB×Int)
  else match dT[di (aQ dT name)]?,dW[di (bQ dW s)]? with
  |some t,some w=>
   if decide (((dK r) t).2.2≠19)&&decide ((w.log.length:Int)>=60)then(⟨dT,dW,dH,oA⟩,4)
   else if decide (((dK r) t).2.2=0)=true then
    (⟨dT.set (di (aQ dT name)) ((dK r) t).1,dW.set (di (bQ dW s)) ⟨w.s,w.log++[⟨name,((dK r) t).2.1.op,((dK r) t).2.1.row⟩],w.marks⟩,dH,oA⟩,0)
   else(⟨dT,dW,dH,oA⟩,((dK r) t).2.2)
  |_,_=>(⟨dT,dW,dH,oA⟩,e))=D:=hD
 have cQX:e=0->jG (aQ dT name)=true/\jG (bQ dW s)=true:=cQX;have iZc:mV dT:=dKM.ok.rows;clear dKM;have l2:Le h h2:=l1.dJ (by simp[hc,wB,Ai]) k2;have Ue:(Wf dW).map (·.1)=dW:=by unfold Wf;rw[mXB];simp[Function.comp_def]
 generalize eu:A .aI .neq e 0=u;have fu:=eu;rw[aC A]at eu;rw[eu]at hD;cbv;rw[fu];cases u with
 |true=>
  have cU:D=(⟨dT,dW,dH,oA⟩,e):=by rw[<-hD];rfl
  refine Bs.elim (fun m1 m2 x3 m3 k3 x4 m4 k4 o g0 _ _ _ _ _ _ _ jW=>?_);rw[Ue]at jW;cbv;rw[ai A];refine aB g0 rfl rfl ?_;cbv;refine fi jW (fun h3 b1 n1 c1 b2 n2 c2 b3 n3 c3 b4 n4 c4 l3 jX=>?_);cbv;exact⟨_,e,_,rfl,l2.trans l3,jX,cU.symm⟩
 |false=>
  have lK:e=0:=mQW.1 (mQI eu);subst lK;obtain⟨JC,MW⟩:=cQX rfl;have aKD:=lr JC;have YT:=lr MW;simp only[aQ,bQ,mQz]at aKD YT;obtain⟨t,ht⟩:=aE (xs:=dT) (i:=di (aQ dT name)) aKD;obtain⟨w,hw⟩:=aE (xs:=dW) (i:=di (bQ dW s)) YT;cbv;refine(vu Bs name).mono (fun v h3 hR=>?_);obtain⟨l3,zt,tt,rfl,Ub⟩:=hR;obtain⟨wQ,-⟩:=Ub.at_;have wQ:aS zt (di (aQ dT name)):=wQ;cbv;refine(Ay (Bs.mono l3) s).mono (fun v h4 hR=>?_);obtain⟨l4,zw,tw,rfl,Ua⟩:=hR;obtain⟨wA,-⟩:=Ua.at_;have wA:aS zw (di (bQ dW s)):=by have h1:aS zw (di (dQ (Wf dW) s)):=wA;rw[qO]at h1;exact h1
  have dKq:=(HH.1 ht).1;have dKp:=(HH.1 hw).1;generalize aKC:di (aQ dT name)=kt at *;generalize aKB:di (bQ dW s)=kw at *;have AY:=l3.trans l4;have Ps:=l2.trans AY;have QL:=Bs.mono AY;refine QL.elim (fun m1 m2 x3 m3 k3 x4 m4 k4 o f0 f1 f2 f3 f4 f5 f6 f7 _=>?_);have sH:m2=dW.length:=by rw[f4];simp[Wf]
  have KD:(Wf dW)[kw]? =some (w,true):=by unfold Wf;rw[mQU,hw];rfl
  have MU:(some (⟨wb,0,none⟩:Addr)).isSome=true/\0<=zw/\zw<(m2:Int):=⟨rfl,wA.ix (by omega)⟩;have Ii:(some (⟨tb,0,none⟩:Addr)).isSome=true/\0<=zt/\zt<(m1:Int):=⟨rfl,wQ.ix (by omega)⟩;cbv;rw[ai A];rw[ai A];refine aB f0 rfl rfl ?_;cbv;refine⟨MU,?_⟩;cbv;rw[ai A];rw[ai A];refine aB f0 rfl rfl ?_;cbv;refine⟨Ii,?_⟩;cbv;obtain⟨⟨nm,cols,key,only⟩,rows⟩:=t;refine xU (f3.sl f2) ht wQ.eq (fun y1 y2 y3 y4 y5 y6 r1 r2=>?_);have mF:y5<=2^37:=by have h1:=iZc _ (GD ht);have h2:=r2.len;have h1:rows.length<=2^36:=h1;have h2:y5=rows.length:=h2;omega
  cbv;refine aZr (nm:=nm) (key:=key) (only:=only) r1 r2 (Ps _ _ gr) (qr.mono (Ps.t _)) mF (fun h5 z1 z2 z3 z4 z5 z6 z7 z8 z9 e1 T1 C1 l5 r3 r4 r5 r6=>?_);have xS:=Ps.trans l5;have Lk:=QL.mono l5;have cU:D=(if decide (e1≠19)&&decide ((w.log.length:Int)>=60)then(⟨dT,dW,dH,oA⟩,4)
   else if decide (e1=0)=true then(⟨dT.set kt ⟨⟨nm,cols,key,only⟩,T1⟩,dW.set kw ⟨w.s,w.log++[⟨name,C1.op,C1.row⟩],w.marks⟩,dH,oA⟩,0)else(⟨dT,dW,dH,oA⟩,e1)):=by
   rw[<-hD];simp only[mXY,if_false];rw[ht,hw];simp only;rw[<-r6]
  have fin:∀(e:Int) (hh:ad) (v:Value),Le h hh->ik hh v ⟨dT,dW,dH,oA⟩->D=(⟨dT,dW,dH,oA⟩,e)->∃v1 e1 d',Value.tuple #[v,.int .i64 e]=.tuple #[v1,.int .i64 e1]/\Le h hh/\ik hh v1 d'/\(d',e1)=D:=
   fun e hh v l r hE=>⟨v,e,_,rfl,l,r,hE.symm⟩
  refine Lk.elim (fun p1 p2 p3 p4 p5 p6 p7 p8 p9 g0 i1 i2 i3 i4 i5 i6 i7 jW=>?_);rw[Ue]at jW;generalize JG:A .aI .neq e1 19=dXl;have f19:=JG;rw[aC A]at JG;generalize DH:A .aI .eql e1 0=u0;have um:=DH;rw[aA A]at DH;rw[JG,DH]at cU;cbv;rw[f19];cases dXl with
  |false=>
   have cXn:e1=19:=mQW.1 (mQI JG);have Wb:u0=false:=by rw[<-DH,cXn];rfl
   subst Wb;have cU:D=(⟨dT,dW,dH,oA⟩,e1):=cU;cbv;rw[um];cbv;rw[ai A];refine aB g0 rfl rfl ?_;cbv;refine fi jW (fun h6 b1 n1 c1 b2 n2 c2 b3 n3 c3 b4 n4 c4 l6 jX=>?_);cbv;exact fin e1 _ _ (xS.trans l6) jX cU
  |true=>
   have Ia:=wA.eq;cbv;refine qj (i5.sl i4) KD wA.eq (fun y1 y2 y3 r7 r9 _=>?_);generalize Bi:A .aI .geq (A .nat y2) 60=aXj;have f60:=Bi;rw[cf A,hA.nat]at Bi;simp only[mQJ]at Bi;have tD:y2=w.log.length:=r7.len;have HY:aXj=false->y2<60:=fun e=>by rw[e]at Bi;have:=mQI Bi;omega
   rw[tD]at Bi;rw[Bi]at cU;cbv;rw[f60];cases aXj with
   |true=>
    have cU:D=(⟨dT,dW,dH,oA⟩,4):=cU;have Im:A .aI .eql 4 0=false:=by rw[aA A];rfl
    cbv;rw[Im];cbv;rw[ai A];refine aB g0 rfl rfl ?_;cbv;refine fi jW (fun h6 b1 n1 c1 b2 n2 c2 b3 n3 c3 b4 n4 c4 l6 jX=>?_);cbv;exact fin 4 _ _ (xS.trans l6) jX cU
   |false=>
    have aP:=HY rfl;have pN:w.log.length<60:=by omega
    cbv;rw[um];cases u0 with
    |false=>have cU:D=(⟨dT,dW,dH,oA⟩,e1):=cU;cbv;rw[ai A];refine aB g0 rfl rfl ?_;cbv;refine fi jW (fun h6 b1 n1 c1 b2 n2 c2 b3 n3 c3 b4 n4 c4 l6 jX=>?_);cbv;exact fin e1 _ _ (xS.trans l6) jX cU
    |true=>
     have fL:e1=0:=mQB DH;have cU:D=(⟨dT.set kt ⟨⟨nm,cols,key,only⟩,T1⟩,dW.set kw ⟨w.s,w.log++[⟨name,C1.op,C1.row⟩],w.marks⟩,dH,oA⟩,0):=cU;subst fL;have Ih:(some (⟨tb,0,none⟩:Addr)).isSome=true/\0<=zt/\zt<(p1:Int):=⟨rfl,wQ.ix (by omega)⟩;cbv;rw[ai A];rw[ai A];refine aB g0 rfl rfl ?_;cbv;refine⟨Ih,?_⟩;cbv;have rT:ef.R h5 [.string nm,.slice z1 z2 z3,.int .i64 key,.bool only,.slice z4 z5 z6] ⟨⟨nm,cols,key,only⟩,T1⟩:=⟨_,_,_,_,_,_,rfl,r3,r4⟩;refine i3.setAt (by decide) (i:=kt) (by omega) wQ.eq rfl rT (fun h6 k6 t6 o6=>?_);have TP:c≠tb:=wF;have g6:=k6 _ _ g0 (by simpa using TP);have i56:=i5.mono (t6 _ (by decide));have dXV:=r5.mono (t6 _ (by decide));cbv;refine qj (i56.sl i4) KD wA.eq (fun y1 y2 y3 r7 r9 ag=>?_);have dJz:=r9 rfl;subst dJz;cbv;intro Yq h7 TA e7;have l7:Le h6 h7:=by rw[e7];exact Le.set TA
     have g7:=(congrFun e7 Yq).trans ae;have qx:=bA (s:=dI) g7 (x:=⟨name,C1.op,C1.row⟩) ⟨_,_,_,rfl,dXV.mono (l7.t _)⟩;cbv;refine ag _ _ l7 ?_;cbv;refine⟨⟨_,rfl,rfl⟩,?_⟩;cbv;have tD:=r7.len;refine lz (r7.mono (l7.t _)) qx (by omega) rfl (by decide) (by simp only at tD;omega) (fun aQg c8 h8 dKd l8 iXL o8=>?_);have zP:=l7.trans l8;have i58:=i56.mono (zP.t _);have s8:=o8.sl (n:=y3+1) (by simp only[nX,mQu];simp only at tD;omega);cbv;refine i58.LS (by decide) (i:=kw) KD wA.eq rfl (off:=1) (by simp[cX]) (x':=(⟨w.s,w.log++[⟨name,C1.op,C1.row⟩],w.marks⟩,false)) (fun cs ay=>?_) (fun h9 k9 t9 o9=>?_)
     ·obtain⟨y1,y2,y3,y4,y5,y6,rfl,q1,q2,q3⟩:=ay;exact⟨_,_,_,y4,y5,y6,rfl,s8,q2,fun e=>by cases e⟩
     have g8:=zP _ _ g6;have TO:c≠wb:=tZ;have g9:=k9 _ _ g8 (by simpa using TO);have bKQ:Le h h9:=by have h1:Le h h6:=xS.dJ (by simpa using wB) k6;exact(h1.trans zP).dJ (by simpa using Ai) k9
     have JB:ik h9 (.agg #[.slice (some ⟨tb,0,none⟩) p1 ct,.slice (some ⟨wb,0,none⟩) p2 cw,.slice p3 p4 p5,.slice p6 p7 p8]) ⟨dT.set kt ⟨⟨nm,cols,key,only⟩,T1⟩,dW.set kw ⟨w.s,w.log++[⟨name,C1.op,C1.row⟩],w.marks⟩,dH,oA⟩:=by refine⟨_,_,_,_,_,_,_,_,_,_,_,_,_,rfl,((o6.mono (zP.t _)).mono (t9 _ (by decide))).sl (by rw[mXo];exact i2),o9.sl (by rw[mXo];exact i4),((i6.mono (t6 _ (by decide))).mono (zP.t _)).mono (t9 _ (by decide)),((i7.mono (t6 _ (by decide))).mono (zP.t _)).mono (t9 _ (by decide)),?_⟩;rw[mZd,Ue]
     cbv;rw[ai A];refine aB g9 rfl rfl ?_;cbv;refine fi JB (fun fL b1 n1 c1 b2 n2 c2 b3 n3 c3 b4 n4 c4 fU jX=>?_);cbv;exact⟨_,0,_,rfl,bKQ.trans fU,jX,cU.symm⟩
def fF(d:DB)(s:Int)(name:ByteArray)(r:Row):DB×Int:=dM d ⟨s,name,true⟩ (dK r)
def iz(d:DB)(s:Int)(name:ByteArray)(k:cO):DB×Int:=dM d ⟨s,name,true⟩ (dR k)
def dC(d:DB)(s:Int):DB×Int:=if jG (bQ d.aq s)=true then(kh d s,0)else(d,2)
theorem IY(ws:List fJ):(Wf ws).map (·.1)=ws:=by unfold Wf;rw[mXB];simp[Function.comp_def]
theorem aZs{d:DB}{h:ad}{v:Value}(q:ik h v d){n:Nat}(ok:ue n d)(jm:n<2^18)(s:Int)(jx:-2^63<=s/\s<2^63)(name:ByteArray){r:Row}{vb:Option Addr}{vn vc:Nat}(qr:Sl 61 bq h (.slice vb vn vc) r){D:DB×Int}(hD:fF d s name r=D){k:Value->ad->Prop}
 (hk:bJg h D.1 D.2 k):Ct 83 [v,.int .i64 s,.string name,.slice vb vn vc] h k:=by
 obtain⟨A,hA⟩:=Ar.ex;obtain⟨b1,n1,c1,b2,n2,c2,b3,n3,c3,b4,n4,c4,rfl⟩:=q.form;refine ah A (ax hQc.aK hQc.bF) Tryz.func83 rfl (by kernel_rfl) ?_;cbv;intro rb h1 KJ e1;have l1:Le h h1:=by rw[e1];exact Le.set KJ
 have g1:=(congrFun e1 rb).trans ae;cbv;refine(ZM (q.mono l1) ok jm s jx name g1 (qr.mono (l1.t _))).mono (fun v h2 hR=>?_);obtain⟨v1,e,d',hv,l2,hd,hE⟩:=hR;have aQv:(d',e)=D:=hE.trans hD;subst aQv;obtain⟨b1,n1,c1,b2,n2,c2,b3,n3,c3,b4,n4,c4,hf⟩:=hd.form;rw[hv,hf];have af:=hk h2 b1 n1 c1 b2 n2 c2 b3 n3 c3 b4 n4 c4 (l1.trans l2) (by rw[<-hf];exact hd);cbv;exact af
theorem lA.new{d:DB}{h1:ad}{c tb wb ct cw:Nat}{W:List (fJ×Bool)}(cs:lA h1 c tb wb ct cw d.az W d.holds d.waits 0)(hW:W=d.aq.map fun w=>(w,true)):lA h1 c tb wb ct cw d.az (Wf d.aq) d.holds d.waits 0:=by rw[hW]at cs;exact cs
theorem cQD{d:DB}{h:ad}{v:Value}(q:ik h v d){n:Nat}(ok:ue n d)(jm:n<2^18)(s:Int)(name:ByteArray)(x:Bool){D:DB×Int}(hD:aL d ⟨s,name,x⟩=D){k:Value->ad->Prop}
 (hk:bJg h D.1 D.2 k):Ct 159 [v,.int .i64 s,.string name,.bool x] h k:=by
 obtain⟨A,hA⟩:=Ar.ex;obtain⟨b1,n1,c1,b2,n2,c2,b3,n3,c3,b4,n4,c4,rfl⟩:=q.form;have hH:=ok.holds;have cKI:=ok.waits;obtain⟨⟨dT,dW,dH,oA⟩,e⟩:=D;refine ah A (ax gXA.aK gXA.bF) Tryz.func159 rfl (by kernel_rfl) ?_;cbv;refine pS q (fun h1 c tb wb ct cw W l1 hc wB Ai wF tZ hW aQA Uw cs=>?_);cbv;refine MO (cs.new hW) ⟨s,name,x⟩ wF tZ ok.rows (by omega) (by omega) hD (fun h2 k2 QM=>?_);have Bs:lA h2 c tb wb ct cw dT (Wf dW) dH oA 0:=QM;clear QM;have l2:Le h h2:=l1.dJ (by simp[hc,wB,Ai]) k2;refine Bs.elim (fun m1 m2 x3 m3 k3 x4 m4 k4 o g0 _ _ _ _ _ _ _ jW=>?_);rw[IY]at jW;cbv;rw[ai A];refine aB g0 rfl rfl ?_;cbv;refine fi jW (fun h3 b1 n1 c1 b2 n2 c2 b3 n3 c3 b4 n4 c4 l3 jX=>?_);have af:=hk h3 b1 n1 c1 b2 n2 c2 b3 n3 c3 b4 n4 c4 (l2.trans l3) jX;cbv;exact af
theorem OO{d:DB}{h:ad}{v:Value}(q:ik h v d){n:Nat}(ok:ue n d)(jm:n<2^18)(s:Int){D:DB×Int}(hD:dC d s=D){k:Value->ad->Prop}
 (hk:bJg h D.1 D.2 k):Ct 38 [v,.int .i64 s] h k:=by
 obtain⟨A,hA⟩:=Ar.ex;obtain⟨b1,n1,c1,b2,n2,c2,b3,n3,c3,b4,n4,c4,rfl⟩:=q.form;have hH:=ok.holds;have cKI:=ok.waits;refine ah A (ax jKK.aK jKK.bF) Tryz.func38 rfl (by kernel_rfl) ?_;cbv;refine pS q (fun h1 c tb wb ct cw W l1 hc wB Ai wF tZ hW aQA Uw cs=>?_);have cs:=cs.new hW;cbv;refine sO cs s (fun h2 z t l2 hz ht=>?_);rw[qO]at ht;have ko:=l1.trans l2;have q2:=q.mono ko;cases t with
 |false=>
  have cU:D=(d,2):=by rw[<-hD];unfold dC;rw[<-ht];rfl
  subst cU;cbv;rw[show A .not false=true by rw[hA.not];rfl];cbv;refine fi q2 (fun h3 b1 n1 c1 b2 n2 c2 b3 n3 c3 b4 n4 c4 l3 jX=>?_);have af:=hk h3 b1 n1 c1 b2 n2 c2 b3 n3 c3 b4 n4 c4 (ko.trans l3) jX;cbv;exact af
 |true=>
  have cU:D=(kh d s,0):=by rw[<-hD];unfold dC;rw[<-ht];rfl
  subst cU;cbv;rw[show A .not true=false by rw[hA.not];rfl];cbv;refine bXB (cs.mono l2) wF tZ ok.rows s (by omega) (by omega) (fun h3 k3 Zx=>?_);rw[Rb,Ni]at Zx;have l3:Le h h3:=ko.dJ (by simp[hc,wB,Ai]) k3;refine Zx.elim (fun m1 m2 x3 m3 k3 x4 m4 k4 o g0 _ _ _ _ _ _ _ jW=>?_);rw[IY]at jW;cbv;rw[ai A];refine aB g0 rfl rfl ?_;cbv;refine fi jW (fun h4 b1 n1 c1 b2 n2 c2 b3 n3 c3 b4 n4 c4 l4 jX=>?_);have af:=hk h4 b1 n1 c1 b2 n2 c2 b3 n3 c3 b4 n4 c4 (l3.trans l4) jX;cbv;exact af
def yL(l:List oy)(nm:ByteArray):Nat->Option Nat
 |0=>none
 |i+1=>match l[i]? with
  |some m=>if decide (m.name=nm)=true then some i else yL l nm i
  |none=>yL l nm i
def kg(d:DB)(s:Int)(nm:ByteArray):DB×Int:=
 if jG (bQ d.aq s)=true then match d.aq[di (bQ d.aq s)]? with
  |some w=>match yL w.marks nm w.marks.length with
   |some k=>(⟨eV d.az (w.log.drop (fN (((w.marks[k]?).map (·.at_)).getD 0) w.log.length)),d.aq.set (di (bQ d.aq s)) ⟨w.s,w.log.take (fN (((w.marks[k]?).map (·.at_)).getD 0) w.log.length),w.marks.take (k+1)⟩,d.holds,d.waits⟩,0)
   |none=>(d,2)
  |none=>(d,2)
 else(d,2)
theorem _root_.Go.Sx.Kp.dZW{h h':ad}{n1 n2 e1 e2:Nat}{c1 c2:Array Value}{f1 f2:Nat×Nat}(k:Kp [n1,n2] h h')(g1:h n1=some (.cells c1 e1 f1))(g2:h n2=some (.cells c2 e2 f2)){tys:List Nat}(h1:e1∉tys)(h2:e2∉tys):bR tys h h':=fun b d e' NQ hm hb=>
 k b _ hb (by
  intro jq;simp at jq;rcases jq with rfl|rfl
  ·rw[g1]at hb;cases hb;exact h1 hm
  ·rw[g2]at hb;cases hb;exact h2 hm)
theorem cZv{d:DB}{h:ad}{v:Value}(q:ik h v d){n:Nat}(ok:ue n d)(s:Int)(nm:ByteArray){D:DB×Int}(hD:kg d s nm=D){k:Value->ad->Prop}
 (hk:bJg h D.1 D.2 k):Ct 40 [v,.int .i64 s,.string nm] h k:=by
 obtain⟨A,hA⟩:=Ar.ex;obtain⟨b1,n1,c1,b2,n2,c2,b3,n3,c3,b4,n4,c4,rfl⟩:=q.form;refine ah A (ax jKI.aK jKI.bF) Tryz.func40 rfl (by kernel_rfl) ?_;cbv;refine pS q (fun h1 c tb wb ct cw W l1 hc wB Ai wF tZ hW aQA Uw cs=>?_);have cs:=cs.new hW;cbv;refine sO cs s (fun h2 z t l2 hz ht=>?_);rw[qO]at ht hz;have ko:=l1.trans l2;have q2:=q.mono ko;cases t with
 |false=>
  have cU:D=(d,2):=by rw[<-hD];unfold kg;rw[<-ht];rfl
  subst cU;cbv;rw[show A .not false=true by rw[hA.not];rfl];cbv;refine fi q2 (fun h3 b1 n1 c1 b2 n2 c2 b3 n3 c3 b4 n4 c4 l3 jX=>?_);have af:=hk h3 b1 n1 c1 b2 n2 c2 b3 n3 c3 b4 n4 c4 (ko.trans l3) jX;cbv;exact af
 |true=>
  have aP:di (bQ d.aq s)<d.aq.length:=by have:=lr ht.symm;simpa[bQ]using this
  obtain⟨w,hw⟩:=aE aP;have cU:(match yL w.marks nm w.marks.length with
   |some k=>((⟨eV d.az (w.log.drop (fN (((w.marks[k]?).map (·.at_)).getD 0) w.log.length)),d.aq.set (di (bQ d.aq s)) ⟨w.s,w.log.take (fN (((w.marks[k]?).map (·.at_)).getD 0) w.log.length),w.marks.take (k+1)⟩,d.holds,d.waits⟩,0):DB×Int)
   |none=>(d,2))=D:=by rw[<-hD];unfold kg;rw[<-ht,hw];rfl
  clear hD;obtain⟨i,hi⟩:∃i,i=di (bQ d.aq s):=⟨_,rfl⟩;rw[<-hi]at cU hw hz;clear hi aP;have Bs:=cs.mono l2;have KD:(Wf d.aq)[i]? =some (w,true):=by unfold Wf;rw[mQU,hw];rfl
  refine Bs.elim (fun m1 m2 x3 m3 k3 x4 m4 k4 o g0 _ _ f2 f3 f4 _ _ _=>?_);have sH:m2=d.aq.length:=by rw[f3];simp[Wf]
  have ke:=(HH.1 hw).1;have cJ:(some (⟨wb,0,none⟩:Addr)).isSome=true/\0<=z/\z<(m2:Int):=⟨rfl,hz.ix (by omega)⟩;obtain⟨ws,wl,wm⟩:=w;have cU:(match yL wm nm wm.length with
   |some k=>((⟨eV d.az (wl.drop (fN (((wm[k]?).map (·.at_)).getD 0) wl.length)),d.aq.set i ⟨ws,wl.take (fN (((wm[k]?).map (·.at_)).getD 0) wl.length),wm.take (k+1)⟩,d.holds,d.waits⟩,0):DB×Int)
   |none=>(d,2))=D:=cU
  cbv;rw[show A .not true=false by rw[hA.not];rfl];cbv;rw[ai A];rw[ai A];refine aB g0 rfl rfl ?_;cbv;refine⟨cJ,?_⟩;cbv;refine HJ (f4.sl f3) KD hz.eq (fun y1 y2 y3 qm _=>?_);have qm:Sl 161 dN h2 (.slice y1 y2 y3) wm:=qm;have Am:=qm.len;have iQX:=qm.bound;have nP:aQH (A .bB .sub .i64 (A .nat y2) 1) y2:=(aS.nat y2).pred (by omega);obtain⟨I,aY⟩:∃I:Int->Nat->ad->Prop,∀g m h',I g m h'=∃j:Nat,aQH g j/\m=j/\j<=y2/\h'=h2/\yL wm nm wm.length=yL wm nm j:=⟨_,fun _ _ _=>rfl⟩;cbv;refine aX.go (G:=Int) (fun g=>[(12,.v (.int .i64 g))]) (fun _=>[(3,[.slice b1 n1 c1,.slice b2 n2 c2,.slice b3 n3 c3,.slice b4 n4 c4]),(6,[.slice none 0 0,.slice none 0 0,.slice none 0 0,.slice none 0 0])]) (fun m g h'=>I g m h') y2 (A .bB .sub .i64 (A .nat y2) 1) ⟨?_,?_,?_⟩ (by rw[aY];exact⟨y2,nP,rfl,mQt _,rfl,by rw[Am]⟩) ?_
  ·cbv
  ·cbv
  ·cbv
  ·intro m g h' hI;rw[aY]at hI;cbv;obtain⟨j,hg,hm,hj,rfl,hF⟩:=hI;rw[hg.ge (A:=A)];cases j with
   |zero=>have hF:yL wm nm wm.length=none:=hF;rw[hF]at cU;have cU:(d,2)=D:=cU;subst cU;rw[show decide (1<=0)=false from rfl];cbv;refine fi q2 (fun h3 b1 n1 c1 b2 n2 c2 b3 n3 c3 b4 n4 c4 l3 jX=>?_);have af:=hk h3 b1 n1 c1 b2 n2 c2 b3 n3 c3 b4 n4 c4 (ko.trans l3) jX;cbv;exact af
   |succ j=>
    have Qf:aS g j:=hg.HO;obtain⟨⟨xn,xa⟩,hx⟩:=aE (xs:=wm) (i:=j) (by omega);have TU:y1.isSome=true/\0<=g/\g<(y2:Int):=⟨qm.aT (by omega),Qf.ix (by omega)⟩;have tE:yL wm nm (j+1)=if decide (xn=nm)=true then some j else yL wm nm j:=by show(match wm[j]? with|some m=>if decide (m.name=nm)=true then some j else yL wm nm j|none=>yL wm nm j)=_;rw[hx]
    rw[tE]at hF;have iJo:A .iQ .eql xn nm=decide (xn=nm):=cS A ..;rw[show decide (1<=j+1)=true from kS (by omega)];cbv;refine⟨TU,?_⟩;cbv;refine qm.cC hx Qf.eq (o:=0) (m:=1) (by decide) (fun cs ay=>?_);have ay:cs=[.string xn,.int .i64 xa]:=ay;subst ay;cbv;rw[iJo];generalize decide (xn=nm)=u at *;cases u with
    |false=>
     have hF:yL wm nm wm.length=yL wm nm j:=hF;have hn:=Qf.pred (A:=A) (by omega);have cD:I (A .bB .sub .i64 g 1) j h':=by rw[aY];exact⟨j,hn,rfl,by omega,rfl,hF⟩
     cbv;refine⟨j,_,by omega,⟨?_,?_,?_⟩,cD⟩
     ·cbv
     ·cbv
     ·cbv
    |true=>
     have hF:yL wm nm wm.length=some j:=hF;rw[hF]at cU;have cU:((⟨eV d.az (wl.drop (fN (((wm[j]?).map (·.at_)).getD 0) wl.length)),d.aq.set i ⟨ws,wl.take (fN (((wm[j]?).map (·.at_)).getD 0) wl.length),wm.take (j+1)⟩,d.holds,d.waits⟩,0):DB×Int)=D:=cU;rw[hx]at cU;have cU:((⟨eV d.az (wl.drop (fN xa wl.length)),d.aq.set i ⟨ws,wl.take (fN xa wl.length),wm.take (j+1)⟩,d.holds,d.waits⟩,0):DB×Int)=D:=cU;have KS:=Qf.succ (A:=A) (by omega);have ND:=qm.Om (A:=A) (i:=j+1) (by omega);have jX:=fh (A:=A) KS;have dKC:0<=A .bB .add .i64 g 1/\A .bB .add .i64 g 1<=(y3:Int):=by have:=KS.eq;omega
     cbv;refine⟨TU,?_⟩;cbv;refine qm.cC hx Qf.eq (o:=1) (m:=1) (by decide) (fun cs ay=>?_);have ay:cs=[.string xn,.int .i64 xa]:=ay;subst ay;cbv;refine aXg Bs wF tZ ok.rows hz KD xa (fun h3 jQY fJC=>?_);have Zx:lA h3 c tb wb ct cw (eV d.az (wl.drop (fN xa wl.length))) ((Wf d.aq).set i (⟨ws,wl.take (fN xa wl.length),wm⟩,false)) d.holds d.waits 0:=fJC;clear fJC;refine Zx.elim (fun dZR hJL x3 m3 k3 x4 m4 k4 o cXz ho F1 F2 F3 F4 F6 F7 _=>?_);have dKk:hJL=d.aq.length:=by rw[F3];simp[Wf]
     have iXI:(some (⟨wb,0,none⟩:Addr)).isSome=true/\0<=z/\z<(hJL:Int):=⟨rfl,hz.ix (by omega)⟩;cbv;rw[ai A];rw[ai A];refine aB cXz rfl rfl ?_;cbv;refine⟨dKC,?_⟩;cbv;refine⟨iXI,?_⟩;cbv;have YL:Sl 161 dN h' (.slice (A .cut y1 0 (A .nat y3) 2) (j+1) y3) (wm.take (j+1)):=ND;have iQm:Sl 161 dN h3 (.slice (A .cut y1 0 (A .nat y3) 2) (j+1) y3) (wm.take (j+1)):=by obtain⟨a1,Wr,-⟩:=f2.out;obtain⟨a2,cKG,-⟩:=f4.out;exact YL.mono (jQY.dZW Wr cKG (by decide) (by decide))
     have iQd:((Wf d.aq).set i (⟨ws,wl.take (fN xa wl.length),wm⟩,false))[i]? =some (⟨ws,wl.take (fN xa wl.length),wm⟩,false):=by rw[mZj (by simpa[Wf]using ke)]
     rw[jX];refine F4.LS (by decide) iQd hz.eq rfl (off:=2) (by simp[cX]) (x':=(⟨ws,wl.take (fN xa wl.length),wm.take (j+1)⟩,false)) (fun cs ay=>?_) (fun h4 jQX t4 o4=>?_)
     ·obtain⟨x1,lZO,z1,x2,lZN,z2,rfl,j1,j2,j3⟩:=ay;exact⟨_,_,_,_,_,_,rfl,j1,iQm,fun hf=>by cases hf⟩
     have lQS:=jQX _ _ cXz (by simpa using tZ);have JB:ik h4 (.agg #[.slice (some ⟨tb,0,none⟩) dZR ct,.slice (some ⟨wb,0,none⟩) hJL cw,.slice x3 m3 k3,.slice x4 m4 k4]) ⟨eV d.az (wl.drop (fN xa wl.length)),d.aq.set i ⟨ws,wl.take (fN xa wl.length),wm.take (j+1)⟩,d.holds,d.waits⟩:=by refine⟨_,_,_,_,_,_,_,_,_,_,_,_,_,rfl,(F2.mono (t4 _ (by decide))).sl F1,o4.sl (by rw[mXo];exact F3),F6.mono (t4 _ (by decide)),F7.mono (t4 _ (by decide)),?_⟩;simp only[mZd,IY,List.set_set]
     have l4:Le h h4:=ko.dJ (bs:=[tb,wb]) (by simp[wB,Ai]) (jQY.trans (jQX.sub (by simp)));subst cU;cbv;rw[ai A];refine aB lQS rfl rfl ?_;cbv;refine fi JB (fun h5 b1 n1 c1 b2 n2 c2 b3 n3 c3 b4 n4 c4 l5 jX=>?_);have af:=hk h5 b1 n1 c1 b2 n2 c2 b3 n3 c3 b4 n4 c4 (l4.trans l5) jX;cbv;exact af
end Go.S
